import PyProof.Rows.All
import HandS.ForMost
import HandS.ForExc
import HandS.Wide
import HandS.Rev
import HandS.RevRange
import HandS.Zip
import HandS.Conv
import HandS.IsInst
import HandS.TupAny
import HandS.SortInts
import HandS.TupMul
import KE.GoesMore
import HandS.Iter
import HandS.TryOnly
import HandS.Ends
import PyProof.WalksMore
import KE.SortData
import HandS.Deep
import KE.GoesEnum
import KE.SortKeyHeap
import HandS.SortKw
import HandS.Keys
import KE.DataFind
import HandS.More
import KE.KDictZip
import HandS.RevTup
import PySem.Challenge.RW_nestwright_k58_outer_ones_or_weights
set_option Elab.async false
set_option linter.all false
set_option maxRecDepth 100000
set_option maxHeartbeats 4000000
namespace NW
open PySem PySem.Spec PyProof.Rows L2
inductive U where
  | d (x : PyData) | ref (i : Nat) | flow | scr (ns : List Int) | dct (es : List (Int × PyData))
structure Fl where
  cells : List Int
  place : Int
  held : Int
  seed : Int
  many : Int
inductive Ob where
  | lst (xs : List PyData) | dct (es : List (Int × PyData)) | dead
structure Sto where
  fl : Option Fl
  obs : List Ob
structure Exc where
  cls : Str
  fs : List (Str × PyData)
inductive Res (α : Type) where
  | ok (a : α) (s : Sto) | ex (e : Exc) (s : Sto) | no
def Res.bind {α β : Type} (r : Res α) (k : α → Sto → Res β) : Res β := match r with
  | .ok a s => k a s
  | .ex e s => .ex e s
  | .no => .no
abbrev Loc := List (Option U)
abbrev ME := Loc → Sto → Res U
abbrev MB := Loc → Sto → Res Bool
abbrev ML := Loc → Sto → Res (List PyData)
abbrev MA := Loc → Sto → Res (List U)
inductive Out where
  | nx (l : Loc) (s : Sto) | rt (u : U) (s : Sto) | bk (l : Loc) (s : Sto) | ct (l : Loc) (s : Sto) | ex (e : Exc) (l : Loc) (s : Sto) | no
abbrev MS := Loc → Sto → Out
structure Gx where
  K : PySem.W.Frag
  fa : Addr
  fb : Addr
  O0 : Addr → Prop
  cls : Str → Option Addr
  W : Value → Option Addr → L2.St → Hp → Prop
def Own (G : Gx) (β : List Addr) (st : Sto) (p : Addr) : Prop := (st.fl.isSome = true ∧ p = G.fa) ∨ ∃ (i : Nat) (o : Ob), st.obs[i]? = some o ∧ o ≠ Ob.dead ∧ β[i]? = some p
def Ban (G : Gx) (β : List Addr) (st : Sto) (p : Addr) : Prop := G.O0 p ∨ Own G β st p
def SqLB (K : PySem.W.Frag) (B : Addr → Prop) (H : Hp) (a : Addr) (xs : List V) : Prop := H a = some (.lst xs) ∧ ¬ B a
def SqTB (K : PySem.W.Frag) (B : Addr → Prop) (H : Hp) (a : Addr) (xs : List V) : Prop :=
  (Rd H a (.tup xs) ∧ ¬ B a) ∨ ∃ (o : Obj) (its : Array Value) (n : Nat), K.lookup a = some o ∧ o.cls = .type "tuple" ∧ o.data = .seq its n ∧ its.size ≤ sizeLine ∧ Vals xs its.toList
def SqSB (K : PySem.W.Frag) (B : Addr → Prop) (H : Hp) (a : Addr) (xs : List V) : Prop :=
  (Rd H a (.lst xs) ∧ ¬ B a) ∨ ∃ (o : Obj) (its : Array Value) (n : Nat), K.lookup a = some o ∧ o.cls = .type "list" ∧ o.dict = none ∧ o.data = .seq its n ∧ its.size ≤ sizeLine ∧ Vals xs its.toList
theorem SqSB.q {K : PySem.W.Frag} {B : Addr → Prop} {H : Hp} {a : Addr} {xs : List V} (h : SqSB K B H a xs) : SqL K H a xs := h.imp (fun x => x.1) id
theorem SqLB.q {K : PySem.W.Frag} {B : Addr → Prop} {H : Hp} {a : Addr} {xs : List V} (h : SqLB K B H a xs) : SqL K H a xs := .inl (.inl h.1)
theorem SqTB.q {K : PySem.W.Frag} {B : Addr → Prop} {H : Hp} {a : Addr} {xs : List V} (h : SqTB K B H a xs) : SqT K H a xs := h.imp (fun x => x.1) id
mutual
inductive RT (K : PySem.W.Frag) (B : Addr → Prop) (H : Hp) : V → PyData → Prop
  | non : RT K B H .non .none
  | bl (b : Bool) : RT K B H (.bl b) (.bool b)
  | int (i : Int) : RT K B H (.int i) (.int i)
  | str (x : Str) : RT K B H (.str x) (.str x)
  | lst {a : Addr} {xs : List V} {ds : List PyData} : SqLB K B H a xs → RTs K B H xs ds → RT K B H (.ref a) (.list ds)
  | tup {a : Addr} {xs : List V} {ds : List PyData} : SqTB K B H a xs → RTs K B H xs ds → RT K B H (.ref a) (.tuple ds)
inductive RTs (K : PySem.W.Frag) (B : Addr → Prop) (H : Hp) : List V → List PyData → Prop
  | nil : RTs K B H [] []
  | cons {v : V} {vs : List V} {d : PyData} {ds : List PyData} : RT K B H v d → RTs K B H vs ds → RTs K B H (v :: vs) (d :: ds)
end
def Keep (B : Addr → Prop) (H : Hp) (B' : Addr → Prop) (H' : Hp) : Prop := ∀ b o, H b = some o → ¬ B b → H' b = some o ∧ ¬ B' b
theorem Keep.rd {B B' : Addr → Prop} {H H' : Hp} (k : Keep B H B' H') {a : Addr} {u : HO} (h : Rd H a u ∧ ¬ B a) : Rd H' a u ∧ ¬ B' a := by
  obtain ⟨h | ⟨o, h⟩, n⟩ := h
  · have z := k a _ h n; exact ⟨.inl z.1, z.2⟩
  · have z := k a _ h n; exact ⟨.inr ⟨o, z.1⟩, z.2⟩
section
variable {K : PySem.W.Frag} {B B' : Addr → Prop} {H H' : Hp}
mutual
theorem RT.mono (k : Keep B H B' H') : ∀ (d : PyData) (v : V), RT K B H v d → RT K B' H' v d
  | .none, _, h => by cases h; exact .non
  | .bool b, _, h => by cases h; exact .bl b
  | .int i, _, h => by cases h; exact .int i
  | .str x, _, h => by cases h; exact .str x
  | .list ds, _, h => by
    cases h with
    | lst hs ha => exact .lst (k _ _ hs.1 hs.2) (RTs.mono k ds _ ha)
  | .tuple ds, _, h => by
    cases h with
    | tup hs ha => exact .tup (hs.imp (fun z => k.rd z) id) (RTs.mono k ds _ ha)
  | .dict _, _, h => by cases h
theorem RTs.mono (k : Keep B H B' H') : ∀ (ds : List PyData) (vs : List V), RTs K B H vs ds → RTs K B' H' vs ds
  | [], _, h => by cases h; exact .nil
  | d :: ds, _, h => by
    cases h with
    | cons h1 h2 => exact .cons (RT.mono k d _ h1) (RTs.mono k ds _ h2)
end
mutual
theorem RT.dp : ∀ (d : PyData) (v : V), RT K B H v d → Dp K H v d
  | .none, _, h => by cases h; exact .non
  | .bool b, _, h => by cases h; exact .bl b
  | .int i, _, h => by cases h; exact .int i
  | .str x, _, h => by cases h; exact .str x
  | .list ds, _, h => by
    cases h with
    | lst hs ha => exact .lst hs.q (RTs.dp ds _ ha)
  | .tuple ds, _, h => by
    cases h with
    | tup hs ha => exact .tup hs.q (RTs.dp ds _ ha)
  | .dict _, _, h => by cases h
theorem RTs.dp : ∀ (ds : List PyData) (vs : List V), RTs K B H vs ds → DpAll K H vs ds
  | [], _, h => by cases h; exact .nil
  | d :: ds, _, h => by
    cases h with
    | cons h1 h2 => exact .cons (RT.dp d _ h1) (RTs.dp ds _ h2)
end
theorem RTs.len : ∀ {ds : List PyData} {vs : List V}, RTs K B H vs ds → vs.length = ds.length
  | [], _, h => by cases h; rfl
  | d :: ds, _, h => by
    cases h with
    | cons h1 h2 => rw [List.length_cons, List.length_cons, RTs.len h2]
theorem RTs.get : ∀ {ds : List PyData} {vs : List V} {i : Nat} {d : PyData}, RTs K B H vs ds → ds[i]? = some d → ∃ v, vs[i]? = some v ∧ RT K B H v d
  | [], _, _, _, h, e => by simp at e
  | d :: ds, _, 0, _, h, e => by
    cases h with
    | cons h1 h2 => simp at e; subst e; exact ⟨_, rfl, h1⟩
  | d :: ds, _, i + 1, _, h, e => by
    cases h with
    | cons h1 h2 =>
      obtain ⟨v, a, b⟩ := RTs.get (i := i) h2 (by simpa using e)
      exact ⟨v, by simpa using a, b⟩
theorem RTs.append : ∀ {ds es : List PyData} {vs ws : List V}, RTs K B H vs ds → RTs K B H ws es → RTs K B H (vs ++ ws) (ds ++ es)
  | [], _, _, _, h, q => by cases h; exact q
  | d :: ds, _, _, _, h, q => by
    cases h with
    | cons h1 h2 => exact .cons h1 (RTs.append h2 q)
theorem RTs.take : ∀ {ds : List PyData} {vs : List V} (n : Nat), RTs K B H vs ds → RTs K B H (vs.take n) (ds.take n)
  | [], _, n, h => by cases h; simp; exact .nil
  | d :: ds, _, 0, h => by simp; exact .nil
  | d :: ds, _, n + 1, h => by
    cases h with
    | cons h1 h2 => exact .cons h1 (RTs.take n h2)
theorem RTs.drop : ∀ {ds : List PyData} {vs : List V} (n : Nat), RTs K B H vs ds → RTs K B H (vs.drop n) (ds.drop n)
  | [], _, n, h => by cases h; simp; exact .nil
  | d :: ds, _, 0, h => h
  | d :: ds, _, n + 1, h => by
    cases h with
    | cons h1 h2 => exact RTs.drop n h2
theorem RTs.set : ∀ {ds : List PyData} {vs : List V} {v : V} {d : PyData} (n : Nat), RTs K B H vs ds → RT K B H v d → RTs K B H (vs.set n v) (ds.set n d)
  | [], _, _, _, n, h, q => by cases h; exact .nil
  | d :: ds, _, _, _, 0, h, q => by
    cases h with
    | cons h1 h2 => exact .cons q h2
  | d :: ds, _, _, _, n + 1, h, q => by
    cases h with
    | cons h1 h2 => exact .cons h1 (RTs.set n h2 q)
theorem RTs.ints : ∀ {ns : List Int} {vs : List V}, RTs K B H vs (ns.map PyData.int) → vs = ns.map V.int
  | [], _, h => by cases h; rfl
  | n :: ns, _, h => by
    cases h with
    | cons h1 h2 => cases h1; rw [RTs.ints h2]; rfl
theorem RTs.bools : ∀ {ns : List Bool} {vs : List V}, RTs K B H vs (ns.map PyData.bool) → vs = ns.map V.bl
  | [], _, h => by cases h; rfl
  | n :: ns, _, h => by
    cases h with
    | cons h1 h2 => cases h1; rw [RTs.bools h2]; rfl
theorem RTs.ofInts : ∀ (ns : List Int), RTs K B H (ns.map V.int) (ns.map PyData.int)
  | [] => .nil
  | n :: ns => .cons (.int n) (RTs.ofInts ns)
mutual
theorem RT.weak (k : ∀ a, B' a → B a) : ∀ (d : PyData) (v : V), RT K B H v d → RT K B' H v d
  | .none, _, h => by cases h; exact .non
  | .bool b, _, h => by cases h; exact .bl b
  | .int i, _, h => by cases h; exact .int i
  | .str x, _, h => by cases h; exact .str x
  | .list ds, _, h => by
    cases h with
    | lst hs ha => exact .lst ⟨hs.1, fun w => hs.2 (k _ w)⟩ (RTs.weak k ds _ ha)
  | .tuple ds, _, h => by
    cases h with
    | tup hs ha => exact .tup (hs.imp (fun z => ⟨z.1, fun w => z.2 (k _ w)⟩) id) (RTs.weak k ds _ ha)
  | .dict _, _, h => by cases h
theorem RTs.weak (k : ∀ a, B' a → B a) : ∀ (ds : List PyData) (vs : List V), RTs K B H vs ds → RTs K B' H vs ds
  | [], _, h => by cases h; exact .nil
  | d :: ds, _, h => by
    cases h with
    | cons h1 h2 => exact .cons (RT.weak k d _ h1) (RTs.weak k ds _ h2)
end
end
def RU (G : Gx) (β : List Addr) (B : Addr → Prop) (H : Hp) (v : V) : U → Prop
  | .d x => RT G.K B H v x
  | .ref i => ∃ p, β[i]? = some p ∧ v = .ref p
  | .flow => v = .ref G.fa
  | .scr ns => ∃ a, v = .ref a ∧ SqSB G.K B H a (ns.map V.int)
  | .dct es => ∃ (a : Addr) (o : Obj) (kvs : List (Key × V)), v = .ref a ∧ (H a = some (.frz o (.dK kvs)) ∧ ¬ B a) ∧ kvs.map (·.1) = es.map (fun e => Sum.inl e.1) ∧ RTs G.K B H (kvs.map (·.2)) (es.map (·.2))
def flV (fb : Addr) (f : Fl) : List V := [.ref fb, .int f.place, .int f.held, .int f.seed, .int f.many]
structure FlR (G : Gx) (B : Addr → Prop) (H : Hp) (f : Fl) : Prop where
  here : H G.fa = some (.lst (flV G.fb f))
  cl : SqLB G.K B H G.fb (f.cells.map V.int)
def ObR (K : PySem.W.Frag) (B : Addr → Prop) (H : Hp) : Ob → HO → Prop
  | .lst xs, h => ∃ vs, h = .lst vs ∧ RTs K B H vs xs
  | .dct es, h => ∃ kvs : List (Key × V), h = .dK kvs ∧ kvs.map (·.1) = es.map (fun e => Sum.inl e.1) ∧ RTs K B H (kvs.map (·.2)) (es.map (·.2))
  | .dead, _ => False
theorem ObR.imp {K : PySem.W.Frag} {B B' : Addr → Prop} {H H' : Hp} (k : ∀ (ds : List PyData) (vs : List V), RTs K B H vs ds → RTs K B' H' vs ds) {o : Ob} {h : HO} (r : ObR K B H o h) : ObR K B' H' o h := by
  cases o with
  | lst xs => obtain ⟨vs, e, q⟩ := r; exact ⟨vs, e, k _ _ q⟩
  | dct es => obtain ⟨kvs, e, e2, q⟩ := r; exact ⟨kvs, e, e2, k _ _ q⟩
  | dead => exact r
theorem ObR.noTup {K : PySem.W.Frag} {B : Addr → Prop} {H : Hp} {o : Ob} {h : HO} (r : ObR K B H o h) (vs : List V) : h ≠ .tup vs := by
  cases o with
  | lst xs => obtain ⟨ws, e, q⟩ := r; rw [e]; intro z; cases z
  | dct es => obtain ⟨kvs, e, e2, q⟩ := r; rw [e]; intro z; cases z
  | dead => exact r.elim
theorem ObR.noFrz {K : PySem.W.Frag} {B : Addr → Prop} {H : Hp} {o : Ob} {h : HO} (r : ObR K B H o h) (x y) : h ≠ .frz x y := by
  cases o with
  | lst xs => obtain ⟨ws, e, q⟩ := r; rw [e]; intro z; cases z
  | dct es => obtain ⟨kvs, e, e2, q⟩ := r; rw [e]; intro z; cases z
  | dead => exact r.elim
structure Rl (G : Gx) (β : List Addr) (H : Hp) (st : Sto) : Prop where
  len : β.length = st.obs.length
  nodup : β.Nodup
  trk : ∀ p ∈ β, H p ≠ none
  oo : ∀ (i : Nat) (o : Ob), st.obs[i]? = some o → o ≠ Ob.dead → ∃ p h, β[i]? = some p ∧ H p = some h ∧ ObR G.K (Ban G β st) H o h
  flo : ∀ f, st.fl = some f → FlR G (Ban G β st) H f ∧ G.fa ∉ β
  o0 : ∀ p, G.O0 p → H p ≠ none ∧ ¬ Own G β st p ∧ ∀ vs, ¬ Rd H p (.tup vs)
theorem Rl.ob {G : Gx} {β : List Addr} {H : Hp} {st : Sto} (rl : Rl G β H st) (i : Nat) (xs : List PyData) (e : st.obs[i]? = some (Ob.lst xs)) : ∃ p vs, β[i]? = some p ∧ H p = some (.lst vs) ∧ RTs G.K (Ban G β st) H vs xs := by
  obtain ⟨p, h, a, b, vs, rfl, c⟩ := rl.oo i _ e (by intro z; cases z)
  exact ⟨p, vs, a, b, c⟩
theorem Rl.od {G : Gx} {β : List Addr} {H : Hp} {st : Sto} (rl : Rl G β H st) (i : Nat) (es : List (Int × PyData)) (e : st.obs[i]? = some (Ob.dct es)) : ∃ (p : Addr) (kvs : List (Key × V)), β[i]? = some p ∧ H p = some (.dK kvs) ∧ kvs.map (·.1) = es.map (fun e => Sum.inl e.1) ∧ RTs G.K (Ban G β st) H (kvs.map (·.2)) (es.map (·.2)) := by
  obtain ⟨p, h, a, b, kvs, rfl, c, d⟩ := rl.oo i _ e (by intro z; cases z)
  exact ⟨p, kvs, a, b, c, d⟩
structure Fut (G : Gx) (β : List Addr) (st : Sto) (H : Hp) (β' : List Addr) (st' : Sto) (H' : Hp) : Prop where
  ext : ∃ γ, β' = β ++ γ ∧ ∀ p ∈ γ, H p = none
  there : ∀ b, H b ≠ none → H' b ≠ none
  stay : ∀ b o, H b = some o → ¬ Own G β st b → H' b = some o ∧ ¬ Own G β' st' b
section
variable {G : Gx} {β β' β'' : List Addr} {st st' st'' : Sto} {H H' H'' : Hp} {v : V} {u : U}
theorem Fut.refl : Fut G β st H β st H := ⟨⟨[], by simp, by simp⟩, fun _ h => h, fun _ _ h n => ⟨h, n⟩⟩
theorem Fut.trans (a : Fut G β st H β' st' H') (b : Fut G β' st' H' β'' st'' H'') : Fut G β st H β'' st'' H'' := by
  refine ⟨?_, fun p h => b.there p (a.there p h), fun p o h n => b.stay p o (a.stay p o h n).1 (a.stay p o h n).2⟩
  obtain ⟨γ, rfl, h1⟩ := a.ext
  obtain ⟨δ, rfl, h2⟩ := b.ext
  refine ⟨γ ++ δ, by rw [List.append_assoc], fun p hp => ?_⟩
  rcases List.mem_append.mp hp with hp | hp
  · exact h1 p hp
  · cases e : H p with
    | none => rfl
    | some o => exact absurd (h2 p hp) (a.there p (by rw [e]; simp))
theorem Fut.keep (a : Fut G β st H β' st' H') : Keep (Ban G β st) H (Ban G β' st') H' := fun b o h n => by
  have z := a.stay b o h (fun w => n (.inr w))
  exact ⟨z.1, fun w => w.elim (fun w => n (.inl w)) z.2⟩
theorem Fut.rt (a : Fut G β st H β' st' H') {d : PyData} (h : RT G.K (Ban G β st) H v d) : RT G.K (Ban G β' st') H' v d := RT.mono a.keep d v h
theorem Fut.rts (a : Fut G β st H β' st' H') {ds : List PyData} {vs : List V} (h : RTs G.K (Ban G β st) H vs ds) : RTs G.K (Ban G β' st') H' vs ds := RTs.mono a.keep ds vs h
theorem Fut.obr (a : Fut G β st H β' st' H') {o : Ob} {h : HO} (r : ObR G.K (Ban G β st) H o h) : ObR G.K (Ban G β' st') H' o h := r.imp fun ds vs q => a.rts q
theorem Fut.get (a : Fut G β st H β' st' H') {i : Nat} {p : Addr} (h : β[i]? = some p) : β'[i]? = some p := by
  obtain ⟨γ, rfl, _⟩ := a.ext
  rw [List.getElem?_append_left (List.getElem?_eq_some_iff.mp h).1]; exact h
theorem Fut.ru (a : Fut G β st H β' st' H') (h : RU G β (Ban G β st) H v u) : RU G β' (Ban G β' st') H' v u := by
  cases u with
  | d x => exact a.rt h
  | ref i => obtain ⟨p, h1, h2⟩ := h; exact ⟨p, a.get h1, h2⟩
  | flow => exact h
  | scr ns =>
    obtain ⟨p, h1, h2⟩ := h
    exact ⟨p, h1, h2.imp (fun z => a.keep.rd z) id⟩
  | dct es =>
    obtain ⟨p, o, kvs, h1, h2, h3, h4⟩ := h
    exact ⟨p, o, kvs, h1, a.keep _ _ h2.1 h2.2, h3, a.rts h4⟩
end
structure RLoc (G : Gx) (β : List Addr) (B : Addr → Prop) (H : Hp) (σ : L2.St) (l : Loc) : Prop where
  len : σ.length = l.length
  at_ : ∀ (i : Nat) (u : U), l[i]? = some (some u) → ∃ v, σ[i]? = some (some v) ∧ RU G β B H v u
def ExR (G : Gx) (B : Addr → Prop) (H : Hp) (e : Exc) (cv : Value) (dx : Option Addr) : Prop :=
  ∃ C, G.cls e.cls = some C ∧ cv = .ref C ∧ (match e.fs with
    | [] => dx = none
    | fs => ∃ d vs, dx = some d ∧ H d = some (.xd vs) ∧ ¬ B d ∧ vs.map (·.1) = fs.map (·.1) ∧ RTs G.K B H (vs.map (·.2)) (fs.map (·.2)))
section
variable {G : Gx} {β β' : List Addr} {st st' : Sto} {H H' : Hp} {σ : L2.St} {l : Loc}
theorem Fut.rloc (a : Fut G β st H β' st' H') (h : RLoc G β (Ban G β st) H σ l) : RLoc G β' (Ban G β' st') H' σ l := ⟨h.len, fun i u e => by
  obtain ⟨v, h1, h2⟩ := h.at_ i u e
  exact ⟨v, h1, a.ru h2⟩⟩
end
structure Re (G : Gx) (β : List Addr) (H : Hp) (σ : L2.St) (l : Loc) (st : Sto) : Prop where
  rl : Rl G β H st
  lo : RLoc G β (Ban G β st) H σ l
theorem Fut.re {G : Gx} {β β' : List Addr} {st st' : Sto} {H H' : Hp} {σ : L2.St} {l : Loc} (a : Fut G β st H β' st' H') (r : Rl G β' H' st') (h : Re G β H σ l st) : Re G β' H' σ l st' := ⟨r, a.rloc h.lo⟩
def wpR {α γ : Type} (G : Gx) (β : List Addr) (H : Hp) (σ : L2.St) (st : Sto) (P : List Addr → Sto → Hp → γ → α → Prop) (r : Res α) (Q : γ → Hp → Prop) : Prop := match r with
  | .ok a st' => ∀ v H' β', Fut G β st H β' st' H' → Rl G β' H' st' → P β' st' H' v a → Q v H'
  | .ex e st' => ∀ cv dx H' β', Fut G β st H β' st' H' → Rl G β' H' st' → ExR G (Ban G β' st') H' e cv dx → G.W cv dx σ H'
  | .no => False
def PU (G : Gx) : List Addr → Sto → Hp → V → U → Prop := fun β st H v u => RU G β (Ban G β st) H v u
def PUs (G : Gx) : List Addr → Sto → Hp → List V → List U → Prop := fun β st H vs us => Paired (fun v u => RU G β (Ban G β st) H v u) vs us
def PB : List Addr → Sto → Hp → Bool → Bool → Prop := fun _ _ _ a b => a = b
def SimE (G : Gx) (t : TE) (m : ME) : Prop := ∀ β H σ l st, Re G β H σ l st → ∀ Q, wpR G β H σ st (PU G) (m l st) Q → t σ H Q
def SimA (G : Gx) (t : TA) (m : MA) : Prop := ∀ β H σ l st, Re G β H σ l st → ∀ Q, wpR G β H σ st (PUs G) (m l st) Q → t σ H Q
def SimT (G : Gx) (t : TT) (m : MB) : Prop := ∀ β H σ l st, Re G β H σ l st → ∀ Q, wpR G β H σ st PB (m l st) Q → t σ H Q
section
variable {G : Gx}
theorem wpR_bind {α δ γ ε : Type} {β : List Addr} {H : Hp} {σ : L2.St} {st : Sto} {P : List Addr → Sto → Hp → γ → α → Prop} {P' : List Addr → Sto → Hp → ε → δ → Prop} {r : Res α} {k : α → Sto → Res δ} {Q : ε → Hp → Prop}
    (h : wpR G β H σ st P' (r.bind k) Q) {R : γ → Hp → Prop} (hk : ∀ v a H' β' st', Fut G β st H β' st' H' → Rl G β' H' st' → P β' st' H' v a → wpR G β' H' σ st' P' (k a st') Q → R v H') : wpR G β H σ st P r R := by
  cases r with
  | ok a st' =>
    intro v H' β' f rl p
    refine hk v a H' β' st' f rl p ?_
    have h' : wpR G β H σ st P' (k a st') Q := h
    cases e : k a st' with
    | ok b st'' => rw [e] at h'; exact fun v' H'' β'' f' rl' p' => h' v' H'' β'' (f.trans f') rl' p'
    | ex x st'' => rw [e] at h'; exact fun cv dx H'' β'' f' rl' p' => h' cv dx H'' β'' (f.trans f') rl' p'
    | no => rw [e] at h'; exact h'
  | ex e st' => exact h
  | no => exact h
theorem wpR_ok {α γ : Type} {β : List Addr} {H : Hp} {σ : L2.St} {st : Sto} {P : List Addr → Sto → Hp → γ → α → Prop} {a : α} {Q : γ → Hp → Prop} {v : γ} (rl : Rl G β H st) (p : P β st H v a) (h : wpR G β H σ st P (.ok a st) Q) : Q v H :=
  h v H β Fut.refl rl p
theorem wpR_d {β : List Addr} {H : Hp} {σ : L2.St} {st : Sto} {v : V} {x : PyData} {Q : VK} (rl : Rl G β H st) (p : RT G.K (Ban G β st) H v x) (h : wpR G β H σ st (PU G) (.ok (.d x) st) Q) : Q v H := h v H β Fut.refl rl p
theorem wpR_u {β : List Addr} {H : Hp} {σ : L2.St} {st : Sto} {v : V} {u : U} {Q : VK} (rl : Rl G β H st) (p : RU G β (Ban G β st) H v u) (h : wpR G β H σ st (PU G) (.ok u st) Q) : Q v H := h v H β Fut.refl rl p
def eVar (i : Nat) : ME := fun l st => match l[i]? with
  | some (some u) => .ok u st
  | _ => .no
theorem s_var (i : Nat) : SimE G (tVar i) (eVar i) := fun β H σ l st re Q h => by
  unfold eVar at h
  split at h
  · rename_i u e
    obtain ⟨v, h1, h2⟩ := re.lo.at_ i u e
    exact ⟨v, h1, wpR_ok re.rl h2 h⟩
  · exact h.elim
def eC (x : PyData) : ME := fun _ st => .ok (.d x) st
theorem s_c {v : V} {x : PyData} (hx : ∀ B H, RT G.K B H v x) : SimE G (tC v) (eC x) := fun β H σ l st re Q h => wpR_d re.rl (hx _ _) h
theorem s_int (i : Int) : SimE G (tC (.int i)) (eC (.int i)) := s_c fun _ _ => .int i
theorem s_bl (b : Bool) : SimE G (tC (.bl b)) (eC (.bool b)) := s_c fun _ _ => .bl b
theorem s_non : SimE G (tC .non) (eC .none) := s_c fun _ _ => .non
theorem s_str (z : Str) : SimE G (tC (.str z)) (eC (.str z)) := s_c fun _ _ => .str z
def SimR (G : Gx) (r : R2) (f : U → U → Sto → Res U) : Prop := ∀ β H σ l st, Re G β H σ l st → ∀ x y a b Q, RU G β (Ban G β st) H x a → RU G β (Ban G β st) H y b → wpR G β H σ st (PU G) (f a b st) Q → r x y H Q
def eOp (f : U → U → Sto → Res U) (a b : ME) : ME := fun l st => (a l st).bind fun x st => (b l st).bind fun y st => f x y st
theorem s_op {r : R2} {f : U → U → Sto → Res U} {ta tb : TE} {a b : ME} (hr : SimR G r f) (ha : SimE G ta a) (hb : SimE G tb b) : SimE G (tOp r ta tb) (eOp f a b) := fun β H σ l st re Q h => by
  refine ha β H σ l st re _ (wpR_bind h fun v x H1 β1 st1 f1 rl1 p1 h1 => ?_)
  have re1 := f1.re rl1 re
  refine hb β1 H1 σ l st1 re1 _ (wpR_bind h1 fun w y H2 β2 st2 f2 rl2 p2 h2 => ?_)
  exact hr β2 H2 σ l st2 (f2.re rl2 re1) v w x y Q (f2.ru p1) p2 h2
def oI (C : Int → Int → Bool) (g : Int → Int → PyData) : U → U → Sto → Res U := fun a b st => match a, b with
  | .d (.int i), .d (.int j) => if C i j then .ok (.d (g i j)) st else .no
  | _, _ => .no
def oI0 (g : Int → Int → PyData) : U → U → Sto → Res U := fun a b st => match a, b with
  | .d (.int i), .d (.int j) => .ok (.d (g i j)) st
  | _, _ => .no
theorem ru_int {β : List Addr} {B : Addr → Prop} {H : Hp} {v : V} {i : Int} (h : RU G β B H v (.d (.int i))) : v = .int i := by cases h; rfl
theorem ru_bool {β : List Addr} {B : Addr → Prop} {H : Hp} {v : V} {i : Bool} (h : RU G β B H v (.d (.bool i))) : v = .bl i := by cases h; rfl
theorem ru_str {β : List Addr} {B : Addr → Prop} {H : Hp} {v : V} {i : Str} (h : RU G β B H v (.d (.str i))) : v = .str i := by cases h; rfl
theorem r_I {C : Int → Int → Prop} {c : Int → Int → Bool} {g : Int → Int → V} {g' : Int → Int → PyData} (hc : ∀ i j, c i j = true → C i j) (hg : ∀ i j B H, RT G.K B H (g i j) (g' i j)) : SimR G (rI C g) (oI c g') := fun β H σ l st re x y a b Q hx hy h => by
  unfold oI at h
  split at h
  · rename_i i j
    cases ru_int hx; cases ru_int hy
    split at h
    · rename_i q
      exact ⟨i, j, rfl, rfl, hc i j q, wpR_d re.rl (hg i j _ _) h⟩
    · exact h.elim
  · exact h.elim
theorem r_I0 {g : Int → Int → V} {g' : Int → Int → PyData} (hg : ∀ i j B H, RT G.K B H (g i j) (g' i j)) : SimR G (rI0 g) (oI0 g') := fun β H σ l st re x y a b Q hx hy h => by
  unfold oI0 at h
  split at h
  · rename_i i j
    cases ru_int hx; cases ru_int hy
    exact ⟨i, j, rfl, rfl, wpR_d re.rl (hg i j _ _) h⟩
  · exact h.elim
end
end NW
namespace NW
open PySem PySem.Spec PyProof.Rows L2
section
variable {G : Gx} {β β' : List Addr} {st st' : Sto} {H H' : Hp} {v : V} {u : U} {σ : L2.St} {l : Loc}
theorem Rl.notBan (rl : Rl G β H st) {p : Addr} (hp : H p = none) : ¬ Ban G β st p := by
  rintro (h | ⟨hf, rfl⟩ | ⟨i, xs, h1, nd, h2⟩)
  · exact (rl.o0 p h).1 hp
  · obtain ⟨f, hf⟩ := Option.isSome_iff_exists.mp hf
    obtain ⟨⟨a, _⟩, _⟩ := rl.flo f hf
    rw [hp] at a; cases a
  · obtain ⟨q, vs, a, b, _⟩ := rl.oo i xs h1 nd
    rw [h2] at a; cases a; rw [hp] at b; cases b
theorem Fut.new {p : Addr} {o : HO} (hp : H p = none) : Fut G β st H β st (upd H p o) :=
  ⟨⟨[], by simp, by simp⟩, fun b h => by
    by_cases e : b = p
    · subst e; rw [upd_same]; simp
    · rw [upd_ne e]; exact h, fun b o' h n => ⟨by rw [upd_ne (ne_of_none h hp)]; exact h, n⟩⟩
theorem SqLB.fut (a : Fut G β st H β' st' H') {K : PySem.W.Frag} {p : Addr} {xs : List V} (h : SqLB K (Ban G β st) H p xs) : SqLB K (Ban G β' st') H' p xs := a.keep p _ h.1 h.2
theorem Rl.o0_fut (rl : Rl G β H st) (f : Fut G β st H β' st' H') (q : Addr) (hq : G.O0 q) (n : ¬ Own G β' st' q) : H' q ≠ none ∧ ¬ Own G β' st' q ∧ ∀ vs, ¬ Rd H' q (.tup vs) := by
  obtain ⟨a, b, c⟩ := rl.o0 q hq
  refine ⟨f.there q a, n, fun vs h => ?_⟩
  cases e : H q with
  | none => exact a e
  | some o =>
    have z := (f.stay q o e b).1
    refine c vs ?_
    unfold Rd at h ⊢
    rw [z] at h; rw [e]; exact h
theorem Rl.banNoTup (rl : Rl G β H st) {p : Addr} (h : Ban G β st p) (vs : List V) : ¬ Rd H p (.tup vs) := by
  rcases h with h | ⟨hf, rfl⟩ | ⟨i, xs, h1, nd, h2⟩
  · exact (rl.o0 p h).2.2 vs
  · obtain ⟨f, hf⟩ := Option.isSome_iff_exists.mp hf
    obtain ⟨⟨a, _⟩, _⟩ := rl.flo f hf
    rintro (z | ⟨o, z⟩) <;> (rw [a] at z; cases z)
  · obtain ⟨q, ws, a, b, c⟩ := rl.oo i xs h1 nd
    rw [h2] at a; cases a
    rintro (z | ⟨o, z⟩)
    · rw [b] at z; exact c.noTup _ (Option.some.inj z)
    · rw [b] at z; exact c.noFrz _ _ (Option.some.inj z)
theorem Rl.new (rl : Rl G β H st) {p : Addr} {o : HO} (hp : H p = none) : Rl G β (upd H p o) st := by
  have f : Fut G β st H β st (upd H p o) := Fut.new hp
  refine ⟨rl.len, rl.nodup, fun q hq => f.there q (rl.trk q hq), fun i xs h nd => ?_, fun g hg => ?_, fun q hq => rl.o0_fut f q hq (rl.o0 q hq).2.1⟩
  · obtain ⟨q, vs, a, b, c⟩ := rl.oo i xs h nd
    exact ⟨q, vs, a, by rw [upd_ne (ne_of_none b hp)]; exact b, f.obr c⟩
  · obtain ⟨⟨a, b⟩, c⟩ := rl.flo g hg
    exact ⟨⟨by rw [upd_ne (ne_of_none a hp)]; exact a, b.fut f⟩, c⟩
def Sto.addO (st : Sto) (o : Ob) : Sto := { st with obs := st.obs ++ [o] }
def Sto.add (st : Sto) (xs : List PyData) : Sto := { st with obs := st.obs ++ [.lst xs] }
theorem Own.addO {p q : Addr} {o : Ob} (ho : o ≠ .dead) (hl : β.length = st.obs.length) : Own G (β ++ [p]) (st.addO o) q ↔ Own G β st q ∨ q = p := by
  unfold Own Sto.addO
  constructor
  · rintro (h | ⟨i, ys, h1, nd, h2⟩)
    · exact .inl (.inl h)
    · by_cases hi : i < st.obs.length
      · rw [List.getElem?_append_left hi] at h1
        rw [List.getElem?_append_left (by omega)] at h2
        exact .inl (.inr ⟨i, ys, h1, nd, h2⟩)
      · have e : i = st.obs.length := by
          have := (List.getElem?_eq_some_iff.mp h1).1
          simp at this; omega
        subst e
        rw [← hl, List.getElem?_append_right (Nat.le_refl _)] at h2
        simp at h2; exact .inr h2.symm
  · rintro ((h | ⟨i, ys, h1, nd, h2⟩) | h)
    · exact .inl h
    · exact .inr ⟨i, ys, by rw [List.getElem?_append_left (List.getElem?_eq_some_iff.mp h1).1]; exact h1, nd, by rw [List.getElem?_append_left (List.getElem?_eq_some_iff.mp h2).1]; exact h2⟩
    · subst h
      exact .inr ⟨st.obs.length, o, by simp, ho, by rw [← hl]; simp⟩
theorem Own.add {p q : Addr} {xs : List PyData} (hl : β.length = st.obs.length) : Own G (β ++ [p]) (st.add xs) q ↔ Own G β st q ∨ q = p := Own.addO (o := .lst xs) (by intro z; cases z) hl
theorem add_ownO (rl : Rl G β H st) {p : Addr} {h0 : HO} {o : Ob} (ho : o ≠ .dead) (hp : H p = none) (r : ObR G.K (Ban G β st) H o h0) :
    Fut G β st H (β ++ [p]) (st.addO o) (upd H p h0) ∧ Rl G (β ++ [p]) (upd H p h0) (st.addO o) := by
  have fO : Fut G β st H (β ++ [p]) (st.addO o) (upd H p h0) := by
    refine ⟨⟨[p], rfl, by simp [hp]⟩, (Fut.new (G := G) (β := β) (st := st) (o := h0) hp).there, fun b o' h n => ⟨by rw [upd_ne (ne_of_none h hp)]; exact h, fun w => ?_⟩⟩
    rcases (Own.addO ho rl.len).mp w with w | w
    · exact n w
    · subst w; rw [hp] at h; cases h
  refine ⟨fO, by simp [Sto.addO, rl.len], ?_, fun q hq => ?_, fun i ys h nd => ?_, fun g hg => ?_, fun q hq => rl.o0_fut fO q hq fun w => ?_⟩
  · rw [List.nodup_append]
    refine ⟨rl.nodup, by simp, fun a ha b hb e => ?_⟩
    have hb' : b = p := by simpa using hb
    subst e hb'
    exact rl.trk _ ha hp
  · rcases List.mem_append.mp hq with w | w
    · exact fO.there q (rl.trk q w)
    · have w' : q = p := by simpa using w
      rw [w', upd_same]; simp
  · unfold Sto.addO at h
    by_cases hi : i < st.obs.length
    · rw [List.getElem?_append_left hi] at h
      obtain ⟨q, ws, a, b, c⟩ := rl.oo i ys h nd
      exact ⟨q, ws, by rw [List.getElem?_append_left (List.getElem?_eq_some_iff.mp a).1]; exact a, by rw [upd_ne (ne_of_none b hp)]; exact b, fO.obr c⟩
    · have e : i = st.obs.length := by
        have := (List.getElem?_eq_some_iff.mp h).1
        simp at this; omega
      subst e
      simp at h; subst h
      exact ⟨p, h0, by rw [← rl.len]; simp, upd_same, fO.obr r⟩
  · obtain ⟨⟨a, b⟩, c⟩ := rl.flo g hg
    refine ⟨⟨by rw [upd_ne (ne_of_none a hp)]; exact a, b.fut fO⟩, fun w => ?_⟩
    rcases List.mem_append.mp w with w | w
    · exact c w
    · have w' : G.fa = p := by simpa using w
      rw [w', hp] at a; cases a
  · rcases (Own.addO ho rl.len).mp w with w | w
    · exact (rl.o0 q hq).2.1 w
    · subst w; exact (rl.o0 _ hq).1 hp
theorem add_own (rl : Rl G β H st) {p : Addr} {vs : List V} {xs : List PyData} (hp : H p = none) (r : RTs G.K (Ban G β st) H vs xs) :
    Fut G β st H (β ++ [p]) (st.add xs) (upd H p (.lst vs)) ∧ Rl G (β ++ [p]) (upd H p (.lst vs)) (st.add xs) := add_ownO rl (o := .lst xs) (by intro z; cases z) hp ⟨vs, rfl, r⟩
theorem ix_inj {β : List Addr} (n : β.Nodup) {i j : Nat} {p : Addr} (h : β[i]? = some p) (h' : β[j]? = some p) : i = j := by
  obtain ⟨h1, e1⟩ := List.getElem?_eq_some_iff.mp h
  obtain ⟨h2, e2⟩ := List.getElem?_eq_some_iff.mp h'
  exact (List.getElem_inj n).mp (e1.trans e2.symm)
def Sto.putO (st : Sto) (i : Nat) (o : Ob) : Sto := { st with obs := st.obs.set i o }
def Sto.put (st : Sto) (i : Nat) (xs : List PyData) : Sto := { st with obs := st.obs.set i (.lst xs) }
theorem Own.putO {i : Nat} {o o' : Ob} {q : Addr} (h : st.obs[i]? = some o) (n : o ≠ .dead) (n' : o' ≠ .dead) : Own G β (st.putO i o') q ↔ Own G β st q := by
  unfold Own Sto.putO
  have hi := (List.getElem?_eq_some_iff.mp h).1
  constructor
  · rintro (h' | ⟨j, zs, h1, nd, h2⟩)
    · exact .inl h'
    · by_cases e : j = i
      · subst e; exact .inr ⟨j, o, h, n, h2⟩
      · exact .inr ⟨j, zs, by simpa [List.getElem?_set_ne (Ne.symm e)] using h1, nd, h2⟩
  · rintro (h' | ⟨j, zs, h1, nd, h2⟩)
    · exact .inl h'
    · by_cases e : j = i
      · subst e; exact .inr ⟨j, o', by simp [hi], n', h2⟩
      · exact .inr ⟨j, zs, by simpa [List.getElem?_set_ne (Ne.symm e)] using h1, nd, h2⟩
theorem Own.put {i : Nat} {xs ys : List PyData} {q : Addr} (h : st.obs[i]? = some (.lst xs)) : Own G β (st.put i ys) q ↔ Own G β st q := Own.putO (o' := .lst ys) h (by intro z; cases z) (by intro z; cases z)
theorem put_ownO (rl : Rl G β H st) {i : Nat} {p : Addr} {o o' : Ob} {h0 : HO} (h : st.obs[i]? = some o) (n : o ≠ .dead) (n' : o' ≠ .dead) (hp : β[i]? = some p) (r : ObR G.K (Ban G β st) H o' h0) :
    Fut G β st H β (st.putO i o') (upd H p h0) ∧ Rl G β (upd H p h0) (st.putO i o') := by
  have op : Own G β st p := .inr ⟨i, o, h, n, hp⟩
  have hi := (List.getElem?_eq_some_iff.mp h).1
  have fO : Fut G β st H β (st.putO i o') (upd H p h0) := by
    refine ⟨⟨[], by simp, by simp⟩, fun b hb => ?_, fun b o' h' n1 => ?_⟩
    · by_cases e : b = p
      · rw [e, upd_same]; simp
      · rw [upd_ne e]; exact hb
    · have e : b ≠ p := fun e => n1 (e ▸ op)
      exact ⟨by rw [upd_ne e]; exact h', fun w => n1 ((Own.putO h n n').mp w)⟩
  refine ⟨fO, by simp [Sto.putO, rl.len], rl.nodup, fun q hq => fO.there q (rl.trk q hq), fun j zs h' nd => ?_, fun g hg => ?_, fun q hq => rl.o0_fut fO q hq fun w => (rl.o0 q hq).2.1 ((Own.putO h n n').mp w)⟩
  · by_cases e : j = i
    · subst e
      simp [Sto.putO, hi] at h'; subst h'
      exact ⟨p, h0, hp, upd_same, fO.obr r⟩
    · obtain ⟨q, ws, a, b, c⟩ := rl.oo j zs (by simpa [Sto.putO, List.getElem?_set_ne (Ne.symm e)] using h') nd
      have ne : q ≠ p := fun z => e (ix_inj rl.nodup a (z ▸ hp))
      exact ⟨q, ws, a, by rw [upd_ne ne]; exact b, fO.obr c⟩
  · obtain ⟨⟨a, b⟩, c⟩ := rl.flo g hg
    have ne : G.fa ≠ p := fun z => c (z ▸ List.mem_of_getElem? hp)
    exact ⟨⟨by rw [upd_ne ne]; exact a, b.fut fO⟩, c⟩
theorem put_own (rl : Rl G β H st) {i : Nat} {p : Addr} {xs ys : List PyData} {vs : List V} (h : st.obs[i]? = some (.lst xs)) (hp : β[i]? = some p) (r : RTs G.K (Ban G β st) H vs ys) :
    Fut G β st H β (st.put i ys) (upd H p (.lst vs)) ∧ Rl G β (upd H p (.lst vs)) (st.put i ys) := put_ownO rl (o' := .lst ys) h (by intro z; cases z) (by intro z; cases z) hp ⟨vs, rfl, r⟩
theorem own_fl {f f' : Fl} (h : st.fl = some f) (p : Addr) : Own G β { st with fl := some f' } p ↔ Own G β st p := by
  unfold Own
  rw [h]
  exact Iff.rfl
theorem flow_end (rl : Rl G β H st) {f f' : Fl} (hf : st.fl = some f) (k : ∀ b o, H b = some o → b ≠ G.fa → H' b = some o) (h1 : H' G.fa = some (.lst (flV G.fb f'))) (hc : f'.cells = f.cells) :
    Fut G β st H β { st with fl := some f' } H' ∧ Rl G β H' { st with fl := some f' } := by
  obtain ⟨⟨a, b⟩, c⟩ := rl.flo f hf
  have ofa : Own G β st G.fa := .inl ⟨by rw [hf]; rfl, rfl⟩
  have hne : G.fb ≠ G.fa := fun e => b.2 (.inr (e ▸ ofa))
  have fu : Fut G β st H β { st with fl := some f' } H' := by
    refine ⟨⟨[], by simp, by simp⟩, fun b hb => ?_, fun b o h n => ⟨k b o h fun e => n (e ▸ ofa), fun w => n ((own_fl hf b).mp w)⟩⟩
    by_cases e : b = G.fa
    · rw [e, h1]; simp
    · cases e2 : H b with
      | none => exact absurd e2 hb
      | some o => rw [k b o e2 e]; simp
  refine ⟨fu, rl.len, rl.nodup, fun q hq => fu.there q (rl.trk q hq), fun i xs h nd => ?_, fun g hg => ?_, fun q hq => rl.o0_fut fu q hq fun w => (rl.o0 q hq).2.1 ((own_fl hf q).mp w)⟩
  · obtain ⟨q, vs, a', b', c'⟩ := rl.oo i xs h nd
    exact ⟨q, vs, a', k _ _ b' (fun e => c (e ▸ List.mem_of_getElem? a')), fu.obr c'⟩
  · cases hg
    refine ⟨⟨h1, ?_⟩, c⟩
    rw [hc]
    exact b.fut fu
def listOf (st : Sto) : U → Option (List PyData)
  | .d (.list xs) => some xs
  | .ref i => match st.obs[i]? with | some (.lst xs) => some xs | _ => none
  | _ => none
def tupOf : U → Option (List PyData)
  | .d (.tuple xs) => some xs
  | _ => none
def toTree (st : Sto) (u : U) : Option PyData := match u with
  | .d x => some x
  | .ref i => match st.obs[i]? with | some (.lst xs) => some (.list xs) | _ => none
  | .flow => none
  | .scr _ => none
  | .dct _ => none
theorem list_q (rl : Rl G β H st) (h : RU G β (Ban G β st) H v u) {xs : List PyData} (e : listOf st u = some xs) : ∃ p vs, v = .ref p ∧ SqL G.K H p vs ∧ RTs G.K (Ban G β st) H vs xs := by
  unfold listOf at e
  split at e
  · cases e
    cases h with
    | lst a b => exact ⟨_, _, rfl, a.q, b⟩
  · rename_i i
    split at e
    · rename_i hy
      cases e
      obtain ⟨p, h1, rfl⟩ := h
      obtain ⟨q, vs, a, b, c⟩ := rl.ob i _ hy
      rw [h1] at a; cases a
      exact ⟨p, vs, rfl, SqL.of b, c⟩
    · cases e
  · cases e
theorem tup_q (h : RU G β (Ban G β st) H v u) {xs : List PyData} (e : tupOf u = some xs) : ∃ p vs, v = .ref p ∧ SqT G.K H p vs ∧ RTs G.K (Ban G β st) H vs xs := by
  unfold tupOf at e
  split at e
  · cases e
    cases h with
    | tup a b => exact ⟨_, _, rfl, a.q, b⟩
  · cases e
theorem tree_dp (rl : Rl G β H st) (h : RU G β (Ban G β st) H v u) {x : PyData} (e : toTree st u = some x) : Dp G.K H v x := by
  cases u with
  | d y => cases e; exact RT.dp _ _ h
  | flow => cases e
  | scr ns => cases e
  | dct es => cases e
  | ref i =>
    simp only [toTree] at e
    split at e
    · rename_i ys hy
      cases e
      obtain ⟨p, h1, rfl⟩ := h
      obtain ⟨q, vs, a, b, c⟩ := rl.ob i ys hy
      rw [h1] at a; cases a
      exact .lst (SqL.of b) (RTs.dp _ _ c)
    · cases e
def opEq (neg : Bool) : U → U → Sto → Res U := fun a b st => match toTree st a, toTree st b with
  | some x, some y => if (SeqAt.shaped x && SeqAt.shaped y) = true then .ok (.d (.bool (if neg then !PyData.eqv x y else PyData.eqv x y))) st else .no
  | _, _ => .no
theorem r_eq : SimR G (rEqD G.K) (opEq false) := fun β H σ l st re x y a b Q hx hy h => by
  unfold opEq at h
  split at h
  · rename_i d e h1 h2
    split at h
    · rename_i q
      rw [Bool.and_eq_true] at q
      exact ⟨d, e, tree_dp re.rl hx h1, tree_dp re.rl hy h2, q.1, q.2, wpR_d re.rl (.bl _) h⟩
    · exact h.elim
  · exact h.elim
theorem r_ne : SimR G (rNeD G.K) (opEq true) := fun β H σ l st re x y a b Q hx hy h => by
  unfold opEq at h
  split at h
  · rename_i d e h1 h2
    split at h
    · rename_i q
      rw [Bool.and_eq_true] at q
      exact ⟨d, e, tree_dp re.rl hx h1, tree_dp re.rl hy h2, q.1, q.2, wpR_d re.rl (.bl _) h⟩
    · exact h.elim
  · exact h.elim
def fSub : U → U → Sto → Res U := oI0 fun i j => .int (i - j)
def mulC (i j : Int) : Bool := decide (i.natAbs.log2 + j.natAbs.log2 < 1000000)
def fMod : U → U → Sto → Res U := oI (fun _ j => decide (j ≠ 0)) fun i j => .int (i.fmod j)
def divC (_ j : Int) : Bool := decide (j ≠ 0)
def fDiv : U → U → Sto → Res U := oI divC fun i j => .int (i.fdiv j)
def fPow : U → U → Sto → Res U := oI (fun i j => decide (0 ≤ j ∧ j ≤ 1000000 ∧ i.natAbs < 2 ^ 64)) fun i j => .int (i ^ j.toNat)
def fLt : U → U → Sto → Res U := oI0 fun i j => .bool (decide (i < j))
def fLe : U → U → Sto → Res U := oI0 fun i j => .bool (decide (i ≤ j))
def fGt : U → U → Sto → Res U := oI0 fun i j => .bool (decide (j < i))
def fGe : U → U → Sto → Res U := oI0 fun i j => .bool (decide (j ≤ i))
theorem r_sub : SimR G (rI0 fun i j => .int (i - j)) fSub := r_I0 fun _ _ _ _ => .int _
theorem r_mod : SimR G (rI (fun _ j => j ≠ 0) fun i j => .int (i.fmod j)) fMod := r_I (fun _ _ h => by have q := of_decide_eq_true h; exact q) fun _ _ _ _ => .int _
def CDivA (_ j : Int) : Prop := j ≠ 0
def SeX (P : Program) (base : Heap) (A : Around) (fr : List Env) : Prop :=
  base.NoSeer ∧ P.given.tree = none ∧ A.depth + Builtin.pylongFrames < recursionLimit ∧
    ∃ (e1 : Env) (rest : List Env), fr = e1 :: rest ∧ e1.scope.isGenerator = false ∧ e1.scope.isCoroutine = false ∧ e1.builtins = builtinsNs ∧ e1.globals = mainGlobals
theorem op_fdivA {X : Cx} (hS : SeX X.prog X.base X.A X.stack) : OpR X (binaryOp .FloorDiv) (rI CDivA fun i j => .int (i.fdiv j)) := by
  intro pn s sg hp p q vp vq Kq inv rp rq hw
  obtain ⟨n1, n2, en1, en2, nz, hk⟩ := hw
  subst en1 en2
  obtain ⟨k1, ek1⟩ := rp
  obtain ⟨k2, ek2⟩ := rq
  subst ek1 ek2
  obtain ⟨g1, g2, g3, e1, rest, f1, f2, f3, f4, f5⟩ := hS
  have fr := inv.ok.frames
  rw [f1] at fr
  have seer : SeerAt (model X.prog X.w) X.A s.heap := SeerAt.of (g1.keeps inv.bk) g2 fr f2 f3 f4 f5
  have room : PylongRoom (model X.prog X.w) X.A s := PylongRoom.of inv.nolimit g3 seer
  exact floordiv_int nz ⟨V.int (n1.fdiv n2), hp, inv.tok _, ⟨s.toks, rfl⟩, hk⟩ (.inr room)
theorem r_div : SimR G (rI CDivA fun i j => .int (i.fdiv j)) fDiv := r_I (fun _ _ h => by have q := of_decide_eq_true h; exact q) fun _ _ _ _ => .int _
theorem r_pow : SimR G (rI CPow fun i j => .int (i ^ j.toNat)) fPow := r_I (fun _ _ h => by have q := of_decide_eq_true h; exact q) fun _ _ _ _ => .int _
theorem r_lt : SimR G (rI0 fun i j => .bl (decide (i < j))) fLt := r_I0 fun _ _ _ _ => .bl _
theorem r_gt : SimR G (rI0 fun i j => .bl (decide (j < i))) fGt := r_I0 fun _ _ _ _ => .bl _
theorem r_ge : SimR G (rI0 fun i j => .bl (decide (j ≤ i))) fGe := r_I0 fun _ _ _ _ => .bl _
def isNon : U → Bool
  | .d .none => true
  | _ => false
theorem isNon_v (h : RU G β (Ban G β st) H v u) : decide (v = .non) = isNon u := by
  cases u with
  | d x => cases h <;> rfl
  | ref i => obtain ⟨p, _, rfl⟩ := h; rfl
  | flow => have e : v = .ref G.fa := h; subst e; rfl
  | scr ns => obtain ⟨a, rfl, _⟩ := h; rfl
  | dct es => obtain ⟨a, o, kvs, rfl, _⟩ := h; rfl
def fIsN (neg : Bool) : U → U → Sto → Res U := fun a b st => match b with
  | .d .none => .ok (.d (.bool (if neg then !isNon a else isNon a))) st
  | _ => .no
theorem r_notN : SimR G (fun x y H Q => y = .non ∧ Q (.bl (!decide (x = .non))) H) (fIsN true) := fun β H σ l st re x y a b Q hx hy h => by
  unfold fIsN at h
  split at h
  · cases hy
    exact ⟨rfl, by rw [isNon_v hx]; exact wpR_d re.rl (.bl _) h⟩
  · exact h.elim
def flatD : PyData → Bool
  | .none | .bool _ | .int _ | .str _ => true
  | _ => false
theorem flatD_v {B : Addr → Prop} {K : PySem.W.Frag} {x : PyData} (h : RT K B H v x) (f : flatD x = true) : flatV v = true := by
  cases h <;> first | rfl | cases f
theorem flatD_all {B : Addr → Prop} {K : PySem.W.Frag} : ∀ {xs : List PyData} {vs : List V}, RTs K B H vs xs → xs.all flatD = true → vs.all flatV = true
  | [], _, h, _ => by cases h; rfl
  | x :: xs, _, h, f => by
    cases h with
    | cons h1 h2 =>
      simp only [List.all_cons, Bool.and_eq_true] at f ⊢
      exact ⟨flatD_v h1 f.1, flatD_all h2 f.2⟩
theorem eqV_v {B : Addr → Prop} {K : PySem.W.Frag} {x y : PyData} {v w : V} (h : RT K B H v x) (h' : RT K B H w y) (f : flatD x = true) (g : flatD y = true) : eqV v w = PyData.eqv x y := by
  cases h <;> first | (cases f; done) | (cases h' <;> first | (cases g; done) | (simp [eqV, PyData.eqv]))
theorem inV_v {B : Addr → Prop} {K : PySem.W.Frag} {x : PyData} {v : V} (h : RT K B H v x) (f : flatD x = true) : ∀ {xs : List PyData} {vs : List V}, RTs K B H vs xs → xs.all flatD = true → inV v vs = xs.any fun y => PyData.eqv y x
  | [], _, h', _ => by cases h'; rfl
  | y :: xs, _, h', g => by
    cases h' with
    | cons h1 h2 =>
      simp only [List.all_cons, Bool.and_eq_true] at g
      have ih := inV_v h f h2 g.2
      unfold inV at ih ⊢
      rw [List.any_cons, List.any_cons, ih, eqV_v h1 h g.1 f]
def seqOf (st : Sto) (u : U) : Option (List PyData) := (listOf st u).orElse fun _ => tupOf u
theorem seq_q (rl : Rl G β H st) (h : RU G β (Ban G β st) H v u) {xs : List PyData} (e : seqOf st u = some xs) : ∃ p vs, v = .ref p ∧ (SqL G.K H p vs ∨ SqT G.K H p vs) ∧ RTs G.K (Ban G β st) H vs xs := by
  unfold seqOf at e
  cases q : listOf st u with
  | some ys =>
    rw [q] at e; cases e
    obtain ⟨p, vs, a, b, c⟩ := list_q rl h q
    exact ⟨p, vs, a, .inl b, c⟩
  | none =>
    rw [q] at e
    obtain ⟨p, vs, a, b, c⟩ := tup_q h (show tupOf u = some xs from e)
    exact ⟨p, vs, a, .inr b, c⟩
def fIn (neg : Bool) : U → U → Sto → Res U := fun a b st => match a, seqOf st b with
  | .d x, some xs => if (flatD x && xs.all flatD) = true then .ok (.d (.bool (if neg then !(xs.any fun y => PyData.eqv y x) else xs.any fun y => PyData.eqv y x))) st else .no
  | _, _ => .no
theorem r_in (neg : Bool) : SimR G (rIn G.K neg) (fIn neg) := fun β H σ l st re x y a b Q hx hy h => by
  unfold fIn at h
  split at h
  · rename_i z xs e
    split at h
    · rename_i q
      rw [Bool.and_eq_true] at q
      obtain ⟨p, vs, rfl, s, r⟩ := seq_q re.rl hy e
      exact ⟨p, vs, rfl, s, flatD_v hx q.1, flatD_all r q.2, by rw [inV_v hx q.1 r q.2]; exact wpR_d re.rl (.bl _) h⟩
    · exact h.elim
  · exact h.elim
end
end NW
namespace NW
open PySem PySem.Spec PyProof.Rows L2
section
variable {G : Gx} {β β' : List Addr} {st st' : Sto} {H H' : Hp} {v : V} {u : U} {σ : L2.St} {l : Loc}
def bTest (m : ME) : MB := fun l st => (m l st).bind fun u st => match u with
  | .d (.bool b) => .ok b st
  | _ => .no
theorem s_tB {t : TE} {m : ME} (h : SimE G t m) : SimT G (tB t) (bTest m) := fun β H σ l st re Q q => by
  refine h β H σ l st re _ (wpR_bind q fun v u H1 β1 st1 f1 rl1 p1 h1 => ?_)
  split at h1
  · cases ru_bool p1
    exact ⟨_, rfl, h1 _ H1 β1 Fut.refl rl1 rfl⟩
  · exact h1.elim
theorem s_test {t : TE} {m : ME} (h : SimE G t m) : SimT G (tTest t) (bTest m) := s_tB h
def truD (st : Sto) (u : U) : Option Bool := match u with
  | .d .none => some false
  | .d (.bool b) => some b
  | .d (.int i) => some (i != 0)
  | .d (.str y) => if decide (y.length ≤ sizeLine) = true then some ((y.length : Int) != 0) else none
  | _ => (seqOf st u).map fun xs => !xs.isEmpty
def bTru (m : ME) : MB := fun l st => (m l st).bind fun u st => match truD st u with
  | some b => .ok b st
  | none => .no
theorem tru_v (rl : Rl G β H st) (h : RU G β (Ban G β st) H v u) {b : Bool} (e : truD st u = some b) : TruV G.K v H b := by
  unfold truD at e
  split at e
  · cases h; exact (Option.some.inj e).symm
  · cases h; exact (Option.some.inj e).symm
  · cases h; exact (Option.some.inj e).symm
  · cases h
    split at e
    · rename_i q
      exact ⟨of_decide_eq_true q, (Option.some.inj e).symm⟩
    · cases e
  · cases q : seqOf st u with
    | none => rw [q] at e; cases e
    | some xs =>
      rw [q] at e
      obtain ⟨p, vs, rfl, s, r⟩ := seq_q rl h q
      have e' : (!xs.isEmpty) = b := Option.some.inj e
      have z : b = !vs.isEmpty := by
        rw [← e']
        cases r <;> rfl
      rcases s with s | s
      · exact .inl ⟨vs, s, z⟩
      · exact .inr (.inl ⟨vs, s, z⟩)
theorem s_tru {t : TE} {m : ME} (h : SimE G t m) : SimT G (fun σ H Q => t σ H fun x H' => ∃ k, TruV G.K x H' k ∧ Q k H') (bTru m) := fun β H σ l st re Q q => by
  refine h β H σ l st re _ (wpR_bind q fun v u H1 β1 st1 f1 rl1 p1 h1 => ?_)
  split at h1
  · rename_i b e
    exact ⟨b, tru_v rl1 p1 e, h1 _ H1 β1 Fut.refl rl1 rfl⟩
  · exact h1.elim
def bAnd (a b : MB) : MB := fun l st => (a l st).bind fun c st => if c = true then b l st else .ok false st
def bOr (a b : MB) : MB := fun l st => (a l st).bind fun c st => if c = true then .ok true st else b l st
def bNot (a : MB) : MB := fun l st => (a l st).bind fun c st => .ok (!c) st
theorem wpR_b {b : Bool} {Q : Bool → Hp → Prop} (rl : Rl G β H st) (h : wpR G β H σ st PB (.ok b st) Q) : Q b H := h b H β Fut.refl rl rfl
theorem s_and {t u : TT} {a b : MB} (ha : SimT G t a) (hb : SimT G u b) : SimT G (tAnd t u) (bAnd a b) := fun β H σ l st re Q q => by
  refine ha β H σ l st re _ (wpR_bind q fun c c' H1 β1 st1 f1 rl1 p1 h1 => ?_)
  cases (show c = c' from p1)
  cases c with
  | true => exact hb β1 H1 σ l st1 (f1.re rl1 re) Q h1
  | false => exact wpR_b rl1 h1
theorem s_or {t u : TT} {a b : MB} (ha : SimT G t a) (hb : SimT G u b) : SimT G (tOr t u) (bOr a b) := fun β H σ l st re Q q => by
  refine ha β H σ l st re _ (wpR_bind q fun c c' H1 β1 st1 f1 rl1 p1 h1 => ?_)
  cases (show c = c' from p1)
  cases c with
  | false => exact hb β1 H1 σ l st1 (f1.re rl1 re) Q h1
  | true => exact wpR_b rl1 h1
theorem s_not {t : TT} {a : MB} (ha : SimT G t a) : SimT G (tNot t) (bNot a) := fun β H σ l st re Q q => by
  refine ha β H σ l st re _ (wpR_bind q fun c c' H1 β1 st1 f1 rl1 p1 h1 => ?_)
  cases (show c = c' from p1)
  exact wpR_b rl1 h1
def eAndV (a b : ME) : ME := fun l st => (a l st).bind fun u st => match u with
  | .d (.bool c) => if c = true then b l st else .ok (.d (.bool false)) st
  | _ => .no
def eOrV (a b : ME) : ME := fun l st => (a l st).bind fun u st => match u with
  | .d (.bool c) => if c = true then .ok (.d (.bool true)) st else b l st
  | _ => .no
def eNotV (a : ME) : ME := fun l st => (a l st).bind fun u st => match u with
  | .d (.bool c) => .ok (.d (.bool (!c))) st
  | _ => .no
theorem s_andV {t u : TE} {a b : ME} (ha : SimE G t a) (hb : SimE G u b) : SimE G (tAndV t u) (eAndV a b) := fun β H σ l st re Q q => by
  refine ha β H σ l st re _ (wpR_bind q fun v w H1 β1 st1 f1 rl1 p1 h1 => ?_)
  split at h1
  · rename_i c
    cases ru_bool p1
    refine ⟨c, rfl, ?_⟩
    cases c with
    | true => exact hb β1 H1 σ l st1 (f1.re rl1 re) Q h1
    | false => exact wpR_d rl1 (.bl _) h1
  · exact h1.elim
theorem s_notV {t : TE} {a : ME} (ha : SimE G t a) : SimE G (tNotV t) (eNotV a) := fun β H σ l st re Q q => by
  refine ha β H σ l st re _ (wpR_bind q fun v w H1 β1 st1 f1 rl1 p1 h1 => ?_)
  split at h1
  · rename_i c
    cases ru_bool p1
    exact ⟨c, rfl, wpR_d rl1 (.bl _) h1⟩
  · exact h1.elim
def aNil : MA := fun _ st => .ok [] st
def aCons (a : ME) (r : MA) : MA := fun l st => (a l st).bind fun u st => (r l st).bind fun us st => .ok (u :: us) st
theorem s_nil : SimA G tNil aNil := fun β H σ l st re Q h => h [] H β Fut.refl re.rl .nil
theorem s_cons {t : TE} {ta : TA} {a : ME} {r : MA} (ha : SimE G t a) (hr : SimA G ta r) : SimA G (tCons t ta) (aCons a r) := fun β H σ l st re Q h => by
  refine ha β H σ l st re _ (wpR_bind h fun v x H1 β1 st1 f1 rl1 p1 h1 => ?_)
  refine hr β1 H1 σ l st1 (f1.re rl1 re) _ (wpR_bind h1 fun w y H2 β2 st2 f2 rl2 p2 h2 => ?_)
  exact h2 (v :: w) H2 β2 Fut.refl rl2 (.cons (f2.ru p1) p2)
def treesOf : List U → Option (List PyData)
  | [] => some []
  | .d x :: us => (treesOf us).map (x :: ·)
  | _ :: _ => none
theorem trees_r : ∀ {vs : List V} {us : List U} {ds : List PyData}, Paired (fun v u => RU G β (Ban G β st) H v u) vs us → treesOf us = some ds → RTs G.K (Ban G β st) H vs ds
  | _, [], ds, .nil, e => by cases e; exact .nil
  | _, .d x :: us, ds, .cons h t, e => by
    have e' : (treesOf us).map (x :: ·) = some ds := e
    cases q : treesOf us with
    | none => rw [q] at e'; cases e'
    | some es =>
      rw [q] at e'; cases e'
      exact .cons h (trees_r t q)
  | _, .ref i :: us, ds, .cons h t, e => by cases e
  | _, .flow :: us, ds, .cons h t, e => by cases e
  | _, .scr _ :: us, ds, .cons h t, e => by cases e
theorem Rl.tupB (rl : Rl G β H st) {p : Addr} {vs : List V} (h : Rd H p (.tup vs)) : ¬ Ban G β st p := fun z => rl.banNoTup z vs h
def lenOk (n : Nat) : Bool := decide (n ≤ sizeLine)
def eTup (a : MA) : ME := fun l st => (a l st).bind fun us st => match treesOf us with
  | some ds => if lenOk ds.length = true then .ok (.d (.tuple ds)) st else .no
  | none => .no
theorem new_tup (rl : Rl G β H st) {vs : List V} {ds : List PyData} {p : Addr} (hp : H p = none) (r : RTs G.K (Ban G β st) H vs ds) : Fut G β st H β st (upd H p (.tup vs)) ∧ Rl G β (upd H p (.tup vs)) st ∧ RT G.K (Ban G β st) (upd H p (.tup vs)) (.ref p) (.tuple ds) := by
  have f : Fut G β st H β st (upd H p (.tup vs)) := Fut.new hp
  exact ⟨f, rl.new hp, .tup (.inl ⟨.inl upd_same, rl.notBan hp⟩) (f.rts r)⟩
theorem new_lst (rl : Rl G β H st) {vs : List V} {ds : List PyData} {p : Addr} (hp : H p = none) (r : RTs G.K (Ban G β st) H vs ds) : Fut G β st H β st (upd H p (.lst vs)) ∧ Rl G β (upd H p (.lst vs)) st ∧ RT G.K (Ban G β st) (upd H p (.lst vs)) (.ref p) (.list ds) := by
  have f : Fut G β st H β st (upd H p (.lst vs)) := Fut.new hp
  exact ⟨f, rl.new hp, .lst ⟨upd_same, rl.notBan hp⟩ (f.rts r)⟩
theorem s_tup {ta : TA} {a : MA} (ha : SimA G ta a) : SimE G (tTup ta) (eTup a) := fun β H σ l st re Q h => by
  refine ha β H σ l st re _ (wpR_bind h fun vs us H1 β1 st1 f1 rl1 p1 h1 => ?_)
  split at h1
  · rename_i ds e
    split at h1
    · rename_i q
      have r := trees_r p1 e
      refine ⟨by rw [r.len]; exact of_decide_eq_true q, fun p hp => ?_⟩
      obtain ⟨f, rl', rt⟩ := new_tup rl1 hp r
      exact h1 _ _ β1 f rl' rt
    · exact h1.elim
  · exact h1.elim
def wpN (G : Gx) (β : List Addr) (H : Hp) (σ : L2.St) (st : Sto) (r : Res (List PyData)) (Q : VK) : Prop := match r with
  | .ok xs st' => ∀ H' β', Fut G β st H β' st' H' → Rl G β' H' st' → ∀ p vs, H' p = none → RTs G.K (Ban G β' st') H' vs xs → Q (.ref p) (upd H' p (.lst vs))
  | .ex e st' => ∀ cv dx H' β', Fut G β st H β' st' H' → Rl G β' H' st' → ExR G (Ban G β' st') H' e cv dx → G.W cv dx σ H'
  | .no => False
def SimN (G : Gx) (t : TE) (m : ML) : Prop := ∀ β H σ l st, Re G β H σ l st → ∀ Q, wpN G β H σ st (m l st) Q → t σ H Q
def eFrz (m : ML) : ME := fun l st => (m l st).bind fun xs st => .ok (.d (.list xs)) st
def eOwn (m : ML) : ME := fun l st => (m l st).bind fun xs st => .ok (.ref st.obs.length) (st.add xs)
theorem s_frz {t : TE} {m : ML} (h : SimN G t m) : SimE G t (eFrz m) := fun β H σ l st re Q q => by
  refine h β H σ l st re Q ?_
  unfold eFrz at q
  cases e : m l st with
  | no => rw [e] at q; exact q
  | ex x st' => rw [e] at q; exact q
  | ok xs st' =>
    rw [e] at q
    intro H' β' f rl p vs hp r
    obtain ⟨f2, rl2, rt⟩ := new_lst rl hp r
    exact q _ _ β' (f.trans f2) rl2 rt
theorem s_own {t : TE} {m : ML} (h : SimN G t m) : SimE G t (eOwn m) := fun β H σ l st re Q q => by
  refine h β H σ l st re Q ?_
  unfold eOwn at q
  cases e : m l st with
  | no => rw [e] at q; exact q
  | ex x st' => rw [e] at q; exact q
  | ok xs st' =>
    rw [e] at q
    intro H' β' f rl p vs hp r
    obtain ⟨f2, rl2⟩ := add_own rl hp r
    refine q _ _ (β' ++ [p]) (f.trans f2) rl2 ⟨p, ?_, rfl⟩
    rw [← rl.len]; simp
theorem wpN_bind {α γ : Type} {P : List Addr → Sto → Hp → γ → α → Prop} {r : Res α} {k : α → Sto → Res (List PyData)} {Q : VK}
    (h : wpN G β H σ st (r.bind k) Q) {R : γ → Hp → Prop} (hk : ∀ v a H' β' st', Fut G β st H β' st' H' → Rl G β' H' st' → P β' st' H' v a → wpN G β' H' σ st' (k a st') Q → R v H') : wpR G β H σ st P r R := by
  cases r with
  | ok a st' =>
    intro v H' β' f rl p
    refine hk v a H' β' st' f rl p ?_
    have h' : wpN G β H σ st (k a st') Q := h
    cases e : k a st' with
    | ok b st'' => rw [e] at h'; exact fun H'' β'' f' rl' => h' H'' β'' (f.trans f') rl'
    | ex x st'' => rw [e] at h'; exact fun cv dx H'' β'' f' rl' p' => h' cv dx H'' β'' (f.trans f') rl' p'
    | no => rw [e] at h'; exact h'
  | ex e st' => exact h
  | no => exact h
def lDisp (a : MA) : ML := fun l st => (a l st).bind fun us st => match treesOf us with
  | some ds => if lenOk ds.length = true then .ok ds st else .no
  | none => .no
theorem n_disp {ta : TA} {a : MA} (ha : SimA G ta a) : SimN G (tLst ta) (lDisp a) := fun β H σ l st re Q h => by
  refine ha β H σ l st re _ (wpN_bind h fun vs us H1 β1 st1 f1 rl1 p1 h1 => ?_)
  split at h1
  · rename_i ds e
    split at h1
    · rename_i q
      have r := trees_r p1 e
      exact ⟨by rw [r.len]; exact of_decide_eq_true q, fun p hp => h1 H1 β1 Fut.refl rl1 p vs hp r⟩
    · exact h1.elim
  · exact h1.elim
def idxN (n : Nat) (i : Int) : Option Nat := if 0 ≤ i then (if i < n then some i.toNat else none) else if -(n : Int) ≤ i then some (i + n).toNat else none
theorem ixN_eq (n : Nat) (i : Int) : ixN n i = idxN n i := rfl
theorem rts_atI {xs : List PyData} {vs : List V} {B : Addr → Prop} {i : Int} {j : Nat} {x : PyData} (r : RTs G.K B H vs xs) (h : idxN xs.length i = some j) (hx : xs[j]? = some x) : ∃ v, atI vs i = some v ∧ RT G.K B H v x := by
  obtain ⟨v, h1, h2⟩ := r.get hx
  refine ⟨v, ?_, h2⟩
  unfold atI
  rw [r.len, ixN_eq, h]
  exact h1
def strAt (z : Str) (i : Int) : Option Str := if decide (z.length ≤ sizeLine) = true then (atI z.cps.toList i).map fun c => ⟨#[c]⟩ else none
def flAt (f : Fl) (i : Int) : Option U := if i = 0 then some (.scr f.cells) else if i = 1 then some (.d (.int f.place)) else if i = 2 then some (.d (.int f.held)) else if i = 3 then some (.d (.int f.seed)) else if i = 4 then some (.d (.int f.many)) else none
theorem flAt_r (rl : Rl G β H st) {f : Fl} (hf : st.fl = some f) {i : Int} {u : U} (h : flAt f i = some u) : ∃ v, atI (flV G.fb f) i = some v ∧ RU G β (Ban G β st) H v u := by
  obtain ⟨⟨a, b⟩, _⟩ := rl.flo f hf
  unfold flAt at h
  split at h
  · rename_i e; subst e; cases h
    exact ⟨.ref G.fb, rfl, _, rfl, .inl ⟨.inl b.1, b.2⟩⟩
  · split at h
    · rename_i e; subst e; cases h; exact ⟨_, rfl, .int _⟩
    · split at h
      · rename_i e; subst e; cases h; exact ⟨_, rfl, .int _⟩
      · split at h
        · rename_i e; subst e; cases h; exact ⟨_, rfl, .int _⟩
        · split at h
          · rename_i e; subst e; cases h; exact ⟨_, rfl, .int _⟩
          · cases h
def fIx : U → U → Sto → Res U := fun a b st => match b with
  | .d (.int i) => (match a with
    | .flow => (match st.fl with
      | some f => (match flAt f i with
        | some u => .ok u st
        | none => .no)
      | none => .no)
    | .scr ns => (match (idxN ns.length i).bind fun j => ns[j]? with
      | some x => .ok (.d (.int x)) st
      | none => .no)
    | .d (.str z) => (match strAt z i with
      | some y => .ok (.d (.str y)) st
      | none => .no)
    | _ => (match seqOf st a with
      | some xs => (match (idxN xs.length i).bind fun j => xs[j]? with
        | some x => .ok (.d x) st
        | none => .no)
      | none => .no))
  | _ => .no
theorem r_ix : SimR G (rIx G.K) fIx := fun β H σ l st re x y a b Q hx hy h => by
  unfold fIx at h
  split at h
  · rename_i i
    cases ru_int hy
    split at h
    · split at h
      · rename_i f hf
        split at h
        · rename_i u e
          obtain ⟨v, h1, h2⟩ := flAt_r re.rl hf e
          cases (show x = .ref G.fa from hx)
          exact .inl ⟨G.fa, _, i, v, rfl, rfl, SqL.of (re.rl.flo f hf).1.here, h1, wpR_u re.rl h2 h⟩
        · exact h.elim
      · exact h.elim
    · rename_i ns
      split at h
      · rename_i w e2
        obtain ⟨p, rfl, s⟩ := hx
        cases e3 : idxN ns.length i with
        | none => rw [e3] at e2; cases e2
        | some j =>
          rw [e3] at e2
          refine .inl ⟨p, _, i, .int w, rfl, rfl, s.q, ?_, wpR_d re.rl (.int _) h⟩
          unfold atI
          rw [List.length_map, ixN_eq, e3]
          show (ns.map V.int)[j]? = _
          rw [List.getElem?_map, show ns[j]? = some w from e2]; rfl
      · exact h.elim
    · rename_i z
      cases ru_str hx
      unfold strAt at h
      split at h
      · rename_i y e
        split at e
        · rename_i q
          cases e2 : atI z.cps.toList i with
          | none => rw [e2] at e; cases e
          | some c =>
            rw [e2] at e; cases e
            exact .inr (.inr ⟨z, i, c, rfl, rfl, of_decide_eq_true q, e2, wpR_d re.rl (.str _) h⟩)
        · cases e
      · exact h.elim
    · split at h
      · rename_i xs e
        split at h
        · rename_i w e2
          obtain ⟨p, vs, rfl, s, r⟩ := seq_q re.rl hx e
          cases e3 : idxN xs.length i with
          | none => rw [e3] at e2; cases e2
          | some j =>
            rw [e3] at e2
            obtain ⟨v, h1, h2⟩ := rts_atI r e3 e2
            rcases s with s | s
            · exact .inl ⟨p, vs, i, v, rfl, rfl, s, h1, wpR_d re.rl h2 h⟩
            · exact .inr (.inl ⟨p, vs, i, v, rfl, rfl, s, h1, wpR_d re.rl h2 h⟩)
        · exact h.elim
      · exact h.elim
  · exact h.elim
abbrev MO := Loc → Sto → Res (Option Int)
def PO' : List Addr → Sto → Hp → Option Int → Option Int → Prop := fun _ _ _ a b => a = b
def SimO (G : Gx) (t : TO) (m : MO) : Prop := ∀ β H σ l st, Re G β H σ l st → ∀ Q, wpR G β H σ st PO' (m l st) Q → t σ H Q
def oNone : MO := fun _ st => .ok none st
def oSome (m : ME) : MO := fun l st => (m l st).bind fun u st => match u with
  | .d (.int i) => .ok (some i) st
  | _ => .no
theorem s_oNone : SimO G tNoPart oNone := fun β H σ l st re Q h => h none H β Fut.refl re.rl rfl
theorem s_oSome {t : TE} {m : ME} (h : SimE G t m) : SimO G (tPart t) (oSome m) := fun β H σ l st re Q q => by
  refine h β H σ l st re _ (wpR_bind q fun v u H1 β1 st1 f1 rl1 p1 h1 => ?_)
  split at h1
  · cases ru_int p1
    exact ⟨_, rfl, h1 _ H1 β1 Fut.refl rl1 rfl⟩
  · exact h1.elim
def cutD (xs : List PyData) (lo hi : Option Int) : List PyData := (xs.drop (HT.sIx xs.length 0 lo)).take (HT.sIx xs.length xs.length hi - HT.sIx xs.length 0 lo)
theorem RTs.cut {B : Addr → Prop} {K : PySem.W.Frag} {xs : List PyData} {vs : List V} (r : RTs K B H vs xs) (lo hi : Option Int) : RTs K B H (cutV vs lo hi) (cutD xs lo hi) := by
  unfold cutV cutD
  rw [r.len]
  exact (r.drop _).take _
theorem cut_whole {xs : List PyData} {lo hi : Option Int} (h : HT.sIx xs.length 0 lo = 0 ∧ HT.sIx xs.length xs.length hi = xs.length) : cutD xs lo hi = xs := by
  unfold cutD
  rw [h.1, h.2]; simp
end
end NW
namespace NW
open PySem PySem.Spec PyProof.Rows L2
def Gx.ban (G : Gx) (D : Addr) : Gx := { G with O0 := fun p => G.O0 p ∨ p = D }
def wpS (G : Gx) (β : List Addr) (H : Hp) (st : Sto) (o : Out) (D : Ends) : Prop := match o with
  | .nx l' st' => ∀ σ' H' β', Fut G β st H β' st' H' → Re G β' H' σ' l' st' → D.nx σ' H'
  | .bk l' st' => ∀ σ' H' β', Fut G β st H β' st' H' → Re G β' H' σ' l' st' → D.bk σ' H'
  | .ct l' st' => ∀ σ' H' β', Fut G β st H β' st' H' → Re G β' H' σ' l' st' → D.ct σ' H'
  | .rt u st' => ∀ v H' β', Fut G β st H β' st' H' → Rl G β' H' st' → RU G β' (Ban G β' st') H' v u → D.rt v H'
  | .ex e l' st' => ∀ cv dx σ' H' β', Fut G β st H β' st' H' → Re G β' H' σ' l' st' → ExR G (Ban G β' st') H' e cv dx → G.W cv dx σ' H'
  | .no => False
def SimS (G : Gx) (t : TS) (m : MS) : Prop := ∀ β H σ l st, Re G β H σ l st → ∀ D, wpS G β H st (m l st) D → t D σ H
def Res.out {α : Type} (r : Res α) (l : Loc) (k : α → Sto → Out) : Out := match r with
  | .ok a s => k a s
  | .ex e s => .ex e l s
  | .no => .no
def Out.seq (o : Out) (k : Loc → Sto → Out) : Out := match o with
  | .nx l st => k l st
  | o => o
section
variable {G : Gx} {β β' : List Addr} {st st' : Sto} {H H' : Hp} {v : V} {u : U} {σ σ' : L2.St} {l l' : Loc} {D : Ends}
theorem wpS_fut {o : Out} (f : Fut G β st H β' st' H') (h : wpS G β H st o D) : wpS G β' H' st' o D := by
  cases o with
  | nx l s => exact fun a b c d => h a b c (f.trans d)
  | bk l s => exact fun a b c d => h a b c (f.trans d)
  | ct l s => exact fun a b c d => h a b c (f.trans d)
  | rt u s => exact fun a b c d => h a b c (f.trans d)
  | ex e l s => exact fun a b c d e' f' => h a b c d e' (f.trans f')
  | no => exact h
theorem wpS_nx (re : Re G β H σ l st) (h : wpS G β H st (.nx l st) D) : D.nx σ H := h σ H β Fut.refl re
theorem wpS_res {α γ : Type} {P : List Addr → Sto → Hp → γ → α → Prop} {r : Res α} {k : α → Sto → Out} {R : γ → Hp → Prop} (re : Re G β H σ l st) (h : wpS G β H st (r.out l k) D)
    (hk : ∀ v a H' β' st', Fut G β st H β' st' H' → Rl G β' H' st' → P β' st' H' v a → wpS G β' H' st' (k a st') D → R v H') : wpR G β H σ st P r R := by
  cases r with
  | ok a st' => exact fun v H' β' f rl p => hk v a H' β' st' f rl p (wpS_fut f h)
  | ex e st' => exact fun cv dx H' β' f rl x => h cv dx σ H' β' f (f.re rl re) x
  | no => exact h
theorem wpS_seq {o : Out} {k : Loc → Sto → Out} {N : L2.St → Hp → Prop} (h : wpS G β H st (o.seq k) D) (hk : ∀ σ' H' β' l' st', Fut G β st H β' st' H' → Re G β' H' σ' l' st' → wpS G β' H' st' (k l' st') D → N σ' H') : wpS G β H st o { D with nx := N } := by
  cases o with
  | nx l' s => exact fun σ' H' β' f re => hk σ' H' β' l' s f re (wpS_fut f h)
  | bk l s => exact h
  | ct l s => exact h
  | rt u s => exact h
  | ex e l s => exact h
  | no => exact h
theorem RLoc.set {B : Addr → Prop} (h : RLoc G β B H σ l) (i : Nat) (r : RU G β B H v u) : RLoc G β B H (σ.set i (some v)) (l.set i (some u)) := by
  refine ⟨by rw [List.length_set, List.length_set, h.len], fun j w e => ?_⟩
  by_cases hj : j = i
  · subst hj
    have hl : j < l.length := by
      have := (List.getElem?_eq_some_iff.mp e).1
      rw [List.length_set] at this; exact this
    rw [List.getElem?_set_self hl] at e
    cases e
    exact ⟨v, by rw [List.getElem?_set_self (by rw [h.len]; exact hl)], r⟩
  · rw [List.getElem?_set_ne (Ne.symm hj)] at e
    rw [List.getElem?_set_ne (Ne.symm hj)]
    exact h.at_ j w e
def sNext : MS := fun l st => .nx l st
theorem t_next : SimS G tNext sNext := fun β H σ l st re D h => wpS_nx re h
def sSeq (a b : MS) : MS := fun l st => (a l st).seq b
theorem t_seq {t u : TS} {a b : MS} (ha : SimS G t a) (hb : SimS G u b) : SimS G (tSeq t u) (sSeq a b) := fun β H σ l st re D h =>
  ha β H σ l st re _ (wpS_seq h fun σ' H' β' l' st' f re' h' => hb β' H' σ' l' st' re' D h')
def sAsg (i : Nat) (m : ME) : MS := fun l st => (m l st).out l fun u st => .nx (l.set i (some u)) st
theorem t_asg {i : Nat} {t : TE} {m : ME} (h : SimE G t m) : SimS G (tAsg t (gName i)) (sAsg i m) := fun β H σ l st re D q =>
  h β H σ l st re _ (wpS_res re q fun v u H' β' st' f rl p q' => wpS_nx ⟨rl, (f.re rl re).lo.set i p⟩ q')
def sDrop (m : ME) : MS := fun l st => (m l st).out l fun _ st => .nx l st
theorem t_drop {t : TE} {m : ME} (h : SimE G t m) : SimS G (tDrop t) (sDrop m) := fun β H σ l st re D q =>
  h β H σ l st re _ (wpS_res re q fun v u H' β' st' f rl p q' => wpS_nx (f.re rl re) q')
def sRet (m : ME) : MS := fun l st => (m l st).out l fun u st => .rt u st
theorem t_ret {t : TE} {m : ME} (h : SimE G t m) : SimS G (tRet t) (sRet m) := fun β H σ l st re D q =>
  h β H σ l st re _ (wpS_res re q fun v u H' β' st' f rl p q' => q' v H' β' Fut.refl rl p)
def sIf (c : MB) (a b : MS) : MS := fun l st => (c l st).out l fun k st => if k = true then a l st else b l st
theorem t_if {c : TT} {t u : TS} {k : MB} {a b : MS} (hc : SimT G c k) (ha : SimS G t a) (hb : SimS G u b) : SimS G (tIfS c t u) (sIf k a b) := fun β H σ l st re D q => by
  refine hc β H σ l st re _ (wpS_res re q fun v w H' β' st' f rl p q' => ?_)
  cases (show v = w from p)
  cases v with
  | true => exact ha β' H' σ l st' (f.re rl re) D q'
  | false => exact hb β' H' σ l st' (f.re rl re) D q'
def sPar (i j : Nat) (a : MA) : MS := fun l st => (a l st).out l fun us st => match us with
  | [u, w] => .nx ((l.set i (some u)).set j (some w)) st
  | _ => .no
theorem t_par {i j : Nat} {ta : TA} {a : MA} (h : SimA G ta a) : SimS G (tPar i j ta) (sPar i j a) := fun β H σ l st re D q => by
  refine h β H σ l st re _ (wpS_res re q fun vs us H' β' st' f rl p q' => ?_)
  split at q'
  · rename_i u w
    have p' : Paired (fun v u => RU G β' (Ban G β' st') H' v u) vs [u, w] := p
    cases p' with
    | cons r1 p2 =>
      cases p2 with
      | cons r2 p3 =>
        cases p3
        exact ⟨_, _, rfl, wpS_nx ⟨rl, ((f.re rl re).lo.set i r1).set j r2⟩ q'⟩
  · exact q'.elim
abbrev MT := U → Loc → Sto → Res Loc
def PL (G : Gx) (σ0 : L2.St) (vs : List Nat) : List Addr → Sto → Hp → L2.St → Loc → Prop := fun β st H σ l => RLoc G β (Ban G β st) H σ l ∧ σ.length = σ0.length ∧ ∀ i, i ∉ vs → σ[i]? = σ0[i]?
def SimG (G : Gx) (vs : List Nat) (g : TG) (m : MT) : Prop := ∀ β H σ l st, Re G β H σ l st → ∀ v u, RU G β (Ban G β st) H v u → ∀ Q : L2.St → Hp → Prop, wpR G β H σ st (PL G σ vs) (m u l st) Q → g v σ H Q
def gNameM (i : Nat) : MT := fun u l st => .ok (l.set i (some u)) st
theorem g_name (i : Nat) : SimG G [i] (gName i) (gNameM i) := fun β H σ l st re v u r Q h =>
  h (σ.set i (some v)) H β Fut.refl re.rl ⟨re.lo.set i r, by rw [List.length_set], fun j hj => by
    rw [List.getElem?_set_ne]
    intro e; subst e; exact hj (by simp)⟩
abbrev MTs := List PyData → Loc → Sto → Res Loc
def SimGs (G : Gx) (vs : List Nat) (g : TGs) (m : MTs) : Prop := ∀ β H σ l st, Re G β H σ l st → ∀ xs ds, RTs G.K (Ban G β st) H xs ds → ∀ Q : L2.St → Hp → Prop, wpR G β H σ st (PL G σ vs) (m ds l st) Q → g xs σ H Q
def gNilM : MTs := fun ds l st => match ds with | [] => .ok l st | _ => .no
def gConsM (t : MT) (r : MTs) : MTs := fun ds l st => match ds with
  | d :: ds => (t (.d d) l st).bind fun l st => r ds l st
  | [] => .no
theorem g_nil : SimGs G [] gNil gNilM := fun β H σ l st re xs ds r Q h => by
  cases ds with
  | nil => cases r; exact ⟨rfl, h σ H β Fut.refl re.rl ⟨re.lo, rfl, fun _ _ => rfl⟩⟩
  | cons d ds => exact False.elim h
theorem wpR_mono {α γ : Type} {P P' : List Addr → Sto → Hp → γ → α → Prop} {r : Res α} {Q : γ → Hp → Prop} (h : wpR G β H σ st P r Q) (k : ∀ β' st' H' v a, Fut G β st H β' st' H' → P' β' st' H' v a → P β' st' H' v a) : wpR G β H σ st P' r Q := by
  cases r with
  | ok a s => exact fun v H' β' f rl p => h v H' β' f rl (k _ _ _ _ _ f p)
  | ex e s => exact h
  | no => exact h
def Res.noEx {α : Type} : Res α → Prop
  | .ex _ _ => False
  | _ => True
theorem wpR_noEx {α γ : Type} {P : List Addr → Sto → Hp → γ → α → Prop} {r : Res α} {Q : γ → Hp → Prop} (n : r.noEx) (h : wpR G β H σ st P r Q) : wpR G β H σ' st P r Q := by
  cases r with
  | ok a s => exact h
  | ex e s => exact n.elim
  | no => exact h
theorem g_cons {vs ws : List Nat} {g : TG} {gs : TGs} {t : MT} {r : MTs} (h1 : SimG G vs g t) (h2 : SimGs G ws gs r) (ne : ∀ ds l st, (r ds l st).noEx) : SimGs G (vs ++ ws) (gCons g gs) (gConsM t r) := fun β H σ l st re xs ds q Q h => by
  cases ds with
  | nil => exact False.elim h
  | cons d ds =>
    cases q with
    | cons q1 q2 =>
      refine ⟨_, _, rfl, h1 β H σ l st re _ (.d d) q1 _ (wpR_bind h fun σ1 l1 H1 β1 st1 f1 rl1 p1 k1 => ?_)⟩
      refine h2 β1 H1 σ1 l1 st1 ⟨rl1, p1.1⟩ _ ds (f1.rts q2) Q (wpR_mono (wpR_noEx (ne _ _ _) k1) fun β' st' H' σ2 l2 f p => ⟨p.1, p.2.1.trans p1.2.1, fun i hi => ?_⟩)
      rw [List.mem_append, not_or] at hi
      exact (p.2.2 i hi.2).trans (p1.2.2 i hi.1)
def gTupM (n : Nat) (r : MTs) : MT := fun u l st => match u with
  | .d (.tuple xs) => if xs.length = n then r xs l st else .no
  | _ => .no
theorem g_tup {vs : List Nat} {n : Nat} {gs : TGs} {r : MTs} (h : SimGs G vs gs r) : SimG G vs (gTup G.K n gs) (gTupM n r) := fun β H σ l st re v u q Q hw => by
  unfold gTupM at hw
  split at hw
  · rename_i xs
    split at hw
    · rename_i e
      obtain ⟨p, ws, rfl, s, r'⟩ := tup_q q (xs := xs) rfl
      exact ⟨p, ws, rfl, s, by rw [r'.len]; exact e, h β H σ l st re ws xs r' Q hw⟩
    · exact hw.elim
  · exact hw.elim
theorem gName_noEx (i : Nat) (u : U) (l : Loc) (st : Sto) : (gNameM i u l st).noEx := trivial
theorem gNil_noEx (ds : List PyData) (l : Loc) (st : Sto) : (gNilM ds l st).noEx := by unfold gNilM; split <;> trivial
theorem gCons_noEx {t : MT} {r : MTs} (h1 : ∀ u l st, (t u l st).noEx) (h2 : ∀ ds l st, (r ds l st).noEx) (ds : List PyData) (l : Loc) (st : Sto) : (gConsM t r ds l st).noEx := by
  unfold gConsM
  cases ds with
  | nil => trivial
  | cons d ds =>
    show ((t (.d d) l st).bind fun l st => r ds l st).noEx
    have q := h1 (.d d) l st
    cases e : t (.d d) l st with
    | ok l' s' => exact h2 ds l' s'
    | ex x s' => rw [e] at q; exact q
    | no => trivial
theorem gTup_noEx {n : Nat} {r : MTs} (h : ∀ ds l st, (r ds l st).noEx) (u : U) (l : Loc) (st : Sto) : (gTupM n r u l st).noEx := by
  unfold gTupM
  split
  · split
    · exact h _ _ _
    · trivial
  · trivial
def sAsgG (m : ME) (t : MT) : MS := fun l st => (m l st).out l fun u st => (t u l st).out l fun l' st => .nx l' st
theorem t_asgG {vs : List Nat} {t : TE} {m : ME} {g : TG} {mt : MT} (h : SimE G t m) (hg : SimG G vs g mt) : SimS G (tAsg t g) (sAsgG m mt) := fun β H σ l st re D q =>
  h β H σ l st re _ (wpS_res re q fun v u H' β' st' f rl p q' => by
    have re' := f.re rl re
    exact hg β' H' σ l st' re' v u p _ (wpS_res re' q' fun σ2 l2 H2 β2 st2 f2 rl2 p2 q2 => wpS_nx ⟨rl2, p2.1⟩ q2))
def flPut (f : Fl) (i x : Int) : Option Fl := if i = 1 then some { f with place := x } else if i = 2 then some { f with held := x } else if i = 3 then some { f with seed := x } else if i = 4 then some { f with many := x } else none
theorem flPut_v {fb : Addr} {f f' : Fl} {i x : Int} (h : flPut f i x = some f') : ∃ n, ixN 5 i = some n ∧ (flV fb f).set n (.int x) = flV fb f' ∧ f'.cells = f.cells := by
  unfold flPut at h
  split at h
  · rename_i e; subst e; cases h; exact ⟨1, rfl, rfl, rfl⟩
  · split at h
    · rename_i e; subst e; cases h; exact ⟨2, rfl, rfl, rfl⟩
    · split at h
      · rename_i e; subst e; cases h; exact ⟨3, rfl, rfl, rfl⟩
      · split at h
        · rename_i e; subst e; cases h; exact ⟨4, rfl, rfl, rfl⟩
        · cases h
def gSubM (o i : ME) : MT := fun u l st => (o l st).bind fun ou st => (i l st).bind fun iu st => match ou, iu, u with
  | .flow, .d (.int j), .d (.int x) => (match st.fl with
    | some f => (match flPut f j x with
      | some f' => .ok l { st with fl := some f' }
      | none => .no)
    | none => .no)
  | .ref k, .d (.int j), .d y => (match st.obs[k]? with
    | some (.lst xs) => (match idxN xs.length j with
      | some n => .ok l (st.put k (xs.set n y))
      | none => .no)
    | _ => .no)
  | _, _, _ => .no
theorem g_sub {to ti : TE} {o i : ME} (ho : SimE G to o) (hi : SimE G ti i) : SimG G [] (gSub to ti rSetL) (gSubM o i) := fun β H σ l st re v u r Q h => by
  refine ho β H σ l st re _ (wpR_bind h fun ov ou H1 β1 st1 f1 rl1 p1 h1 => ?_)
  have re1 := f1.re rl1 re
  refine hi β1 H1 σ l st1 re1 _ (wpR_bind h1 fun iv iu H2 β2 st2 f2 rl2 p2 h2 => ?_)
  have re2 := f2.re rl2 re1
  have r2 := f2.ru (f1.ru r)
  split at h2
  · rename_i j x
    cases ru_int p2
    cases ru_int r2
    split at h2
    · rename_i f hf
      split at h2
      · rename_i f' hp
        cases (show ov = .ref G.fa from f2.ru p1)
        obtain ⟨⟨a, b⟩, _⟩ := rl2.flo f hf
        obtain ⟨n, e1, e2, e3⟩ := flPut_v (fb := G.fb) hp
        refine ⟨G.fa, _, j, n, rfl, rfl, a, e1, ?_⟩
        obtain ⟨f3, rl3⟩ := flow_end (H' := upd H2 G.fa (.lst ((flV G.fb f).set n (.int x)))) rl2 hf (fun b o hb ne => by rw [upd_ne ne]; exact hb) (by rw [upd_same, e2]) e3
        exact h2 σ _ β2 f3 rl3 ⟨f3.rloc re2.lo, rfl, fun _ _ => rfl⟩
      · exact h2.elim
    · exact h2.elim
  · rename_i k j y
    cases ru_int p2
    split at h2
    · rename_i xs e
      split at h2
      · rename_i n en
        obtain ⟨p, e1, rfl⟩ := f2.ru p1
        obtain ⟨q, vs, a, b, c⟩ := rl2.ob k xs e
        rw [e1] at a; cases a
        refine ⟨p, vs, j, n, rfl, rfl, b, by rw [c.len, ixN_eq]; exact en, ?_⟩
        obtain ⟨f3, rl3⟩ := put_own rl2 e e1 (c.set n r2)
        exact h2 σ _ β2 f3 rl3 ⟨f3.rloc re2.lo, rfl, fun _ _ => rfl⟩
      · exact h2.elim
    · exact h2.elim
  · exact h2.elim
def whileN (c : MB) (b : MS) : Nat → Loc → Sto → Out
  | 0, _, _ => .no
  | n + 1, l, st => (c l st).out l fun k st => if k = true then (match b l st with
      | .nx l st => whileN c b n l st
      | .ct l st => whileN c b n l st
      | .bk l st => .nx l st
      | o => o) else .nx l st
theorem whileN_succ {c : MB} {b : MS} : ∀ {n : Nat} {l : Loc} {st : Sto}, whileN c b n l st ≠ .no → whileN c b (n + 1) l st = whileN c b n l st
  | 0, _, _, h => absurd rfl h
  | n + 1, l, st, h => by
    rw [whileN]
    conv => rhs; rw [whileN]
    rw [whileN] at h
    cases e : c l st with
    | ok k s =>
      rw [e] at h
      simp only [Res.out] at h ⊢
      split
      · rename_i hk
        rw [if_pos hk] at h
        cases e2 : b l s with
        | nx l2 s2 => rw [e2] at h; exact whileN_succ h
        | ct l2 s2 => rw [e2] at h; exact whileN_succ h
        | bk l2 s2 => rfl
        | rt u s2 => rfl
        | ex x l2 s2 => rfl
        | no => rfl
      · rfl
    | ex x s => rfl
    | no => rfl
theorem whileN_le {c : MB} {b : MS} {n m : Nat} {l : Loc} {st : Sto} (h : whileN c b n l st ≠ .no) (hm : n ≤ m) : whileN c b m l st = whileN c b n l st := by
  obtain ⟨k, rfl⟩ := Nat.le.dest hm
  induction k with
  | zero => rfl
  | succ k ih =>
    have e := ih (by omega)
    have h2 : whileN c b (n + k) l st ≠ .no := by rw [e]; exact h
    exact (whileN_succ h2).trans e
open Classical in
noncomputable def sWhile (c : MB) (b : MS) : MS := fun l st => if h : ∃ n, whileN c b n l st ≠ .no then whileN c b h.choose l st else .no
theorem sWhile_of {c : MB} {b : MS} {l : Loc} {st : Sto} {o : Out} (n : Nat) (h : whileN c b n l st = o) (hn : o ≠ .no) : sWhile c b l st = o := by
  have hx : ∃ n, whileN c b n l st ≠ .no := ⟨n, by rw [h]; exact hn⟩
  unfold sWhile
  rw [dif_pos hx]
  have h1 := hx.choose_spec
  rcases Nat.le_total n hx.choose with z | z
  · rw [whileN_le (by rw [h]; exact hn) z]; exact h
  · rw [← whileN_le h1 z]; exact h
theorem t_while {c : TT} {t : TS} {k : MB} {b : MS} (hc : SimT G c k) (hb : SimS G t b) : SimS G (tWhile c t) (sWhile k b) := fun β H σ l st re D q => by
  unfold sWhile at q
  split at q
  · rename_i hx
    refine ⟨fun m σ' H' => ∃ β' l' st', Re G β' H' σ' l' st' ∧ wpS G β' H' st' (whileN k b m l' st') D, ⟨_, β, l, st, re, q⟩, ?_⟩
    rintro m σ1 H1 ⟨β1, l1, st1, re1, q1⟩
    cases m with
    | zero => exact False.elim q1
    | succ m =>
      rw [whileN] at q1
      refine hc β1 H1 σ1 l1 st1 re1 _ (wpS_res re1 q1 fun x y H2 β2 st2 f2 rl2 p2 q2 => ?_)
      cases (show x = y from p2)
      have re2 := f2.re rl2 re1
      cases x with
      | false => exact wpS_nx re2 q2
      | true =>
        refine ⟨fun σ' H' => ∃ β' l' st', Re G β' H' σ' l' st' ∧ wpS G β' H' st' (whileN k b m l' st') D, fun σ' H' h => ⟨m, Nat.lt_succ_self m, h⟩, ?_⟩
        refine hb β2 H2 σ1 l1 st2 re2 _ ?_
        have q2' : wpS G β2 H2 st2 (match b l1 st2 with
          | .nx l st => whileN k b m l st
          | .ct l st => whileN k b m l st
          | .bk l st => .nx l st
          | o => o) D := q2
        cases e : b l1 st2 with
        | nx l3 s3 => rw [e] at q2'; exact fun σ' H' β' f re' => ⟨β', l3, s3, re', wpS_fut f q2'⟩
        | ct l3 s3 => rw [e] at q2'; exact fun σ' H' β' f re' => ⟨β', l3, s3, re', wpS_fut f q2'⟩
        | bk l3 s3 => rw [e] at q2'; exact q2'
        | rt u s3 => rw [e] at q2'; exact q2'
        | ex x l3 s3 => rw [e] at q2'; exact q2'
        | no => rw [e] at q2'; exact q2'
  · exact q.elim
structure ItD where
  items : List PyData
  own : List (Nat × List PyData)
def ItD.chk (d : ItD) (st : Sto) : Prop := ∀ p ∈ d.own, st.obs[p.1]? = some (Ob.lst p.2)
abbrev MI := Loc → Sto → Res ItD
def Gx.o (G : Gx) (O1 : Addr → Prop) : Gx := { G with O0 := O1 }
def ItR (G : Gx) (β0 : List Addr) (st0 : Sto) (H0 : Hp) (J : It) (d : ItD) : Prop := ∀ O1 : Addr → Prop, (∀ p, O1 p → G.O0 p ∨ H0 p = none) → ∀ β H st, Fut G β0 st0 H0 β st H → Rl (G.o O1) β H st → d.chk st → ∀ i,
  (∀ y, d.items[i]? = some y → J.go i H ∧ ∀ x H', J.yld i H x H' → (H' = H ∨ ∃ T ws, H T = none ∧ H' = upd H T (.tup ws)) ∧ RT G.K (Ban (G.o O1) β st) H' x y) ∧ (d.items.length ≤ i → J.stop i H)
def SimI (G : Gx) (wi : TI) (m : MI) : Prop := ∀ β H σ l st, Re G β H σ l st → ∀ R : It → Hp → Prop, wpR G β H σ st (fun β st H J d => ItR G β st H J d) (m l st) R → wi σ H R
open Classical in
noncomputable def forM (d : ItD) (t : MT) (b : MS) : List PyData → Loc → Sto → Out
  | [], l, st => if d.chk st then .nx l st else .no
  | x :: xs, l, st => if d.chk st then (t (.d x) l st).out l fun l st => (match b l st with
      | .nx l st => forM d t b xs l st
      | .ct l st => forM d t b xs l st
      | .bk l st => .nx l st
      | o => o) else .no
noncomputable def sFor (mi : MI) (t : MT) (b : MS) : MS := fun l st => (mi l st).out l fun d st => forM d t b d.items l st
theorem it_fut (rl : Rl G β H st) (h : H' = H ∨ ∃ T ws, H T = none ∧ H' = upd H T (.tup ws)) : Fut G β st H β st H' ∧ Rl G β H' st := by
  rcases h with rfl | ⟨T, ws, hT, rfl⟩
  · exact ⟨Fut.refl, rl⟩
  · exact ⟨Fut.new hT, rl.new hT⟩
theorem t_for {wi : TI} {g : TG} {t : TS} {vs : List Nat} {mi : MI} {mt : MT} {b : MS} (hi : SimI G wi mi) (hg : SimG G vs g mt) (hb : SimS G t b) : SimS G (tFor wi g t) (sFor mi mt b) := fun β H σ l st re D q => by
  refine hi β H σ l st re _ (wpS_res re q fun J d H1 β1 st1 f1 rl1 itr q1 => ?_)
  have re1 := f1.re rl1 re
  refine ⟨fun i m σ' H' => m = d.items.length - i ∧ ∃ β' l' st', Fut G β1 st1 H1 β' st' H' ∧ Re G β' H' σ' l' st' ∧ wpS G β' H' st' (forM d mt b (d.items.drop i) l' st') D, ⟨_, rfl, β1, l, st1, Fut.refl, re1, q1⟩, ?_⟩
  rintro i m σ2 H2 ⟨rfl, β2, l2, st2, f2, re2, q2⟩
  cases hd : d.items[i]? with
  | none =>
    have hl : d.items.length ≤ i := List.getElem?_eq_none_iff.mp hd
    rw [List.drop_eq_nil_of_le hl, forM] at q2
    split at q2
    · rename_i hk
      exact .inl ⟨(itr G.O0 (fun p h => .inl h) β2 H2 st2 f2 re2.rl hk i).2 hl, wpS_nx re2 q2⟩
    · exact q2.elim
  | some y =>
    obtain ⟨hlt, ey⟩ := List.getElem?_eq_some_iff.mp hd
    rw [List.drop_eq_getElem_cons hlt, ey, forM] at q2
    split at q2
    · rename_i hk
      obtain ⟨hgo, hy⟩ := (itr G.O0 (fun p h => .inl h) β2 H2 st2 f2 re2.rl hk i).1 y hd
      refine .inr ⟨hgo, fun σ' H' => ∃ β' l' st', Fut G β1 st1 H1 β' st' H' ∧ Re G β' H' σ' l' st' ∧ wpS G β' H' st' (forM d mt b (d.items.drop (i + 1)) l' st') D, fun σ' H' h => ⟨_, by omega, rfl, h⟩, fun x H3 hyl => ?_⟩
      obtain ⟨hc, rx⟩ := hy x H3 hyl
      obtain ⟨f3, rl3⟩ := it_fut re2.rl hc
      have re3 := f3.re rl3 re2
      refine hg β2 H3 σ2 l2 st2 re3 x (.d y) rx _ (wpS_res re3 (wpS_fut f3 q2) fun σ4 l4 H4 β4 st4 f4 rl4 p4 q4 => ?_)
      refine hb β4 H4 σ4 l4 st4 ⟨rl4, p4.1⟩ _ ?_
      have q4' : wpS G β4 H4 st4 (match b l4 st4 with
          | .nx l st => forM d mt b (d.items.drop (i + 1)) l st
          | .ct l st => forM d mt b (d.items.drop (i + 1)) l st
          | .bk l st => .nx l st
          | o => o) D := q4
      have ff := f2.trans (f3.trans f4)
      cases e : b l4 st4 with
      | nx l5 s5 => rw [e] at q4'; exact fun σ' H' β' f re' => ⟨β', l5, s5, ff.trans f, re', wpS_fut f q4'⟩
      | ct l5 s5 => rw [e] at q4'; exact fun σ' H' β' f re' => ⟨β', l5, s5, ff.trans f, re', wpS_fut f q4'⟩
      | bk l5 s5 => rw [e] at q4'; exact q4'
      | rt u s5 => rw [e] at q4'; exact q4'
      | ex x l5 s5 => rw [e] at q4'; exact q4'
      | no => rw [e] at q4'; exact q4'
    · exact q2.elim
end
end NW
namespace NW
open PySem PySem.Spec PyProof.Rows L2
section
variable {G : Gx} {β β' : List Addr} {st st' : Sto} {H H' : Hp} {v : V} {u : U} {σ σ' : L2.St} {l l' : Loc} {D : Ends}
theorem ban_o {O1 : Addr → Prop} (hO : ∀ p, O1 p → G.O0 p ∨ H p = none) {p : Addr} (n : ¬ Ban G β st p) (t : H p ≠ none) : ¬ Ban (G.o O1) β st p := by
  rintro (h | h)
  · rcases hO p h with z | z
    · exact n (.inl z)
    · exact t z
  · exact n (.inr h)
theorem rd_ne {H : Hp} {a : Addr} {u : HO} (h : Rd H a u) : H a ≠ none := by
  rcases h with h | ⟨o, h⟩ <;> rw [h] <;> simp
mutual
theorem RT.o {B B' : Addr → Prop} {K : PySem.W.Frag} (k : ∀ p, ¬ B p → H p ≠ none → ¬ B' p) : ∀ (d : PyData) (v : V), RT K B H v d → RT K B' H v d
  | .none, _, h => by cases h; exact .non
  | .bool b, _, h => by cases h; exact .bl b
  | .int i, _, h => by cases h; exact .int i
  | .str x, _, h => by cases h; exact .str x
  | .list ds, _, h => by
    cases h with
    | lst hs ha => exact .lst ⟨hs.1, k _ hs.2 (by rw [hs.1]; simp)⟩ (RTs.o k ds _ ha)
  | .tuple ds, _, h => by
    cases h with
    | tup hs ha => exact .tup (hs.imp (fun z => ⟨z.1, k _ z.2 (rd_ne z.1)⟩) id) (RTs.o k ds _ ha)
  | .dict _, _, h => by cases h
theorem RTs.o {B B' : Addr → Prop} {K : PySem.W.Frag} (k : ∀ p, ¬ B p → H p ≠ none → ¬ B' p) : ∀ (ds : List PyData) (vs : List V), RTs K B H vs ds → RTs K B' H vs ds
  | [], _, h => by cases h; exact .nil
  | d :: ds, _, h => by
    cases h with
    | cons h1 h2 => exact .cons (RT.o k d _ h1) (RTs.o k ds _ h2)
end
theorem fut_o {O1 : Addr → Prop} (f : Fut G β st H β' st' H') : Fut (G.o O1) β st H β' st' H' := ⟨f.ext, f.there, f.stay⟩
def SrcL (G : Gx) (β0 : List Addr) (st0 : Sto) (H0 : Hp) (p : Addr) (own : List (Nat × List PyData)) (xs : List PyData) : Prop := ∀ O1 : Addr → Prop, (∀ p, O1 p → G.O0 p ∨ H0 p = none) → ∀ β H st, Fut G β0 st0 H0 β st H → Rl (G.o O1) β H st →
  (∀ q ∈ own, st.obs[q.1]? = some (Ob.lst q.2)) → ∃ vs, SqL G.K H p vs ∧ RTs G.K (Ban (G.o O1) β st) H vs xs
def SrcT (G : Gx) (β0 : List Addr) (st0 : Sto) (H0 : Hp) (p : Addr) (xs : List PyData) : Prop := ∀ O1 : Addr → Prop, (∀ p, O1 p → G.O0 p ∨ H0 p = none) → ∀ β H st, Fut G β0 st0 H0 β st H → Rl (G.o O1) β H st →
  ∃ vs, SqT G.K H p vs ∧ RTs G.K (Ban (G.o O1) β st) H vs xs
theorem rt_o_fut {O1 : Addr → Prop} (hO : ∀ p, O1 p → G.O0 p ∨ H p = none) (f : Fut G β st H β' st' H') {vs : List V} {xs : List PyData} (r : RTs G.K (Ban G β st) H vs xs) : RTs G.K (Ban (G.o O1) β' st') H' vs xs :=
  (fut_o (O1 := O1) f).rts (RTs.o (B' := Ban (G.o O1) β st) (fun p n t => ban_o hO n t) _ _ r)
def srcOf (st : Sto) : U → Option (List PyData × List (Nat × List PyData))
  | .d (.list xs) => some (xs, [])
  | .d (.tuple xs) => some (xs, [])
  | .ref i => match st.obs[i]? with | some (.lst xs) => some (xs, [(i, xs)]) | _ => none
  | _ => none
theorem src_q (rl : Rl G β H st) (h : RU G β (Ban G β st) H v u) {xs : List PyData} {own : List (Nat × List PyData)} (e : srcOf st u = some (xs, own)) :
    ∃ p, v = .ref p ∧ ((SrcL G β st H p own xs ∧ ∃ vs, SqL G.K H p vs ∧ vs.length = xs.length) ∨ (own = [] ∧ SrcT G β st H p xs ∧ ∃ vs, SqT G.K H p vs ∧ vs.length = xs.length)) := by
  unfold srcOf at e
  split at e
  · cases e
    cases h with
    | lst a b =>
      refine ⟨_, rfl, .inl ⟨fun O1 hO β1 H1 st1 f rl1 _ => ⟨_, ?_, rt_o_fut hO f b⟩, _, a.q, b.len⟩⟩
      have a' : SqLB G.K (Ban (G.o O1) β st) H _ _ := ⟨a.1, ban_o hO a.2 (by rw [a.1]; simp)⟩
      exact (a'.fut (fut_o f)).q
  · cases e
    cases h with
    | tup a b =>
      refine ⟨_, rfl, .inr ⟨rfl, fun O1 hO β1 H1 st1 f rl1 => ⟨_, ?_, rt_o_fut hO f b⟩, _, a.q, b.len⟩⟩
      have a' : SqTB G.K (Ban (G.o O1) β st) H _ _ := a.imp (fun z => ⟨z.1, ban_o hO z.2 (rd_ne z.1)⟩) id
      have z : SqTB G.K (Ban (G.o O1) β1 st1) H1 _ _ := a'.imp (fun z => (fut_o (O1 := O1) f).keep.rd z) id
      exact z.q
  · rename_i i
    split at e
    · rename_i hy
      cases e
      obtain ⟨p, h1, rfl⟩ := h
      refine ⟨p, rfl, .inl ⟨fun O1 hO β1 H1 st1 f rl1 hk => ?_, ?_⟩⟩
      · obtain ⟨q, vs, a, b, c⟩ := rl1.ob i xs (hk (i, xs) (by simp))
        rw [f.get h1] at a; cases a
        exact ⟨vs, SqL.of b, c⟩
      · obtain ⟨q, vs, a, b, c⟩ := rl.ob i _ hy
        rw [h1] at a; cases a
        exact ⟨vs, SqL.of b, c.len⟩
    · cases e
  · cases e
def iAny (K : PySem.W.Frag) (tl : TE) : TI := fun σ H R => tl σ H fun x H1 => ∃ a, x = .ref a ∧ (((∃ xs, SqL K H1 a xs) ∧ R (Itl K a) H1) ∨ ((∃ xs, SqT K H1 a xs) ∧ R (Itt K a) H1))
theorem pi_any {X : Cx} {tg l : Expr} {tl : TE} (hl : PE X l tl) : PI X tg l (iAny X.K tl) := by
  refine ⟨fun pins s σ H R I h => ?_⟩
  refine thn (hl.run pins s σ H _ I h) fun v s1 ⟨x, H1, I1, r1, q1⟩ => ?_
  obtain ⟨a, e, q⟩ := q1
  subst e
  cases r1
  rcases q with ⟨⟨xs, hq⟩, q⟩ | ⟨⟨xs, hq⟩, q⟩
  · obtain ⟨its, rv, p, hz⟩ := I1.list hq
    refine wpAny_pyIter_list p.isList ?_
    refine ⟨s1.heap.objs.size, [s1.heap.objs.size], _, _, H1, rfl, I1.kept (t' := s1.toks) fun b o e => Heap.get?_push_of_some _ e, turn_list a _, ⟨_, Heap.get?_push_size _ rfl, rfl, rfl⟩, fun b hb => ?_, q⟩
    have e : b = s1.heap.objs.size := by simpa using hb
    subst e
    exact I1.fpOk (Nat.le_refl _) (I1.hok.fresh (Nat.le_refl _))
  · obtain ⟨its, rv, p, hz⟩ := I1.tuple hq
    refine wpAny_pyIter_tuple (show s1.heap.IsTuple a its.toArray from p) ?_
    refine ⟨s1.heap.objs.size, [s1.heap.objs.size], _, _, H1, rfl, I1.kept (t' := s1.toks) fun b o e => Heap.get?_push_of_some _ e, turn_tuple a _, ⟨_, Heap.get?_push_size _ rfl, rfl, rfl⟩, fun b hb => ?_, q⟩
    have e : b = s1.heap.objs.size := by simpa using hb
    subst e
    exact I1.fpOk (Nat.le_refl _) (I1.hok.fresh (Nat.le_refl _))
def mAny (m : ME) : MI := fun l st => (m l st).bind fun u st => match srcOf st u with
  | some (xs, own) => .ok ⟨xs, own⟩ st
  | none => .no
theorem itl_r {p : Addr} {own : List (Nat × List PyData)} {xs : List PyData} (s : SrcL G β st H p own xs) : ItR G β st H (Itl G.K p) ⟨xs, own⟩ := fun O1 hO β1 H1 st1 f rl1 hk i => by
  obtain ⟨vs, sq, r⟩ := s O1 hO β1 H1 st1 f rl1 hk
  refine ⟨fun y hy => ?_, fun hi => ⟨vs, sq, by rw [r.len]; exact hi⟩⟩
  obtain ⟨w, hw, rw'⟩ := r.get hy
  refine ⟨⟨vs, w, sq, hw⟩, fun x H' hyl => ?_⟩
  obtain ⟨rfl, hx⟩ := hyl
  have e : w = x := Option.some.inj (hw.symm.trans (hx vs sq))
  subst e
  exact ⟨.inl rfl, rw'⟩
theorem itt_r {p : Addr} {xs : List PyData} (s : SrcT G β st H p xs) : ItR G β st H (Itt G.K p) ⟨xs, []⟩ := fun O1 hO β1 H1 st1 f rl1 hk i => by
  obtain ⟨vs, sq, r⟩ := s O1 hO β1 H1 st1 f rl1
  refine ⟨fun y hy => ?_, fun hi => ⟨vs, sq, by rw [r.len]; exact hi⟩⟩
  obtain ⟨w, hw, rw'⟩ := r.get hy
  refine ⟨⟨vs, w, sq, hw⟩, fun x H' hyl => ?_⟩
  obtain ⟨rfl, hx⟩ := hyl
  have e : w = x := Option.some.inj (hw.symm.trans (hx vs sq))
  subst e
  exact ⟨.inl rfl, rw'⟩
theorem i_any {t : TE} {m : ME} (h : SimE G t m) : SimI G (iAny G.K t) (mAny m) := fun β H σ l st re R q => by
  refine h β H σ l st re _ (wpR_bind q fun v u H1 β1 st1 f1 rl1 p1 h1 => ?_)
  split at h1
  · rename_i xs own e
    obtain ⟨p, rfl, ⟨s, vs, sq, _⟩ | ⟨rfl, s, vs, sq, _⟩⟩ := src_q rl1 p1 e
    · exact ⟨p, rfl, .inl ⟨⟨vs, sq⟩, h1 _ H1 β1 Fut.refl rl1 (itl_r s)⟩⟩
    · exact ⟨p, rfl, .inr ⟨⟨vs, sq⟩, h1 _ H1 β1 Fut.refl rl1 (itt_r s)⟩⟩
  · exact h1.elim
def rangeD (lo c : Int) (n : Nat) : List PyData := (List.range n).map fun i => .int (lo + (i : Nat) * c)
theorem itr_r {lo : Int} {n : Nat} : ItR G β st H (Itr lo n) ⟨rangeD lo 1 n, []⟩ := fun O1 hO β1 H1 st1 f rl1 hk i => by
  refine ⟨fun y hy => ?_, fun hi => (show n ≤ i by simpa [rangeD] using hi)⟩
  have hi : i < n := by
    have := (List.getElem?_eq_some_iff.mp hy).1
    simpa [rangeD] using this
  refine ⟨hi, fun x H' hyl => ?_⟩
  obtain ⟨rfl, rfl⟩ := hyl
  have e : (rangeD lo 1 n)[i]? = some (.int (lo + (i : Nat) * 1)) := by simp [rangeD, hi]
  rw [Int.mul_one] at e
  rw [e] at hy; cases hy
  exact ⟨.inl rfl, .int _⟩
def rOk (i : Int) : Bool := decide (-(2 ^ 62) ≤ i ∧ i < 2 ^ 62)
theorem int1 {vs : List V} {i : Int} (p : PUs G β st H vs [.d (.int i)]) : vs = [.int i] := by
  have p' : Paired (fun v u => RU G β (Ban G β st) H v u) vs [.d (.int i)] := p
  cases p' with
  | cons r q => cases q; cases ru_int r; rfl
theorem int2 {vs : List V} {i j : Int} (p : PUs G β st H vs [.d (.int i), .d (.int j)]) : vs = [.int i, .int j] := by
  have p' : Paired (fun v u => RU G β (Ban G β st) H v u) vs [.d (.int i), .d (.int j)] := p
  cases p' with
  | cons r q =>
    cases q with
    | cons r2 q2 => cases q2; cases ru_int r; cases ru_int r2; rfl
def mR1 (a : MA) : MI := fun l st => (a l st).bind fun us st => match us with
  | [.d (.int j)] => if rOk j = true then .ok ⟨rangeD 0 1 j.toNat, []⟩ st else .no
  | _ => .no
theorem i_r1 {ta : TA} {a : MA} (h : SimA G ta a) : SimI G (iRng1 ta) (mR1 a) := fun β H σ l st re R q => by
  refine h β H σ l st re _ (wpR_bind q fun vs us H1 β1 st1 f1 rl1 p1 h1 => ?_)
  split at h1
  · rename_i j
    split at h1
    · rename_i hr
      have hr' := of_decide_eq_true hr
      exact ⟨j, int1 p1, hr'.1, hr'.2, h1 _ H1 β1 Fut.refl rl1 itr_r⟩
    · exact h1.elim
  · exact h1.elim
def mR2 (a : MA) : MI := fun l st => (a l st).bind fun us st => match us with
  | [.d (.int i), .d (.int j)] => if (rOk i && rOk j) = true then .ok ⟨rangeD i 1 (j - i).toNat, []⟩ st else .no
  | _ => .no
theorem i_r2 {ta : TA} {a : MA} (h : SimA G ta a) : SimI G (iRng2 ta) (mR2 a) := fun β H σ l st re R q => by
  refine h β H σ l st re _ (wpR_bind q fun vs us H1 β1 st1 f1 rl1 p1 h1 => ?_)
  split at h1
  · rename_i i j
    split at h1
    · rename_i hr
      rw [Bool.and_eq_true] at hr
      have h1' := of_decide_eq_true hr.1
      have h2' := of_decide_eq_true hr.2
      exact ⟨i, j, int2 p1, ⟨h1'.1, h1'.2, h2'.1, h2'.2⟩, h1 _ H1 β1 Fut.refl rl1 itr_r⟩
    · exact h1.elim
  · exact h1.elim
theorem itv_r {p : Addr} {own : List (Nat × List PyData)} {xs : List PyData} (s : SrcL G β st H p own xs) : ItR G β st H (Itv G.K p xs.length) ⟨xs.reverse, own⟩ := fun O1 hO β1 H1 st1 f rl1 hk i => by
  obtain ⟨vs, sq, r⟩ := s O1 hO β1 H1 st1 f rl1 hk
  refine ⟨fun y hy => ?_, fun hi => (show xs.length ≤ i by simpa using hi)⟩
  have hi : i < xs.length := by
    have := (List.getElem?_eq_some_iff.mp hy).1
    simpa using this
  have hy' : xs[xs.length - 1 - i]? = some y := by rw [← List.getElem?_reverse hi]; exact hy
  obtain ⟨w, hw, rw'⟩ := r.get hy'
  refine ⟨⟨hi, vs, w, sq, hw⟩, fun x H' hyl => ?_⟩
  obtain ⟨rfl, hx⟩ := hyl
  have e : w = x := Option.some.inj (hw.symm.trans (hx vs sq))
  subst e
  exact ⟨.inl rfl, rw'⟩
theorem itvt_r {p : Addr} {xs : List PyData} (s : SrcT G β st H p xs) : ItR G β st H (_root_.RT.ItvT G.K p xs.length) ⟨xs.reverse, []⟩ := fun O1 hO β1 H1 st1 f rl1 hk i => by
  obtain ⟨vs, sq, r⟩ := s O1 hO β1 H1 st1 f rl1
  refine ⟨fun y hy => ?_, fun hi => (show xs.length ≤ i by simpa using hi)⟩
  have hi : i < xs.length := by
    have := (List.getElem?_eq_some_iff.mp hy).1
    simpa using this
  have hy' : xs[xs.length - 1 - i]? = some y := by rw [← List.getElem?_reverse hi]; exact hy
  obtain ⟨w, hw, rw'⟩ := r.get hy'
  refine ⟨⟨hi, vs, w, sq, hw⟩, fun x H' hyl => ?_⟩
  obtain ⟨rfl, hx⟩ := hyl
  have e : w = x := Option.some.inj (hw.symm.trans (hx vs sq))
  subst e
  exact ⟨.inl rfl, rw'⟩
def mRev (m : ME) : MI := fun l st => (m l st).bind fun u st => match srcOf st u with
  | some (xs, own) => .ok ⟨xs.reverse, own⟩ st
  | none => .no
theorem i_rev {t : TE} {m : ME} (h : SimE G t m) : SimI G (_root_.RT.iRevA G.K t) (mRev m) := fun β H σ l st re R q => by
  refine h β H σ l st re _ (wpR_bind q fun v u H1 β1 st1 f1 rl1 p1 h1 => ?_)
  split at h1
  · rename_i xs own e
    obtain ⟨p, rfl, ⟨s, vs, sq, ln⟩ | ⟨rfl, s, vs, sq, ln⟩⟩ := src_q rl1 p1 e
    · exact ⟨p, vs, rfl, .inl ⟨sq, by rw [ln]; exact h1 _ H1 β1 Fut.refl rl1 (itv_r s)⟩⟩
    · exact ⟨p, vs, rfl, .inr ⟨sq, by rw [ln]; exact h1 _ H1 β1 Fut.refl rl1 (itvt_r s)⟩⟩
  · exact h1.elim
end
end NW
namespace NW
open PySem PySem.Spec PyProof.Rows L2
section
variable {G : Gx} {β β' : List Addr} {st st' : Sto} {H H' : Hp} {v : V} {u : U} {σ σ' : L2.St} {l l' : Loc} {D : Ends}
theorem list_h (rl : Rl G β H st) (h : RU G β (Ban G β st) H v u) {xs : List PyData} (e : listOf st u = some xs) : ∃ p vs, v = .ref p ∧ H p = some (.lst vs) ∧ RTs G.K (Ban G β st) H vs xs := by
  unfold listOf at e
  split at e
  · cases e
    cases h with
    | lst a b => exact ⟨_, _, rfl, a.1, b⟩
  · rename_i i
    split at e
    · rename_i hy
      cases e
      obtain ⟨p, h1, rfl⟩ := h
      obtain ⟨q, vs, a, b, c⟩ := rl.ob i _ hy
      rw [h1] at a; cases a
      exact ⟨p, vs, rfl, b, c⟩
    · cases e
  · cases e
def wipeL (l : Loc) : List Nat → Loc
  | [] => l
  | v :: vs => (wipeL l vs).set v none
theorem wipe_re {B : Addr → Prop} (h : RLoc G β B H σ l) : ∀ vs, RLoc G β B H (wipe σ vs) (wipeL l vs)
  | [] => h
  | i :: vs => by
    have ih := wipe_re h vs
    refine ⟨by unfold wipe wipeL; rw [List.length_set, List.length_set, ih.len], fun j w e => ?_⟩
    unfold wipeL at e
    by_cases hj : j = i
    · subst hj
      have hl : j < (wipeL l vs).length := by
        have := (List.getElem?_eq_some_iff.mp e).1
        rw [List.length_set] at this; exact this
      rw [List.getElem?_set_self hl] at e
      cases e
    · rw [List.getElem?_set_ne (Ne.symm hj)] at e
      unfold wipe
      rw [List.getElem?_set_ne (Ne.symm hj)]
      exact ih.at_ j w e
theorem wipe_get (σ : L2.St) : ∀ (vs : List Nat) (i : Nat), (wipe σ vs)[i]? = if i ∈ vs then (if i < σ.length then some none else none) else σ[i]?
  | [], i => by simp [wipe]
  | v :: vs, i => by
    unfold wipe
    rw [List.getElem?_set]
    have ih := wipe_get σ vs i
    rw [wipe_length]
    by_cases e : v = i
    · subst e; simp
    · rw [if_neg e, ih]
      have e' : ¬ i = v := fun q => e q.symm
      simp [e']
theorem wipe_same {σ1 σ2 : L2.St} {vs ws : List Nat} (hs : ∀ i ∈ ws, i ∈ vs) (hl : σ2.length = σ1.length) (h : ∀ i, i ∉ ws → σ2[i]? = σ1[i]?) : wipe σ2 vs = wipe σ1 vs := by
  apply List.ext_getElem?
  intro i
  rw [wipe_get, wipe_get, hl]
  split
  · rfl
  · rename_i n
    exact h i fun z => n (hs i z)
theorem wipe_idem (σ : L2.St) (vs : List Nat) : wipe (wipe σ vs) vs = wipe σ vs := by
  apply List.ext_getElem?
  intro i
  rw [wipe_get, wipe_get, wipe_length]
  split
  · rfl
  · rfl
def Res.noX {α : Type} (r : Res α) : Res α := match r with
  | .ok a s => .ok a s
  | _ => .no
def Res.isOk {α : Type} (r : Res α) : Prop := ∃ a s, r = .ok a s
theorem noX_bind {α γ : Type} {r : Res α} {k : α → Sto → Res γ} (h : (r.noX.bind k).isOk) : ∃ a s, r = .ok a s ∧ (k a s).isOk := by
  cases r with
  | ok a s => exact ⟨a, s, rfl, h⟩
  | ex e s => obtain ⟨_, _, z⟩ := h; cases z
  | no => obtain ⟨_, _, z⟩ := h; cases z
theorem bind_isOk {α γ : Type} {r : Res α} {k : α → Sto → Res γ} (h : (r.bind k).isOk) : ∃ a s, r = .ok a s ∧ (k a s).isOk := by
  cases r with
  | ok a s => exact ⟨a, s, rfl, h⟩
  | ex e s => obtain ⟨_, _, z⟩ := h; cases z
  | no => obtain ⟨_, _, z⟩ := h; cases z
theorem wpR_isOk {α γ : Type} {P : List Addr → Sto → Hp → γ → α → Prop} {r : Res α} {a : α} {Q : γ → Hp → Prop} (e : r = .ok a st') (h : ∀ v H' β', Fut G β st H β' st' H' → Rl G β' H' st' → P β' st' H' v a → Q v H') : wpR G β H σ st P r Q := by
  subst e; exact h
open Classical in
noncomputable def lcM (d : ItD) (vs : List Nat) (t : MT) (c : MB) (m : ME) (l : Loc) : List PyData → Sto → Res (List PyData)
  | [], st => if d.chk st then .ok [] st else .no
  | x :: xs, st => if d.chk st then (t (.d x) (wipeL l vs) st).noX.bind fun l1 st => (c l1 st).noX.bind fun b st => if b = true then (m l1 st).noX.bind fun u st => (match u with
      | .d y => (lcM d vs t c m l xs st).bind fun ys st => .ok (y :: ys) st
      | _ => .no) else lcM d vs t c m l xs st else .no
noncomputable def lLc (mi : MI) (vs : List Nat) (t : MT) (c : MB) (m : ME) : ML := fun l st => (mi l st).bind fun d st => if lenOk d.items.length = true then lcM d vs t c m l d.items st else .no
theorem lcM_noEx {d : ItD} {vs : List Nat} {t : MT} {c : MB} {m : ME} {l : Loc} : ∀ (xs : List PyData) (st : Sto), (lcM d vs t c m l xs st).noEx
  | [], st => by unfold lcM; split <;> trivial
  | x :: xs, st => by
    unfold lcM
    split
    · cases e1 : t (.d x) (wipeL l vs) st with
      | ok l1 s1 =>
        show ((c l1 s1).noX.bind _).noEx
        cases e2 : c l1 s1 with
        | ok b s2 =>
          show (if b = true then _ else _ : Res (List PyData)).noEx
          cases b with
          | true =>
            rw [if_pos rfl]
            cases e3 : m l1 s2 with
            | ok u s3 =>
              cases u with
              | d y =>
                show ((lcM d vs t c m l xs s3).bind _).noEx
                have ih := lcM_noEx (d := d) (vs := vs) (t := t) (c := c) (m := m) (l := l) xs s3
                cases e4 : lcM d vs t c m l xs s3 with
                | ok ys s4 => trivial
                | ex e s4 => rw [e4] at ih; exact ih
                | no => trivial
              | _ => trivial
            | ex e s3 => trivial
            | no => trivial
          | false =>
            rw [if_neg Bool.false_ne_true]
            exact lcM_noEx xs s2
        | ex e s2 => trivial
        | no => trivial
      | ex e s1 => trivial
      | no => trivial
    · trivial
theorem Rl.ban (rl : Rl G β H st) {D : Addr} {o : HO} (hD : H D = none) (ho : ∀ vs, ¬ Rd (upd H D o) D (.tup vs)) : Rl (G.ban D) β (upd H D o) st := by
  have f : Fut G β st H β st (upd H D o) := Fut.new hD
  have kk : Keep (Ban G β st) H (Ban (G.ban D) β st) (upd H D o) := fun b x hb n => by
    have hne : b ≠ D := ne_of_none hb hD
    refine ⟨by rw [upd_ne hne]; exact hb, ?_⟩
    rintro ((h | h) | h)
    · exact n (.inl h)
    · exact hne h
    · exact n (.inr h)
  refine ⟨rl.len, rl.nodup, fun q hq => f.there q (rl.trk q hq), fun i xs h nd => ?_, fun g hg => ?_, fun q hq => ?_⟩
  · obtain ⟨q, vs, a, b, c⟩ := rl.oo i xs h nd
    exact ⟨q, vs, a, by rw [upd_ne (ne_of_none b hD)]; exact b, c.imp fun ds vs z => RTs.mono kk ds vs z⟩
  · obtain ⟨⟨a, b⟩, c⟩ := rl.flo g hg
    exact ⟨⟨by show upd H D o G.fa = _; rw [upd_ne (ne_of_none a hD)]; exact a, kk _ _ b.1 b.2⟩, c⟩
  · rcases hq with hq | hq
    · exact rl.o0_fut f q hq (rl.o0 q hq).2.1
    · subst hq
      exact ⟨by rw [upd_same]; simp, fun w => rl.notBan hD (.inr w), ho⟩
theorem RLoc.ban (h : RLoc G β (Ban G β st) H σ l) {D : Addr} {o : HO} (hD : H D = none) : RLoc (G.ban D) β (Ban (G.ban D) β st) (upd H D o) σ l := by
  have kk : Keep (Ban G β st) H (Ban (G.ban D) β st) (upd H D o) := fun b x hb n => by
    have hne : b ≠ D := ne_of_none hb hD
    refine ⟨by rw [upd_ne hne]; exact hb, ?_⟩
    rintro ((h | h) | h)
    · exact n (.inl h)
    · exact hne h
    · exact n (.inr h)
  refine ⟨h.len, fun i w e => ?_⟩
  obtain ⟨v, h1, h2⟩ := h.at_ i w e
  refine ⟨v, h1, ?_⟩
  cases w with
  | d x => exact RT.mono kk x v h2
  | ref i => exact h2
  | flow => exact h2
  | scr ns =>
    obtain ⟨p, z1, z2⟩ := h2
    exact ⟨p, z1, z2.imp (fun z => kk.rd z) id⟩
  | dct es =>
    obtain ⟨p, o, kvs, z1, z2, z3, z4⟩ := h2
    exact ⟨p, o, kvs, z1, kk _ _ z2.1 z2.2, z3, RTs.mono kk _ _ z4⟩
def cutH (H : Hp) (D : Addr) : Hp := fun b => if b = D then none else H b
theorem cutH_upd {D : Addr} {o : HO} (h : H D = some o) : upd (cutH H D) D o = H := by
  funext b
  unfold upd cutH
  split
  · rename_i e; subst e; exact h.symm
  · rfl
theorem cutH_ne {D b : Addr} (h : b ≠ D) : cutH H D b = H b := by unfold cutH; rw [if_neg h]
theorem cut_keep {D : Addr} : Keep (Ban (G.ban D) β st) H (Ban G β st) (cutH H D) := fun b o h n => by
  have e : b ≠ D := fun e => n (.inl (.inr e))
  exact ⟨by rw [cutH_ne e]; exact h, fun w => n (w.imp .inl id)⟩
theorem Rl.unban {D : Addr} (rl : Rl (G.ban D) β H st) (hb : D ∉ β) (hO : ¬ G.O0 D) : Rl G β (cutH H D) st := by
  have nD : ¬ Own G β st D := (rl.o0 D (.inr rfl)).2.1
  have ne : ∀ q ∈ β, q ≠ D := fun q hq e => hb (e ▸ hq)
  refine ⟨rl.len, rl.nodup, fun q hq => by rw [cutH_ne (ne q hq)]; exact rl.trk q hq, fun i xs h nd => ?_, fun g hg => ?_, fun q hq => ?_⟩
  · obtain ⟨q, vs, a, b, c⟩ := rl.oo i xs h nd
    exact ⟨q, vs, a, by rw [cutH_ne (ne q (List.mem_of_getElem? a))]; exact b, c.imp fun ds vs z => RTs.mono cut_keep ds vs z⟩
  · obtain ⟨⟨a, b⟩, c⟩ := rl.flo g hg
    have n1 : G.fa ≠ D := fun e => nD (.inl ⟨by rw [hg]; rfl, e.symm⟩)
    exact ⟨⟨by show cutH H D G.fa = _; rw [cutH_ne n1]; exact a, cut_keep _ _ b.1 b.2⟩, c⟩
  · obtain ⟨a, b, c⟩ := rl.o0 q (.inl hq)
    by_cases e : q = D
    · subst e; exact absurd hq hO
    · refine ⟨by rw [cutH_ne e]; exact a, b, fun vs h => c vs ?_⟩
      unfold Rd at h ⊢
      rw [cutH_ne e] at h; exact h
theorem Fut.ban {D : Addr} : Fut (G.ban D) β st H β' st' H' ↔ Fut G β st H β' st' H' := ⟨fun f => ⟨f.ext, f.there, f.stay⟩, fun f => ⟨f.ext, f.there, f.stay⟩⟩
theorem grow {D : Addr} {H0 : Hp} (f : Fut G β st H0 β' st' H) (hD0 : H0 D = none) (rl : Rl (G.ban D) β' H st') {o o' : HO} (hD : H D = some o) (ho : ∀ vs, ¬ Rd (upd H D o') D (.tup vs)) :
    Fut G β st H0 β' st' (upd H D o') ∧ Rl (G.ban D) β' (upd H D o') st' ∧ Keep (Ban (G.ban D) β' st') H (Ban (G.ban D) β' st') (upd H D o') := by
  have nD : ¬ Own G β' st' D := (rl.o0 D (.inr rfl)).2.1
  have kk : Keep (Ban (G.ban D) β' st') H (Ban (G.ban D) β' st') (upd H D o') := fun b x hb n => by
    have e : b ≠ D := fun e => n (.inl (.inr e))
    exact ⟨by rw [upd_ne e]; exact hb, n⟩
  have nb : ∀ q (xs : Ob), (∃ i : Nat, st'.obs[i]? = some xs ∧ xs ≠ Ob.dead ∧ β'[i]? = some q) → q ≠ D := fun q xs ⟨i, h1, nd, h2⟩ e => nD (.inr ⟨i, xs, h1, nd, e ▸ h2⟩)
  refine ⟨⟨f.ext, fun b hb => ?_, fun b x hb n => ?_⟩, ⟨rl.len, rl.nodup, fun q hq => ?_, fun i xs h nd => ?_, fun g hg => ?_, fun q hq => ?_⟩, kk⟩
  · by_cases e : b = D
    · rw [e, upd_same]; simp
    · rw [upd_ne e]; exact f.there b hb
  · have e : b ≠ D := ne_of_none hb hD0
    have z := f.stay b x hb n
    exact ⟨by rw [upd_ne e]; exact z.1, z.2⟩
  · by_cases e : q = D
    · rw [e, upd_same]; simp
    · rw [upd_ne e]; exact rl.trk q hq
  · obtain ⟨q, vs, a, b, c⟩ := rl.oo i xs h nd
    exact ⟨q, vs, a, by rw [upd_ne (nb q xs ⟨i, h, nd, a⟩)]; exact b, c.imp fun ds vs z => RTs.mono kk ds vs z⟩
  · obtain ⟨⟨a, b⟩, c⟩ := rl.flo g hg
    have n1 : G.fa ≠ D := fun e => nD (.inl ⟨by rw [hg]; rfl, e.symm⟩)
    exact ⟨⟨by show upd H D o' G.fa = _; rw [upd_ne n1]; exact a, kk _ _ b.1 b.2⟩, c⟩
  · obtain ⟨a, b, c⟩ := rl.o0 q hq
    by_cases e : q = D
    · subst e
      exact ⟨by rw [upd_same]; simp, b, ho⟩
    · refine ⟨by rw [upd_ne e]; exact a, b, fun vs h => c vs ?_⟩
      unfold Rd at h ⊢
      rw [upd_ne e] at h; exact h
theorem Fut.notin {D : Addr} (f : Fut G β st H β' st' H') (h : D ∉ β) (t : H D ≠ none) : D ∉ β' := fun z => by
  obtain ⟨γ, rfl, h1⟩ := f.ext
  rcases List.mem_append.mp z with z | z
  · exact h z
  · exact t (h1 D z)
theorem no_tup {D : Addr} {xs : List V} (vs : List V) : ¬ Rd (upd H D (.lst xs)) D (.tup vs) := by
  rintro (h | ⟨o, h⟩) <;> (rw [upd_same] at h; cases h)
theorem n_lc {wi : TI} {g : TG} {tt : TT} {te : TE} {vs ws : List Nat} {mi : MI} {mt : MT} {c : MB} {m : ME} (hi : SimI G wi mi) (hg : ∀ D, SimG (G.ban D) ws g mt) (hsub : ∀ i ∈ ws, i ∈ vs)
    (hc : ∀ D, SimT (G.ban D) tt c) (he : ∀ D, SimE (G.ban D) te m) : SimN G (tLc wi g tt te vs) (lLc mi vs mt c m) := fun β H σ l st re Q q => by
  refine hi β H σ l st re _ (wpN_bind q fun J d H1 β1 st1 f1 rl1 itr q1 => ?_)
  have re1 := f1.re rl1 re
  intro D hD
  split at q1
  · rename_i hlen
    have hlen' : d.items.length ≤ sizeLine := of_decide_eq_true hlen
    cases eM : lcM d vs mt c m l d.items st1 with
    | no => rw [eM] at q1; exact q1.elim
    | ex e s => have z := lcM_noEx (d := d) (vs := vs) (t := mt) (c := c) (m := m) (l := l) d.items st1; rw [eM] at z; exact z.elim
    | ok ysE stE =>
      rw [eM] at q1
      have nO : ¬ G.O0 D := fun z => (rl1.o0 D z).1 hD
      have fD : Fut G β1 st1 H1 β1 st1 (upd H1 D (.lst [])) := Fut.new hD
      refine ⟨fun i mm H2 => mm = d.items.length - i ∧ ∃ β2 st2 acc ds ys, Fut G β1 st1 H1 β2 st2 H2 ∧ D ∉ β2 ∧ Rl (G.ban D) β2 H2 st2 ∧ RLoc (G.ban D) β2 (Ban (G.ban D) β2 st2) H2 σ l ∧ H2 D = some (.lst acc) ∧ RTs G.K (Ban (G.ban D) β2 st2) H2 acc ds ∧ ds.length ≤ i ∧ lcM d vs mt c m l (d.items.drop i) st2 = .ok ys stE ∧ ds ++ ys = ysE,
        ⟨_, rfl, β1, st1, [], [], ysE, fD, fun z => rl1.trk D z hD, rl1.ban hD no_tup, re1.lo.ban hD, upd_same, .nil, Nat.le_refl _, eM, rfl⟩, ?_⟩
      rintro i mm H2 ⟨rfl, β2, st2, acc, ds, ys, f2, hb, rl2, lo2, hDa, ra, hdl, eR, eY⟩
      have itr' := itr (fun p => G.O0 p ∨ p = D) (fun p h => h.elim .inl fun z => .inr (by rw [z]; exact hD)) β2 H2 st2 f2 rl2
      cases hd : d.items[i]? with
      | none =>
        have hl : d.items.length ≤ i := List.getElem?_eq_none_iff.mp hd
        rw [List.drop_eq_nil_of_le hl, lcM] at eR
        split at eR
        · rename_i hk
          refine .inl ⟨(itr' hk i).2 hl, ?_⟩
          cases eR
          rw [List.append_nil] at eY; subst eY
          have f3 : Fut G β1 st1 H1 β2 stE (cutH H2 D) := by
            refine ⟨f2.ext, fun b hb' => ?_, fun b x hb' n => ?_⟩
            · have e : b ≠ D := fun e => hb' (e ▸ hD)
              rw [cutH_ne e]; exact f2.there b hb'
            · have e : b ≠ D := ne_of_none hb' hD
              have z := f2.stay b x hb' n
              exact ⟨by rw [cutH_ne e]; exact z.1, z.2⟩
          have z := q1 (cutH H2 D) β2 f3 (rl2.unban hb nO) D acc (by unfold cutH; rw [if_pos rfl]) (RTs.mono cut_keep _ _ ra)
          rw [cutH_upd hDa] at z
          exact z
        · cases eR
      | some y =>
        obtain ⟨hlt, ey⟩ := List.getElem?_eq_some_iff.mp hd
        rw [List.drop_eq_getElem_cons hlt, ey, lcM] at eR
        split at eR
        · rename_i hk
          obtain ⟨hgo, hy⟩ := (itr' hk i).1 y hd
          refine .inr ⟨hgo, fun H3 => ∃ β2 st2 acc ds ys, Fut G β1 st1 H1 β2 st2 H3 ∧ D ∉ β2 ∧ Rl (G.ban D) β2 H3 st2 ∧ RLoc (G.ban D) β2 (Ban (G.ban D) β2 st2) H3 σ l ∧ H3 D = some (.lst acc) ∧ RTs G.K (Ban (G.ban D) β2 st2) H3 acc ds ∧ ds.length ≤ i + 1 ∧ lcM d vs mt c m l (d.items.drop (i + 1)) st2 = .ok ys stE ∧ ds ++ ys = ysE, fun H3 h => ⟨_, by omega, rfl, h⟩, fun x H3 hyl => ?_⟩
          obtain ⟨hcH, rx⟩ := hy x H3 hyl
          obtain ⟨f3, rl3⟩ := it_fut rl2 hcH
          have lo3 := f3.rloc lo2
          obtain ⟨l1, s1, e1, ok1⟩ := noX_bind (r := mt (.d y) (wipeL l vs) st2) ⟨ys, stE, eR⟩
          rw [e1] at eR
          refine hg D β2 H3 (wipe σ vs) (wipeL l vs) st2 ⟨rl3, wipe_re lo3 vs⟩ x (.d y) rx _ (wpR_isOk e1 fun σ4 H4 β4 f4 rl4 p4 => ?_)
          refine ⟨(wipe_same hsub p4.2.1 p4.2.2).trans (wipe_idem σ vs), ?_⟩
          have eR1 : ((c l1 s1).noX.bind fun b st => if b = true then (m l1 st).noX.bind fun u st => (match u with
              | .d y => (lcM d vs mt c m l (d.items.drop (i + 1)) st).bind fun ys st => .ok (y :: ys) st
              | _ => .no) else lcM d vs mt c m l (d.items.drop (i + 1)) st) = .ok ys stE := eR
          obtain ⟨b, s2, e2, ok2⟩ := noX_bind (r := c l1 s1) ⟨ys, stE, eR1⟩
          rw [e2] at eR1
          refine hc D β4 H4 σ4 l1 s1 ⟨rl4, p4.1⟩ _ (wpR_isOk e2 fun b' H5 β5 f5 rl5 p5 => ?_)
          cases (show b' = b from p5)
          have ff5 : Fut (G.ban D) β2 st2 H2 β5 s2 H5 := (f3.trans f4).trans f5
          have hD5 : H5 D = some (.lst acc) := (ff5.stay D _ hDa (rl2.o0 D (.inr rfl)).2.1).1
          have eR2 : (if b = true then (m l1 s2).noX.bind fun u st => (match u with
              | .d y => (lcM d vs mt c m l (d.items.drop (i + 1)) st).bind fun ys st => .ok (y :: ys) st
              | _ => .no) else lcM d vs mt c m l (d.items.drop (i + 1)) s2) = .ok ys stE := eR1
          cases b with
          | false =>
            rw [if_neg Bool.false_ne_true] at eR2
            show (if false = true then _ else _)
            rw [if_neg Bool.false_ne_true]
            exact ⟨β5, s2, acc, ds, ys, f2.trans (Fut.ban.mp ff5), ff5.notin hb (by rw [hDa]; simp), rl5, ff5.rloc lo2, hD5, ff5.rts ra, by omega, eR2, eY⟩
          | true =>
            rw [if_pos rfl] at eR2
            show (if true = true then _ else _)
            rw [if_pos rfl]
            obtain ⟨w, s3, e3, ok3⟩ := noX_bind (r := m l1 s2) ⟨ys, stE, eR2⟩
            rw [e3] at eR2
            refine he D β5 H5 σ4 l1 s2 ⟨rl5, f5.rloc p4.1⟩ _ (wpR_isOk e3 fun yv H6 β6 f6 rl6 p6 => ?_)
            have ff6 : Fut (G.ban D) β2 st2 H2 β6 s3 H6 := ff5.trans f6
            have hD6 : H6 D = some (.lst acc) := (ff6.stay D _ hDa (rl2.o0 D (.inr rfl)).2.1).1
            cases w with
            | d z =>
              have eR3 : ((lcM d vs mt c m l (d.items.drop (i + 1)) s3).bind fun ys st => .ok (z :: ys) st) = .ok ys stE := eR2
              obtain ⟨ys', s4, e4, _⟩ := bind_isOk (r := lcM d vs mt c m l (d.items.drop (i + 1)) s3) ⟨ys, stE, eR3⟩
              rw [e4] at eR3
              cases eR3
              have ra6 := ff6.rts ra
              refine ⟨acc, hD6, by rw [ra.len]; omega, ?_⟩
              obtain ⟨f7, rl7, k7⟩ := grow (o' := .lst (acc ++ [yv])) (f2.trans (Fut.ban.mp ff6)) hD rl6 hD6 no_tup
              refine ⟨β6, s3, acc ++ [yv], ds ++ [z], ys', f7, ff6.notin hb (by rw [hDa]; simp), rl7, ?_, upd_same, ?_, by simp; omega, e4, by rw [List.append_assoc]; exact eY⟩
              · have lo6 := ff6.rloc lo2
                refine ⟨lo6.len, fun j w e => ?_⟩
                obtain ⟨v, h1, h2⟩ := lo6.at_ j w e
                refine ⟨v, h1, ?_⟩
                cases w with
                | d x => exact RT.mono k7 x v h2
                | ref i => exact h2
                | flow => exact h2
                | scr ns =>
                  obtain ⟨p, z1, z2⟩ := h2
                  exact ⟨p, z1, z2.imp (fun z => k7.rd z) id⟩
                | dct es =>
                  obtain ⟨p, o, kvs, z1, z2, z3, z4⟩ := h2
                  exact ⟨p, o, kvs, z1, k7 _ _ z2.1 z2.2, z3, RTs.mono k7 _ _ z4⟩
              · exact (RTs.mono k7 _ _ ra6).append (.cons (RT.mono k7 z yv p6) .nil)
            | ref k => cases eR2
            | flow => cases eR2
            | scr k => cases eR2
            | dct k => cases eR2
        · cases eR
  · exact q1.elim
end
end NW
namespace NW
open PySem PySem.Spec PyProof.Rows L2
section
variable {G : Gx} {β β' : List Addr} {st st' : Sto} {H H' : Hp} {v : V} {u : U} {σ σ' : L2.St} {l l' : Loc} {D : Ends}
def SimC (G : Gx) (r : List V → Hp → VK → Prop) (f : List U → Sto → Res U) : Prop := ∀ β H σ l st, Re G β H σ l st → ∀ xs us Q, PUs G β st H xs us → wpR G β H σ st (PU G) (f us st) Q → r xs H Q
def SimCN (G : Gx) (r : List V → Hp → VK → Prop) (f : List U → Sto → Res (List PyData)) : Prop := ∀ β H σ l st, Re G β H σ l st → ∀ xs us Q, PUs G β st H xs us → wpN G β H σ st (f us st) Q → r xs H Q
def eCB (f : List U → Sto → Res U) (a : MA) : ME := fun l st => (a l st).bind f
def lCB (f : List U → Sto → Res (List PyData)) (a : MA) : ML := fun l st => (a l st).bind f
theorem s_cb {r : List V → Hp → VK → Prop} {f : List U → Sto → Res U} {ta : TA} {a : MA} (hr : SimC G r f) (ha : SimA G ta a) : SimE G (tCB r ta) (eCB f a) := fun β H σ l st re Q h =>
  ha β H σ l st re _ (wpR_bind h fun vs us H1 β1 st1 f1 rl1 p1 h1 => hr β1 H1 σ l st1 (f1.re rl1 re) vs us Q p1 h1)
theorem n_cb {r : List V → Hp → VK → Prop} {f : List U → Sto → Res (List PyData)} {ta : TA} {a : MA} (hr : SimCN G r f) (ha : SimA G ta a) : SimN G (tCB r ta) (lCB f a) := fun β H σ l st re Q h =>
  ha β H σ l st re _ (wpN_bind h fun vs us H1 β1 st1 f1 rl1 p1 h1 => hr β1 H1 σ l st1 (f1.re rl1 re) vs us Q p1 h1)
theorem one_u {vs : List V} {u : U} (p : PUs G β st H vs [u]) : ∃ v, vs = [v] ∧ RU G β (Ban G β st) H v u := by
  have p' : Paired (fun v u => RU G β (Ban G β st) H v u) vs [u] := p
  cases p' with
  | cons r q => cases q; exact ⟨_, rfl, r⟩
def cLen : List U → Sto → Res U := fun us st => match us with
  | [.scr ns] => .ok (.d (.int ns.length)) st
  | [.d (.str z)] => if lenOk z.length = true then .ok (.d (.int z.length)) st else .no
  | [u] => (match seqOf st u with
    | some xs => .ok (.d (.int xs.length)) st
    | none => .no)
  | _ => .no
theorem c_len : SimC G (fun xs H Q => ∃ x n, xs = [x] ∧ LenV G.K x H n ∧ Q (.int n) H) cLen := fun β H σ l st re xs us Q p h => by
  unfold cLen at h
  split at h
  · rename_i ns
    obtain ⟨v, rfl, r⟩ := one_u p
    obtain ⟨q, rfl, s⟩ := r
    exact ⟨_, (ns.map V.int).length, rfl, .inl ⟨_, s.q, rfl⟩, by rw [List.length_map]; exact wpR_d re.rl (.int _) h⟩
  · rename_i z
    obtain ⟨v, rfl, r⟩ := one_u p
    cases ru_str r
    split at h
    · rename_i q
      exact ⟨_, z.length, rfl, ⟨of_decide_eq_true q, rfl⟩, wpR_d re.rl (.int _) h⟩
    · exact h.elim
  · obtain ⟨v, rfl, r⟩ := one_u p
    split at h
    · rename_i xs e
      obtain ⟨q, vs, rfl, s, r'⟩ := seq_q re.rl r e
      refine ⟨_, vs.length, rfl, ?_, ?_⟩
      · rcases s with s | s
        · exact .inl ⟨vs, s, rfl⟩
        · exact .inr ⟨vs, s, rfl⟩
      · rw [r'.len]; exact wpR_d re.rl (.int _) h
    · exact h.elim
  · exact h.elim
def cAbs : List U → Sto → Res U := fun us st => match us with
  | [.d (.int i)] => .ok (.d (.int (if i < 0 then -i else i))) st
  | _ => .no
theorem c_abs : SimC G (fun xs H Q => ∃ i, xs = [.int i] ∧ Q (.int (if i < 0 then -i else i)) H) cAbs := fun β H σ l st re xs us Q p h => by
  unfold cAbs at h
  split at h
  · exact ⟨_, int1 p, wpR_d re.rl (.int _) h⟩
  · exact h.elim
def cInt : List U → Sto → Res U := fun us st => match us with
  | [.d (.int i)] => .ok (.d (.int i)) st
  | [.d (.bool k)] => .ok (.d (.int (if k then 1 else 0))) st
  | _ => .no
theorem c_int : SimC G (fun xs H Q => (∃ i, xs = [.int i] ∧ Q (.int i) H) ∨ ∃ k, xs = [.bl k] ∧ Q (.int (if k then 1 else 0)) H) cInt := fun β H σ l st re xs us Q p h => by
  unfold cInt at h
  split at h
  · exact .inl ⟨_, int1 p, wpR_d re.rl (.int _) h⟩
  · obtain ⟨v, rfl, r⟩ := one_u p
    cases ru_bool r
    exact .inr ⟨_, rfl, wpR_d re.rl (.int _) h⟩
  · exact h.elim
def cMax2 : List U → Sto → Res U := fun us st => match us with
  | [.d (.int i), .d (.int j)] => .ok (.d (.int (if j > i then j else i))) st
  | _ => .no
theorem c_max2 : SimC G (fun xs H Q => ∃ i j, xs = [.int i, .int j] ∧ Q (.int (if j > i then j else i)) H) cMax2 := fun β H σ l st re xs us Q p h => by
  unfold cMax2 at h
  split at h
  · exact ⟨_, _, int2 p, wpR_d re.rl (.int _) h⟩
  · exact h.elim
def cMin2 : List U → Sto → Res U := fun us st => match us with
  | [.d (.int i), .d (.int j)] => .ok (.d (.int (if j < i then j else i))) st
  | _ => .no
def intsOf : List PyData → Option (List Int)
  | [] => some []
  | .int i :: r => (intsOf r).map (i :: ·)
  | _ :: _ => none
def boolsOf : List PyData → Option (List Bool)
  | [] => some []
  | .bool i :: r => (boolsOf r).map (i :: ·)
  | _ :: _ => none
theorem intsOf_eq : ∀ {xs : List PyData} {ns : List Int}, intsOf xs = some ns → xs = ns.map PyData.int
  | [], ns, h => by cases h; rfl
  | .int i :: r, ns, h => by
    have h' : (intsOf r).map (i :: ·) = some ns := h
    cases e : intsOf r with
    | none => rw [e] at h'; cases h'
    | some ms => rw [e] at h'; cases h'; rw [intsOf_eq e]; rfl
  | .none :: _, _, h => by cases h
  | .bool _ :: _, _, h => by cases h
  | .str _ :: _, _, h => by cases h
  | .list _ :: _, _, h => by cases h
  | .tuple _ :: _, _, h => by cases h
  | .dict _ :: _, _, h => by cases h
theorem boolsOf_eq : ∀ {xs : List PyData} {ns : List Bool}, boolsOf xs = some ns → xs = ns.map PyData.bool
  | [], ns, h => by cases h; rfl
  | .bool i :: r, ns, h => by
    have h' : (boolsOf r).map (i :: ·) = some ns := h
    cases e : boolsOf r with
    | none => rw [e] at h'; cases h'
    | some ms => rw [e] at h'; cases h'; rw [boolsOf_eq e]; rfl
  | .none :: _, _, h => by cases h
  | .int _ :: _, _, h => by cases h
  | .str _ :: _, _, h => by cases h
  | .list _ :: _, _, h => by cases h
  | .tuple _ :: _, _, h => by cases h
  | .dict _ :: _, _, h => by cases h
@[simp] theorem intsOf_map : ∀ (ns : List Int), intsOf (ns.map PyData.int) = some ns
  | [] => rfl
  | n :: ns => by show (intsOf (ns.map PyData.int)).map (n :: ·) = _; rw [intsOf_map ns]; rfl
@[simp] theorem boolsOf_map : ∀ (ns : List Bool), boolsOf (ns.map PyData.bool) = some ns
  | [] => rfl
  | n :: ns => by show (boolsOf (ns.map PyData.bool)).map (n :: ·) = _; rw [boolsOf_map ns]; rfl
def cInts (f : List Int → Option PyData) : List U → Sto → Res U := fun us st => match us with
  | [u] => (match (listOf st u).bind intsOf with
    | some ns => (match f ns with
      | some x => .ok (.d x) st
      | none => .no)
    | none => .no)
  | _ => .no
def maxI : List Int → Option Int
  | [] => none
  | x :: xs => some (xs.foldl (fun a b => if b > a then b else a) x)
def minI : List Int → Option Int
  | [] => none
  | x :: xs => some (xs.foldl (fun a b => if b < a then b else a) x)
theorem foldl_max (xs : List Int) : ∀ a, a ≤ xs.foldl (fun a b => if b > a then b else a) a ∧ ∀ y ∈ xs, y ≤ xs.foldl (fun a b => if b > a then b else a) a := by
  induction xs with
  | nil => intro a; simp
  | cons x xs ih =>
    intro a
    obtain ⟨h1, h2⟩ := ih (if x > a then x else a)
    rw [List.foldl_cons]
    have h3 : a ≤ (if x > a then x else a) ∧ x ≤ (if x > a then x else a) := by split <;> omega
    refine ⟨by omega, fun y hy => ?_⟩
    rcases List.mem_cons.mp hy with rfl | hy
    · omega
    · exact h2 y hy
theorem foldl_max_mem (xs : List Int) : ∀ a, xs.foldl (fun a b => if b > a then b else a) a = a ∨ xs.foldl (fun a b => if b > a then b else a) a ∈ xs := by
  induction xs with
  | nil => intro a; simp
  | cons x xs ih =>
    intro a
    rw [List.foldl_cons]
    rcases ih (if x > a then x else a) with h | h
    · rw [h]; split
      · right; simp
      · left; rfl
    · right; simp [h]
def cMaxL : List U → Sto → Res U := cInts fun ns => (maxI ns).map PyData.int
def cMinL : List U → Sto → Res U := cInts fun ns => (minI ns).map PyData.int
def cSum : List U → Sto → Res U := cInts fun ns => some (.int ns.sum)
theorem ints_q (rl : Rl G β H st) (h : RU G β (Ban G β st) H v u) {ns : List Int} (e : (listOf st u).bind intsOf = some ns) : ∃ p, v = .ref p ∧ SqL G.K H p (ns.map V.int) := by
  cases q : listOf st u with
  | none => rw [q] at e; cases e
  | some xs =>
    rw [q] at e
    have e2 := intsOf_eq (show intsOf xs = some ns from e)
    subst e2
    obtain ⟨p, vs, a, b, c⟩ := list_q rl h q
    rw [c.ints] at b
    exact ⟨p, a, b⟩
theorem bools_q (rl : Rl G β H st) (h : RU G β (Ban G β st) H v u) {ns : List Bool} (e : (listOf st u).bind boolsOf = some ns) : ∃ p, v = .ref p ∧ SqL G.K H p (ns.map V.bl) := by
  cases q : listOf st u with
  | none => rw [q] at e; cases e
  | some xs =>
    rw [q] at e
    have e2 := boolsOf_eq (show boolsOf xs = some ns from e)
    subst e2
    obtain ⟨p, vs, a, b, c⟩ := list_q rl h q
    rw [c.bools] at b
    exact ⟨p, a, b⟩
theorem c_maxL : SimC G (rMax G.K) cMaxL := fun β H σ l st re xs us Q p h => by
  unfold cMaxL cInts at h
  split at h
  · obtain ⟨v, rfl, r⟩ := one_u p
    split at h
    · rename_i ns e
      obtain ⟨q, rfl, s⟩ := ints_q re.rl r e
      cases ns with
      | nil => exact h.elim
      | cons n ns =>
        refine ⟨q, _, rfl, s, by simp, fun m hm hle => ?_⟩
        have e1 : m = ns.foldl (fun a b => if b > a then b else a) n := by
          have a1 := foldl_max ns n
          have a2 := foldl_max_mem ns n
          have b1 : ns.foldl (fun a b => if b > a then b else a) n ≤ m := hle _ (by rcases a2 with z | z <;> simp [z])
          rcases List.mem_cons.mp hm with z | z
          · omega
          · have := a1.2 m z; omega
        rw [e1]; exact wpR_d re.rl (.int _) h
    · exact h.elim
  · exact h.elim
def cBools (f : List Bool → Bool) : List U → Sto → Res U := fun us st => match us with
  | [u] => (match (listOf st u).bind boolsOf with
    | some ns => .ok (.d (.bool (f ns))) st
    | none => .no)
  | _ => .no
def cAll : List U → Sto → Res U := cBools fun ns => ns.all id
def cAny : List U → Sto → Res U := cBools fun ns => ns.any id
theorem c_all : SimC G (rAll G.K) cAll := fun β H σ l st re xs us Q p h => by
  unfold cAll cBools at h
  split at h
  · obtain ⟨v, rfl, r⟩ := one_u p
    split at h
    · rename_i ns e
      obtain ⟨q, rfl, s⟩ := bools_q re.rl r e
      exact ⟨q, ns, rfl, s, wpR_d re.rl (.bl _) h⟩
    · exact h.elim
  · exact h.elim
def cListOf : List U → Sto → Res (List PyData) := fun us st => match us with
  | [.scr ns] => .ok (ns.map .int) st
  | [u] => (match seqOf st u with
    | some xs => .ok xs st
    | none => .no)
  | _ => .no
theorem c_listOf : SimCN G (fun xs H Q => ∃ p ys, xs = [.ref p] ∧ (SqL G.K H p ys ∨ SqT G.K H p ys) ∧ ∀ l, H l = none → Q (.ref l) (upd H l (.lst ys))) cListOf := fun β H σ l st re xs us Q p h => by
  unfold cListOf at h
  split at h
  · rename_i ns
    obtain ⟨v, rfl, r⟩ := one_u p
    obtain ⟨q, rfl, s⟩ := r
    exact ⟨q, _, rfl, .inl s.q, fun z hz => h H β Fut.refl re.rl z _ hz (RTs.ofInts ns)⟩
  · obtain ⟨v, rfl, r⟩ := one_u p
    split at h
    · rename_i ys e
      obtain ⟨q, vs, rfl, s, r'⟩ := seq_q re.rl r e
      exact ⟨q, vs, rfl, s, fun z hz => h H β Fut.refl re.rl z vs hz r'⟩
    · exact h.elim
  · exact h.elim
def cTupOf : List U → Sto → Res U := fun us st => match us with
  | [.d (.tuple xs)] => .ok (.d (.tuple xs)) st
  | [u] => (match listOf st u with
    | some xs => .ok (.d (.tuple xs)) st
    | none => .no)
  | _ => .no
theorem c_tupOf : SimC G (fun xs H Q => ∃ p ys, xs = [.ref p] ∧ ((SqL G.K H p ys ∧ ∀ l, H l = none → Q (.ref l) (upd H l (.tup ys))) ∨ (SqT G.K H p ys ∧ Q (.ref p) H))) cTupOf := fun β H σ l st re xs us Q p h => by
  unfold cTupOf at h
  split at h
  · rename_i ys
    obtain ⟨v, rfl, r⟩ := one_u p
    obtain ⟨q, vs, rfl, s, r'⟩ := tup_q r (xs := ys) rfl
    exact ⟨q, vs, rfl, .inr ⟨s, wpR_u re.rl r h⟩⟩
  · obtain ⟨v, rfl, r⟩ := one_u p
    split at h
    · rename_i ys e
      obtain ⟨q, vs, rfl, s, r'⟩ := list_q re.rl r e
      refine ⟨q, vs, rfl, .inl ⟨s, fun z hz => ?_⟩⟩
      obtain ⟨f4, rl4, rt⟩ := new_tup re.rl hz r'
      exact h _ _ β f4 rl4 rt
    · exact h.elim
  · exact h.elim
def tyName : PyData → String
  | .none => "NoneType"
  | .bool _ => "bool"
  | .int _ => "int"
  | .str _ => "str"
  | .list _ => "list"
  | .tuple _ => "tuple"
  | .dict _ => "dict"
def isiT (x : PyData) (T : String) : Bool := tyName x == T || (T == "int" && tyName x == "bool")
def tyOk (T : String) : Bool := ["int", "bool", "list", "tuple", "str"].contains T
theorem kit5 : ∀ n ∈ (["NoneType", "bool", "int", "str", "list", "tuple"] : List String), ∀ T ∈ (["int", "bool", "list", "tuple", "str"] : List String), kitB n T = some (n == T || (T == "int" && n == "bool")) := by decide +kernel
theorem isi_kit {K : PySem.W.Frag} {x : PyData} {T : String} (h : tyOk T = true) (hd : tyName x ≠ "dict") : PySem.W.kitOne K (.type (tyName x)) (.type T) = some (isiT x T) := by
  apply kit_ty
  refine kit5 _ ?_ T (List.contains_iff_mem.mp h)
  cases x with
  | dict k => exact absurd rfl hd
  | _ => simp [tyName]
theorem tyX (rl : Rl G β H st) (h : RU G β (Ban G β st) H v u) {x : PyData} (e : toTree st u = some x) : TyX G.K H v (.type (tyName x)) ∧ tyName x ≠ "dict" := by
  cases u with
  | d y =>
    cases e
    cases h with
    | non => exact ⟨.base .non, by decide⟩
    | bl b => exact ⟨.base (.bl b), by simp [tyName]⟩
    | int i => exact ⟨.base (.int i), by simp [tyName]⟩
    | str z => exact ⟨.base (.str z), by simp [tyName]⟩
    | lst a b => exact ⟨.base (.lst a.1), by show "list" ≠ "dict"; decide⟩
    | tup a b =>
      refine ⟨?_, by show "tuple" ≠ "dict"; decide⟩
      rcases a with ⟨a | ⟨o, a⟩, _⟩ | ⟨o, its, n, hk, hc, _⟩
      · exact .base (.tup a)
      · exact .fTuple a
      · exact .kTuple hk hc
  | flow => cases e
  | scr ns => cases e
  | dct es => cases e
  | ref i =>
    simp only [toTree] at e
    split at e
    · rename_i ys hy
      cases e
      obtain ⟨p, h1, rfl⟩ := h
      obtain ⟨q, vs, a, b, c⟩ := rl.ob i ys hy
      rw [h1] at a; cases a
      exact ⟨.base (.lst b), by show "list" ≠ "dict"; decide⟩
    · cases e
def eIsi (m : ME) (T : String) : ME := fun l st => (m l st).bind fun u st => match toTree st u with
  | some x => if tyOk T = true then .ok (.d (.bool (isiT x T))) st else .no
  | none => .no
theorem s_isi {t : TE} {m : ME} {T : String} (h : SimE G t m) : SimE G (tCB (rIsi G.K) (tCons t (tCons (tC (.ty T)) tNil))) (eIsi m T) := fun β H σ l st re Q q => by
  refine h β H σ l st re _ (wpR_bind q fun v u H1 β1 st1 f1 rl1 p1 h1 => ?_)
  show ∃ (x c : V) (t u : Value) (b : Bool), [v, .ty T] = [x, c] ∧ _
  split at h1
  · rename_i x e
    split at h1
    · rename_i hT
      obtain ⟨ty, nd⟩ := tyX rl1 p1 e
      exact ⟨v, .ty T, _, .type T, isiT x T, rfl, .ty T, ty, isi_kit hT nd, wpR_d rl1 (.bl _) h1⟩
    · exact h1.elim
  · exact h1.elim
def tTys : List String → TA
  | [] => tNil
  | T :: r => tCons (tC (.ty T)) (tTys r)
def eIsiT (m : ME) (Ts : List String) : ME := fun l st => (m l st).bind fun u st => match toTree st u with
  | some x => if (Ts.all tyOk && decide (Ts.length ≤ 8)) = true then .ok (.d (.bool (Ts.any (isiT x)))) st else .no
  | none => .no
def SimM (G : Gx) (T : String) (r : V → List V → Hp → VK → Prop) (f : U → List U → Sto → Res U) : Prop := ∀ β H σ l st, Re G β H σ l st → ∀ x u xs us Q, RU G β (Ban G β st) H x u → PUs G β st H xs us → wpR G β H σ st (PU G) (f u us st) Q → r x xs H Q
def isLst (st : Sto) (u : U) : Bool := (listOf st u).isSome
theorem tyV_l (rl : Rl G β H st) (h : RU G β (Ban G β st) H v u) (e : isLst st u = true) : tyV G.K "list" v H := by
  unfold isLst at e
  obtain ⟨xs, e⟩ := Option.isSome_iff_exists.mp e
  obtain ⟨p, vs, rfl, s, _⟩ := list_q rl h e
  exact .inl ⟨rfl, vs, s⟩
def eMethL (f : U → List U → Sto → Res U) (o : ME) (a : MA) : ME := fun l st => (o l st).bind fun x st => if isLst st x = true then (a l st).bind fun us st => f x us st else .no
theorem s_methL {r : V → List V → Hp → VK → Prop} {f : U → List U → Sto → Res U} {to : TE} {ta : TA} {o : ME} {a : MA} (hr : SimM G "list" r f) (ho : SimE G to o) (ha : SimA G ta a) : SimE G (tBM G.K "list" r to ta) (eMethL f o a) := fun β H σ l st re Q h => by
  refine ho β H σ l st re _ (wpR_bind h fun v x H1 β1 st1 f1 rl1 p1 h1 => ?_)
  have re1 := f1.re rl1 re
  split at h1
  · rename_i q
    refine ⟨tyV_l rl1 p1 q, ha β1 H1 σ l st1 re1 _ (wpR_bind h1 fun w y H2 β2 st2 f2 rl2 p2 h2 => ?_)⟩
    exact hr β2 H2 σ l st2 (f2.re rl2 re1) v x w y Q (f2.ru p1) p2 h2
  · exact h1.elim
theorem s_methL0 {r : V → List V → Hp → VK → Prop} {f : U → List U → Sto → Res U} {to : TE} {o : ME} (hr : SimM G "list" r f) (ho : SimE G to o) : SimE G (tBM0 G.K "list" r to) (eMethL f o aNil) := fun β H σ l st re Q h => by
  refine ho β H σ l st re _ (wpR_bind h fun v x H1 β1 st1 f1 rl1 p1 h1 => ?_)
  have re1 := f1.re rl1 re
  split at h1
  · rename_i q
    exact ⟨tyV_l rl1 p1 q, hr β1 H1 σ l st1 re1 v x [] [] Q p1 .nil h1⟩
  · exact h1.elim
def ownL (st : Sto) : U → Option (Nat × List PyData)
  | .ref i => match st.obs[i]? with | some (.lst xs) => some (i, xs) | _ => none
  | _ => none
theorem own_q (rl : Rl G β H st) (h : RU G β (Ban G β st) H v u) {i : Nat} {xs : List PyData} (e : ownL st u = some (i, xs)) : ∃ p vs, v = .ref p ∧ H p = some (.lst vs) ∧ RTs G.K (Ban G β st) H vs xs ∧ st.obs[i]? = some (.lst xs) ∧ β[i]? = some p := by
  unfold ownL at e
  split at e
  · rename_i j
    split at e
    · rename_i hy
      cases e
      obtain ⟨p, h1, rfl⟩ := h
      obtain ⟨q, vs, a, b, c⟩ := rl.ob _ _ hy
      rw [h1] at a; cases a
      exact ⟨p, vs, rfl, b, c, hy, h1⟩
    · cases e
  · cases e
def mAppend : U → List U → Sto → Res U := fun o us st => match ownL st o, us with
  | some (i, xs), [.d y] => if decide (xs.length < sizeLine) = true then .ok (.d .none) (st.put i (xs ++ [y])) else .no
  | _, _ => .no
theorem m_append : SimM G "list" rAppend mAppend := fun β H σ l st re x u xs us Q hx p h => by
  unfold mAppend at h
  split at h
  · rename_i i ys y e
    split at h
    · rename_i q
      obtain ⟨a, vs, rfl, h1, h2, h3, h4⟩ := own_q re.rl hx e
      obtain ⟨w, rfl, r⟩ := one_u p
      refine ⟨a, vs, w, rfl, rfl, h1, by rw [h2.len]; exact of_decide_eq_true q, ?_⟩
      obtain ⟨f, rl⟩ := put_own re.rl h3 h4 (h2.append (.cons r .nil))
      exact h _ _ β f rl .non
    · exact h.elim
  · exact h.elim
theorem RTs.dropLast {B : Addr → Prop} {K : PySem.W.Frag} {xs : List PyData} {vs : List V} (r : RTs K B H vs xs) : RTs K B H vs.dropLast xs.dropLast := by
  rw [List.dropLast_eq_take, List.dropLast_eq_take, r.len]
  exact r.take _
def mPop : U → List U → Sto → Res U := fun o us st => match ownL st o, us with
  | some (i, xs), [] => (match xs[xs.length - 1]? with
    | some y => .ok (.d y) (st.put i xs.dropLast)
    | none => .no)
  | _, _ => .no
theorem m_pop : SimM G "list" rPop mPop := fun β H σ l st re x u xs us Q hx p h => by
  unfold mPop at h
  split at h
  · rename_i i ys e
    split at h
    · rename_i y e2
      obtain ⟨a, vs, rfl, h1, h2, h3, h4⟩ := own_q re.rl hx e
      obtain ⟨w, k1, k2⟩ := h2.get e2
      have p' : Paired (fun v u => RU G β (Ban G β st) H v u) xs [] := p
      cases p'
      refine ⟨a, vs, w, rfl, rfl, h1, by rw [h2.len]; exact k1, ?_⟩
      obtain ⟨f, rl⟩ := put_own re.rl h3 h4 h2.dropLast
      exact h _ _ β f rl (f.rt k2)
    · exact h.elim
  · exact h.elim
def SimRN (G : Gx) (r : R2) (f : U → U → Sto → Res (List PyData)) : Prop := ∀ β H σ l st, Re G β H σ l st → ∀ x y a b Q, RU G β (Ban G β st) H x a → RU G β (Ban G β st) H y b → wpN G β H σ st (f a b st) Q → r x y H Q
def lOp (f : U → U → Sto → Res (List PyData)) (a b : ME) : ML := fun l st => (a l st).bind fun x st => (b l st).bind fun y st => f x y st
theorem n_op {r : R2} {f : U → U → Sto → Res (List PyData)} {ta tb : TE} {a b : ME} (hr : SimRN G r f) (ha : SimE G ta a) (hb : SimE G tb b) : SimN G (tOp r ta tb) (lOp f a b) := fun β H σ l st re Q h => by
  refine ha β H σ l st re _ (wpN_bind h fun v x H1 β1 st1 f1 rl1 p1 h1 => ?_)
  have re1 := f1.re rl1 re
  refine hb β1 H1 σ l st1 re1 _ (wpN_bind h1 fun w y H2 β2 st2 f2 rl2 p2 h2 => ?_)
  exact hr β2 H2 σ l st2 (f2.re rl2 re1) v w x y Q (f2.ru p1) p2 h2
def fRep : U → U → Sto → Res (List PyData) := fun a b st => match listOf st a, b with
  | some xs, .d (.int k) => if (decide (-(2 ^ 63) ≤ k ∧ k < 2 ^ 63) && lenOk (xs.length * k.toNat)) = true then .ok (List.replicate k.toNat xs).flatten st else .no
  | _, _ => .no
theorem rts_rep {B : Addr → Prop} {K : PySem.W.Frag} {xs : List PyData} {vs : List V} (r : RTs K B H vs xs) : ∀ n, RTs K B H (List.replicate n vs).flatten (List.replicate n xs).flatten
  | 0 => .nil
  | n + 1 => by
    rw [List.replicate_succ, List.replicate_succ, List.flatten_cons, List.flatten_cons]
    exact r.append (rts_rep r n)
theorem rn_rep : SimRN G rRep fRep := fun β H σ l st re x y a b Q hx hy h => by
  unfold fRep at h
  split at h
  · rename_i xs k e1
    split at h
    · rename_i q
      rw [Bool.and_eq_true] at q
      obtain ⟨p, vs, rfl, h1, r1⟩ := list_h re.rl hx e1
      cases ru_int hy
      have q1 := of_decide_eq_true q.1
      exact ⟨p, k, vs, rfl, rfl, h1, q1.1, q1.2, by rw [r1.len]; exact of_decide_eq_true q.2, fun z hz => h H β Fut.refl re.rl z _ hz (rts_rep r1 _)⟩
    · exact h.elim
  · exact h.elim
end
end NW
namespace NW
open PySem PySem.Spec PyProof.Rows L2
inductive Rp where
  | ok (d : PyData) (fresh : Bool) | ex (e : Exc) | no
inductive Rf where
  | ok (d : PyData) (fresh : Bool) (fl : Fl) | ex (e : Exc) (fl : Fl) | no
def startL (n : Nat) (us : List U) : Loc := us.map some ++ List.replicate (n - us.length) none
def outP (o : Out) : Rp := match o with
  | .rt (.d x) _ => .ok x false
  | .rt (.ref i) st => (match st.obs[i]? with
    | some (.lst xs) => .ok (.list xs) true
    | _ => .no)
  | .nx _ _ => .ok .none false
  | .ex e _ _ => .ex e
  | _ => .no
def outF (o : Out) : Rf := match o with
  | .rt (.d x) st => (match st.fl with
    | some f => .ok x false f
    | none => .no)
  | .rt (.ref i) st => (match st.obs[i]?, st.fl with
    | some (.lst xs), some f => .ok (.list xs) true f
    | _, _ => .no)
  | .nx _ st => (match st.fl with
    | some f => .ok .none false f
    | none => .no)
  | .ex e _ st => (match st.fl with
    | some f => .ex e f
    | none => .no)
  | _ => .no
def pureOf (n : Nat) (b : MS) (ds : List PyData) : Rp := outP (b (startL n (ds.map .d)) ⟨none, []⟩)
def flowOf (n : Nat) (b : MS) (ds : List PyData) (f : Fl) : Rf := outF (b (startL n (.flow :: ds.map .d)) ⟨some f, []⟩)
def NoTup (H : Hp) (O0 : Addr → Prop) : Prop := ∀ p, O0 p → H p ≠ none ∧ ∀ ws, ¬ Rd H p (.tup ws)
def Fresh (K : PySem.W.Frag) (O0 : Addr → Prop) (H H' : Hp) (v : V) (d : PyData) : Prop := ∃ p ws ys, v = .ref p ∧ H p = none ∧ H' p = some (.lst ws) ∧ d = .list ys ∧ RTs K O0 H' ws ys
def spP (K : PySem.W.Frag) (k : Nat) (m : List PyData → Rp) : Sp := fun vs H Q _ => ∃ (O0 : Addr → Prop) (ds : List PyData) (d : PyData) (fr : Bool), NoTup H O0 ∧ RTs K O0 H vs ds ∧ ds.length = k ∧ m ds = .ok d fr ∧
  ∀ v H', (∀ b o, H b = some o → H' b = some o) → RT K O0 H' v d → (fr = true → Fresh K O0 H H' v d) → Q v H'
def spF (K : PySem.W.Frag) (k : Nat) (m : List PyData → Fl → Rf) : Sp := fun vs H Q _ => ∃ (fa fb : Addr) (O0 : Addr → Prop) (f : Fl) (vs' : List V) (ds : List PyData) (d : PyData) (fr : Bool) (f' : Fl), vs = .ref fa :: vs' ∧ NoTup H O0 ∧ ¬ O0 fa ∧ H fa = some (.lst (flV fb f)) ∧
  H fb = some (.lst (f.cells.map V.int)) ∧ fb ≠ fa ∧ ¬ O0 fb ∧ RTs K (fun p => O0 p ∨ p = fa) H vs' ds ∧ ds.length + 1 = k ∧ m ds f = .ok d fr f' ∧
  ∀ v H', (∀ b o, H b = some o → b ≠ fa → H' b = some o) → H' fa = some (.lst (flV fb f')) → f'.cells = f.cells → RT K (fun p => O0 p ∨ p = fa) H' v d → (fr = true → Fresh K (fun p => O0 p ∨ p = fa) H H' v d) → Q v H'
theorem ints_inj : ∀ {a b : List Int}, a.map V.int = b.map V.int → a = b
  | [], [], _ => rfl
  | [], _ :: _, h => by cases h
  | _ :: _, [], h => by cases h
  | x :: a, y :: b, h => by
    rw [List.map_cons, List.map_cons] at h
    injection h with h1 h2
    injection h1 with h1
    rw [h1, ints_inj h2]
section
variable {P : Program} {w : World} {K : PySem.W.Frag} {mg : Str → Option Value} {base : Heap}
theorem start_len (N : List Str) {vs : List V} {us : List U} (h : vs.length = us.length) (hl : us.length ≤ N.length) : (L2.start N vs).length = (startL N.length us).length := by
  unfold L2.start startL; simp [h]
theorem start_get (N : List Str) {n : Nat} {vs : List V} {us : List U} {i : Nat} {u : U} (e : (startL n us)[i]? = some (some u)) : us[i]? = some u := by
  unfold startL at e
  by_cases h : i < us.length
  · rw [List.getElem?_append_left (by simpa using h)] at e
    rw [List.getElem?_map] at e
    cases q : us[i]? with
    | none => rw [q] at e; cases e
    | some w => rw [q] at e; cases e; rfl
  · rw [List.getElem?_append_right (by simpa using h)] at e
    have := List.getElem?_eq_some_iff.mp e
    obtain ⟨h1, h2⟩ := this
    rw [List.getElem_replicate] at h2; cases h2
theorem start_getV (N : List Str) {vs : List V} {i : Nat} {v : V} (e : vs[i]? = some v) : (L2.start N vs)[i]? = some (some v) := by
  unfold L2.start
  have h : i < vs.length := (List.getElem?_eq_some_iff.mp e).1
  rw [List.getElem?_append_left (by simpa using h), List.getElem?_map, e]; rfl
theorem rp_end {G : Gx} {H : Hp} {o : Out} {Q : VK} {d : PyData} {fr : Bool} (hG : G.K = K) (e : outP o = .ok d fr) (q : ∀ v H', (∀ b o, H b = some o → H' b = some o) → RT K G.O0 H' v d → (fr = true → Fresh K G.O0 H H' v d) → Q v H') :
    wpS G [] H ⟨none, []⟩ o { nx := fun _ H' => Q .non H', rt := Q } := by
  subst hG
  have own0 : ∀ b, ¬ Own G [] ⟨none, []⟩ b := fun b h => by
    rcases h with ⟨h, _⟩ | ⟨i, xs, h, _⟩
    · cases h
    · simp at h
  unfold outP at e
  split at e
  · cases e
    exact fun v H' β' f rl r => q v H' (fun b o h => (f.stay b o h (own0 b)).1) (RT.weak (fun a h => .inl h) _ _ r) (fun z => by cases z)
  · rename_i i st
    split at e
    · rename_i xs hx
      cases e
      intro v H' β' f rl r
      obtain ⟨p, h1, rfl⟩ := r
      obtain ⟨p', vs, a, b, c⟩ := rl.ob i xs hx
      rw [h1] at a; cases a
      have c' : RTs G.K G.O0 H' vs xs := RTs.weak (fun a h => .inl h) _ _ c
      have hf : H p = none := by
        obtain ⟨γ, e, hγ⟩ := f.ext
        rw [List.nil_append] at e; subst e
        exact hγ p (List.mem_of_getElem? h1)
      exact q _ H' (fun b o h => (f.stay b o h (own0 b)).1) (.lst ⟨b, fun z => (rl.o0 p z).2.1 (.inr ⟨i, _, hx, (by intro z; cases z), h1⟩)⟩ c') (fun _ => ⟨p, vs, xs, rfl, hf, b, rfl, c'⟩)
    · cases e
  · cases e
    exact fun σ' H' β' f re => q .non H' (fun b o h => (f.stay b o h (own0 b)).1) .non (fun z => by cases z)
  · cases e
  · cases e
theorem okP {x qual : Str} {st : Stmt} {f : Addr} {fd : FuncData} {N ps : List Str} {k : Nat} {b : MS} (F : Fun K x qual st f fd) (S : FnScope N ps (defScope st)) (hN : ps.length ≤ N.length)
    (hb : ∀ (cdv : Value) (A : Around) (outer : List Env) (s : Shared) (H : Hp) (E : XK), Room k (A.deeper (envOfC qual (defScope st) s.heap.objs.size f cdv)) →
      ∃ t, PSs (cxOf CX0 P w K mg base N qual (defScope st) f cdv A outer s H E).nox (defBody st) t ∧ ∀ G : Gx, G.K = K → SimS G t b) :
    FnOk P w K mg base CX0 (k + 1) f fd ps (spP K ps.length (pureOf N.length b)) := by
  refine F.ok S (fun vs H Q E h => ?_) (fun cdv A outer s H vs Q E hr h => ?_)
  · obtain ⟨O0, ds, d, fr, _, r, hl, _⟩ := h
    rw [r.len, hl]
  · obtain ⟨O0, ds, d, fr, hO, r, hl, e, q⟩ := h
    obtain ⟨t, ht, hs⟩ := hb cdv A outer s H E hr
    refine ⟨t, ht, ?_⟩
    have own0 : ∀ b, ¬ Own ⟨K, 0, 0, O0, fun _ => none, fun _ _ _ _ => False⟩ [] ⟨none, []⟩ b := fun b h => by
      rcases h with ⟨h, _⟩ | ⟨i, xs, h, _⟩
      · cases h
      · simp at h
    have re : Re ⟨K, 0, 0, O0, fun _ => none, fun _ _ _ _ => False⟩ [] H (L2.start N vs) (startL N.length (ds.map .d)) ⟨none, []⟩ := by
      refine ⟨⟨rfl, .nil, fun p hp => by simp at hp, fun i xs h => by simp at h, fun f h => (by cases h), fun p hp => ⟨(hO p hp).1, own0 p, (hO p hp).2⟩⟩, ⟨start_len N (by rw [r.len]; simp) (by simp; omega), fun i u e => ?_⟩⟩
      have e1 := start_get N (vs := vs) e
      rw [List.getElem?_map] at e1
      cases e2 : ds[i]? with
      | none => rw [e2] at e1; cases e1
      | some y =>
        rw [e2] at e1; cases e1
        obtain ⟨v, h1, h2⟩ := r.get e2
        exact ⟨v, start_getV N h1, RT.weak (fun a h => h.elim id fun z => (own0 a z).elim) _ _ h2⟩
    exact hs ⟨K, 0, 0, O0, fun _ => none, fun _ _ _ _ => False⟩ rfl [] H _ _ _ re _ (rp_end (K := K) rfl e q)
theorem rf_end {G : Gx} {H : Hp} {f : Fl} {o : Out} {Q : VK} {d : PyData} {fr : Bool} {f' : Fl} (hG : G.K = K) (hfb : H G.fb = some (.lst (f.cells.map V.int))) (hne : G.fb ≠ G.fa) (e : outF o = .ok d fr f')
    (q : ∀ v H', (∀ b o, H b = some o → b ≠ G.fa → H' b = some o) → H' G.fa = some (.lst (flV G.fb f')) → f'.cells = f.cells → RT K (fun p => G.O0 p ∨ p = G.fa) H' v d → (fr = true → Fresh K (fun p => G.O0 p ∨ p = G.fa) H H' v d) → Q v H') :
    wpS G [] H ⟨some f, []⟩ o { nx := fun _ H' => Q .non H', rt := Q } := by
  subst hG
  have own0 : ∀ b, Own G [] ⟨some f, []⟩ b → b = G.fa := fun b h => by
    rcases h with ⟨_, h⟩ | ⟨i, xs, h, _⟩
    · exact h
    · simp at h
  have bn : ∀ {β' : List Addr} {st' : Sto}, st'.fl = some f' → ∀ a, (G.O0 a ∨ a = G.fa) → Ban G β' st' a := fun h a z => z.imp id fun z => .inl ⟨by rw [h]; rfl, z⟩
  have fin : ∀ {β' : List Addr} {st' : Sto} {H' : Hp}, st'.fl = some f' → Fut G [] ⟨some f, []⟩ H β' st' H' → Rl G β' H' st' → (∀ b o, H b = some o → b ≠ G.fa → H' b = some o) ∧ H' G.fa = some (.lst (flV G.fb f')) ∧ f'.cells = f.cells := fun {β' st' H'} h f1 rl => by
    have s1 : ∀ b o, H b = some o → b ≠ G.fa → H' b = some o := fun b o hb n => (f1.stay b o hb fun z => n (own0 b z)).1
    obtain ⟨⟨h1, h2⟩, _⟩ := rl.flo f' h
    have h3 := s1 _ _ hfb hne
    rw [h2.1] at h3
    refine ⟨s1, h1, ints_inj ?_⟩
    injection h3 with h3; injection h3
  unfold outF at e
  split at e
  · rename_i x st
    split at e
    · rename_i g hg
      cases e
      intro v H' β' f1 rl r
      obtain ⟨a, b, c⟩ := fin hg f1 rl
      exact q v H' a b c (RT.weak (bn hg) _ _ r) (fun z => by cases z)
    · cases e
  · rename_i i st
    split at e
    · rename_i xs g hx hg
      cases e
      intro v H' β' f1 rl r
      obtain ⟨a0, b0, c0⟩ := fin hg f1 rl
      obtain ⟨p, h1, rfl⟩ := r
      obtain ⟨p', vs, a, b, c⟩ := rl.ob i xs hx
      rw [h1] at a; cases a
      have c' : RTs G.K (fun p => G.O0 p ∨ p = G.fa) H' vs xs := RTs.weak (bn hg) _ _ c
      have hf : H p = none := by
        obtain ⟨γ, e, hγ⟩ := f1.ext
        rw [List.nil_append] at e; subst e
        exact hγ p (List.mem_of_getElem? h1)
      refine q _ H' a0 b0 c0 (.lst ⟨b, fun z => ?_⟩ c') (fun _ => ⟨p, vs, xs, rfl, hf, b, rfl, c'⟩)
      rcases z with z | z
      · exact (rl.o0 p z).2.1 (.inr ⟨i, _, hx, (by intro z; cases z), h1⟩)
      · exact (rl.flo _ hg).2 (z ▸ List.mem_of_getElem? h1)
    · cases e
  · split at e
    · rename_i g hg
      cases e
      intro σ' H' β' f1 re
      obtain ⟨a, b, c⟩ := fin hg f1 re.rl
      exact q .non H' a b c .non (fun z => by cases z)
    · cases e
  · split at e <;> cases e
  · cases e
theorem okF {x qual : Str} {st : Stmt} {f : Addr} {fd : FuncData} {N ps : List Str} {k : Nat} {b : MS} (F : Fun K x qual st f fd) (S : FnScope N ps (defScope st)) (hN : ps.length ≤ N.length)
    (hb : ∀ (cdv : Value) (A : Around) (outer : List Env) (s : Shared) (H : Hp) (E : XK), Room k (A.deeper (envOfC qual (defScope st) s.heap.objs.size f cdv)) →
      ∃ t, PSs (cxOf CX0 P w K mg base N qual (defScope st) f cdv A outer s H E).nox (defBody st) t ∧ ∀ G : Gx, G.K = K → SimS G t b) :
    FnOk P w K mg base CX0 (k + 1) f fd ps (spF K ps.length (flowOf N.length b)) := by
  refine F.ok S (fun vs H Q E h => ?_) (fun cdv A outer s H vs Q E hr h => ?_)
  · obtain ⟨fa, fb, O0, g, vs', ds, d, fr, g', rfl, _, _, _, _, _, _, r, hl, _⟩ := h
    rw [List.length_cons, r.len, hl]
  · obtain ⟨fa, fb, O0, g, vs', ds, d, fr, g', rfl, hO, hO1, h1, h2, hne, hO2, r, hl, e, q⟩ := h
    obtain ⟨t, ht, hs⟩ := hb cdv A outer s H E hr
    refine ⟨t, ht, ?_⟩
    have own0 : ∀ b, Own ⟨K, fa, fb, O0, fun _ => none, fun _ _ _ _ => False⟩ [] ⟨some g, []⟩ b ↔ b = fa := fun b => ⟨fun h => by
      rcases h with ⟨_, h⟩ | ⟨i, xs, h, _⟩
      · exact h
      · simp at h, fun h => .inl ⟨rfl, h⟩⟩
    have bn : ∀ a, Ban ⟨K, fa, fb, O0, fun _ => none, fun _ _ _ _ => False⟩ [] ⟨some g, []⟩ a → (O0 a ∨ a = fa) := fun a h => h.imp id (own0 a).mp
    have re : Re ⟨K, fa, fb, O0, fun _ => none, fun _ _ _ _ => False⟩ [] H (L2.start N (.ref fa :: vs')) (startL N.length (.flow :: ds.map .d)) ⟨some g, []⟩ := by
      refine ⟨⟨rfl, .nil, fun p hp => by simp at hp, fun i xs h => by simp at h, fun f h => ?_, fun p hp => ⟨(hO p hp).1, fun z => hO1 ((own0 p).mp z ▸ hp), (hO p hp).2⟩⟩, ⟨start_len N (by simp [r.len]) (by simp; omega), fun i u e => ?_⟩⟩
      · cases h
        exact ⟨⟨h1, h2, fun z => (bn _ z).elim hO2 hne⟩, by simp⟩
      · have e1 := start_get N (vs := .ref fa :: vs') e
        cases i with
        | zero => simp at e1; subst e1; exact ⟨.ref fa, start_getV N rfl, rfl⟩
        | succ i =>
          rw [List.getElem?_cons_succ, List.getElem?_map] at e1
          cases e2 : ds[i]? with
          | none => rw [e2] at e1; cases e1
          | some y =>
            rw [e2] at e1; cases e1
            obtain ⟨v, h1, h2⟩ := r.get e2
            exact ⟨v, start_getV N (by simpa using h1), RT.weak bn _ _ h2⟩
    exact hs ⟨K, fa, fb, O0, fun _ => none, fun _ _ _ _ => False⟩ rfl [] H _ _ _ re _ (rf_end (K := K) rfl h2 hne e q)
end
def ctrees (st : Sto) : List U → Option (List PyData)
  | [] => some []
  | u :: us => match toTree st u, ctrees st us with
    | some x, some xs => some (x :: xs)
    | _, _ => none
def isRef : U → Bool
  | .ref _ => true
  | _ => false
mutual
def noLst : PyData → Bool
  | .list _ => false
  | .tuple xs => noLsts xs
  | _ => true
def noLsts : List PyData → Bool
  | [] => true
  | x :: xs => noLst x && noLsts xs
end
section
variable {G : Gx} {β β' : List Addr} {st st' : Sto} {H H' : Hp} {v : V} {u : U} {σ σ' : L2.St} {l l' : Loc} {D : Ends}
mutual
theorem RT.noLst {K : PySem.W.Frag} {B B' : Addr → Prop} (hB : ∀ p ws, Rd H p (.tup ws) → ¬ B' p) : ∀ (d : PyData) (v : V), noLst d = true → RT K B H v d → RT K B' H v d
  | .none, _, _, h => by cases h; exact .non
  | .bool b, _, _, h => by cases h; exact .bl b
  | .int i, _, _, h => by cases h; exact .int i
  | .str x, _, _, h => by cases h; exact .str x
  | .list ds, _, n, h => by simp [NW.noLst] at n
  | .tuple ds, _, n, h => by
    cases h with
    | tup hs ha => exact .tup (hs.imp (fun z => ⟨z.1, hB _ _ z.1⟩) id) (RTs.noLst hB ds _ (by simpa [NW.noLst] using n) ha)
  | .dict _, _, _, h => by cases h
theorem RTs.noLst {K : PySem.W.Frag} {B B' : Addr → Prop} (hB : ∀ p ws, Rd H p (.tup ws) → ¬ B' p) : ∀ (ds : List PyData) (vs : List V), noLsts ds = true → RTs K B H vs ds → RTs K B' H vs ds
  | [], _, _, h => by cases h; exact .nil
  | d :: ds, _, n, h => by
    rw [NW.noLsts, Bool.and_eq_true] at n
    cases h with
    | cons h1 h2 => exact .cons (RT.noLst hB d _ n.1 h1) (RTs.noLst hB ds _ n.2 h2)
end
theorem toTree_d {x : PyData} (e : toTree st u = some x) (n : isRef u = false) : u = .d x := by
  cases u with
  | d y => cases e; rfl
  | ref i => cases n
  | flow => cases e
  | scr k => cases e
  | dct k => cases e
theorem ctrees_r : ∀ {us : List U} {vs : List V} {ds : List PyData}, Paired (fun v u => RU G β (Ban G β st) H v u) vs us → ctrees st us = some ds → us.any isRef = false → RTs G.K (Ban G β st) H vs ds
  | [], _, ds, .nil, e, _ => by cases e; exact .nil
  | u :: us, _, ds, .cons h t, e, n => by
    rw [List.any_cons, Bool.or_eq_false_iff] at n
    unfold ctrees at e
    split at e
    · rename_i x xs e1 e2
      cases e
      cases toTree_d e1 n.1
      exact .cons h (ctrees_r t e2 n.2)
    · cases e
theorem ctrees_0 (rl : Rl G β H st) {B' : Addr → Prop} (hB : ∀ p, B' p → Ban G β st p ∧ p ∉ β) : ∀ {us : List U} {vs : List V} {ds : List PyData}, Paired (fun v u => RU G β (Ban G β st) H v u) vs us → ctrees st us = some ds → RTs G.K B' H vs ds
  | [], _, ds, .nil, e => by cases e; exact .nil
  | u :: us, _, ds, .cons h t, e => by
    unfold ctrees at e
    split at e
    · rename_i x xs e1 e2
      cases e
      refine .cons ?_ (ctrees_0 rl hB t e2)
      cases u with
      | d y => cases e1; exact RT.weak (fun p z => (hB p z).1) _ _ h
      | flow => cases e1
      | scr k => cases e1
      | dct k => cases e1
      | ref i =>
        simp only [toTree] at e1
        split at e1
        · rename_i ys hy
          cases e1
          obtain ⟨p, h1, rfl⟩ := h
          obtain ⟨q, vs, a, b, c⟩ := rl.ob i ys hy
          rw [h1] at a; cases a
          exact .lst ⟨b, fun z => (hB p z).2 (List.mem_of_getElem? h1)⟩ (RTs.weak (fun p z => (hB p z).1) _ _ c)
        · cases e1
    · cases e
theorem Rl.grown (rl : Rl G β H st) (k : ∀ b o, H b = some o → H' b = some o) : Fut G β st H β st H' ∧ Rl G β H' st := by
  have f : Fut G β st H β st H' := ⟨⟨[], by simp, by simp⟩, fun b h => by
    cases e : H b with
    | none => exact absurd e h
    | some o => rw [k b o e]; simp, fun b o h n => ⟨k b o h, n⟩⟩
  refine ⟨f, rl.len, rl.nodup, fun q hq => f.there q (rl.trk q hq), fun i xs h nd => ?_, fun g hg => ?_, fun q hq => rl.o0_fut f q hq (rl.o0 q hq).2.1⟩
  · obtain ⟨q, vs, a, b, c⟩ := rl.oo i xs h nd
    exact ⟨q, vs, a, k _ _ b, f.obr c⟩
  · obtain ⟨⟨a, b⟩, c⟩ := rl.flo g hg
    exact ⟨⟨k _ _ a, b.fut f⟩, c⟩
theorem Rl.noTupB (rl : Rl G β H st) : NoTup H (Ban G β st) := fun p h => ⟨fun e => rl.notBan e h, fun ws => rl.banNoTup h ws⟩
def fCallP (k : Nat) (m : List PyData → Rp) (us : List U) (st : Sto) : Res U := match ctrees st us with
  | some ds => if ds.length = k then (match m ds with
    | .ok d _ => if (!us.any isRef || noLst d) = true then .ok (.d d) st else .no
    | _ => .no) else .no
  | none => .no
def eCallP (k : Nat) (m : List PyData → Rp) (a : MA) : ME := fun l st => (a l st).bind (fCallP k m)
theorem s_callP {k : Nat} {m : List PyData → Rp} {ta : TA} {a : MA} {E : XK} (ha : SimA G ta a) : SimE G (tCall (spP G.K k m) [] E ta) (eCallP k m a) := fun β H σ l st re Q h => by
  refine ha β H σ l st re _ (wpR_bind h fun vs us H1 β1 st1 f1 rl1 p1 h1 => ?_)
  show spP G.K k m (vs ++ []) H1 Q E
  rw [List.append_nil]
  unfold fCallP at h1
  split at h1
  · rename_i ds e
    split at h1
    · rename_i hk
      split at h1
      · rename_i d fr e2
        split at h1
        · rename_i hc
          by_cases hr : us.any isRef = false
          · refine ⟨Ban G β1 st1, ds, d, fr, rl1.noTupB, ctrees_r p1 e hr, hk, e2, fun v H' kk rt _ => ?_⟩
            obtain ⟨f2, rl2⟩ := rl1.grown kk
            exact h1 v H' β1 f2 rl2 rt
          · have hr' : us.any isRef = true := by simpa using hr
            rw [hr'] at hc
            refine ⟨fun _ => False, ds, d, fr, fun p h => h.elim, ctrees_0 rl1 (fun p z => z.elim) p1 e, hk, e2, fun v H' kk rt _ => ?_⟩
            obtain ⟨f2, rl2⟩ := rl1.grown kk
            exact h1 v H' β1 f2 rl2 (RT.noLst (fun p ws z => rl2.tupB z) _ _ (by simpa using hc) rt)
        · exact h1.elim
      · exact h1.elim
    · exact h1.elim
  · exact h1.elim
def fCallF (k : Nat) (m : List PyData → Fl → Rf) (us : List U) (st : Sto) : Res U := match us, st.fl with
  | .flow :: us, some f => (match ctrees st us with
    | some ds => if ds.length + 1 = k then (match m ds f with
      | .ok d _ f' => if (!us.any isRef || noLst d) = true then .ok (.d d) { st with fl := some f' } else .no
      | _ => .no) else .no
    | none => .no)
  | _, _ => .no
def eCallF (k : Nat) (m : List PyData → Fl → Rf) (a : MA) : ME := fun l st => (a l st).bind (fCallF k m)
theorem s_callF {k : Nat} {m : List PyData → Fl → Rf} {ta : TA} {a : MA} {E : XK} (ha : SimA G ta a) : SimE G (tCall (spF G.K k m) [] E ta) (eCallF k m a) := fun β H σ l st re Q h => by
  refine ha β H σ l st re _ (wpR_bind h fun vs us H1 β1 st1 f1 rl1 p1 h1 => ?_)
  show spF G.K k m (vs ++ []) H1 Q E
  rw [List.append_nil]
  unfold fCallF at h1
  split at h1
  · rename_i us0 f hf
    split at h1
    · rename_i ds e
      split at h1
      · rename_i hk
        split at h1
        · rename_i d fr f' e2
          split at h1
          · rename_i hc
            have p1' : Paired (fun v u => RU G β1 (Ban G β1 st1) H1 v u) vs (.flow :: us0) := p1
            cases p1' with
            | cons r0 rs =>
              rename_i v0 vs0
              cases (show v0 = .ref G.fa from r0)
              obtain ⟨⟨a0, b0⟩, c0⟩ := rl1.flo f hf
              have ofa : Own G β1 st1 G.fa := .inl ⟨by rw [hf]; rfl, rfl⟩
              have hne : G.fb ≠ G.fa := fun e => b0.2 (.inr (e ▸ ofa))
              by_cases hr : us0.any isRef = false
              · have eb : ∀ p, (Ban G β1 st1 p ∧ p ≠ G.fa) ∨ p = G.fa ↔ Ban G β1 st1 p := fun p => ⟨fun h => h.elim (·.1) fun e => .inr (e ▸ ofa), fun h => by
                  by_cases e : p = G.fa
                  · exact .inr e
                  · exact .inl ⟨h, e⟩⟩
                refine ⟨G.fa, G.fb, fun p => Ban G β1 st1 p ∧ p ≠ G.fa, f, vs0, ds, d, fr, f', rfl, fun p h => rl1.noTupB p h.1, fun h => h.2 rfl, a0, b0.1, hne, fun h => b0.2 h.1, RTs.weak (fun p h => (eb p).mp h) _ _ (ctrees_r rs e hr), hk, e2, fun v H' kk hfa hcl rt _ => ?_⟩
                obtain ⟨f2, rl2⟩ := flow_end rl1 hf kk hfa hcl
                exact h1 v H' β1 f2 rl2 (RT.weak (fun p h => (eb p).mpr (h.imp id (own_fl hf p).mp)) _ _ rt)
              · have hr' : us0.any isRef = true := by simpa using hr
                rw [hr'] at hc
                have b1 : RTs G.K (fun p => False ∨ p = G.fa) H1 vs0 ds := ctrees_0 rl1 (fun p z => z.elim False.elim fun z => ⟨z ▸ .inr ofa, z ▸ c0⟩) rs e
                refine ⟨G.fa, G.fb, fun _ => False, f, vs0, ds, d, fr, f', rfl, fun p h => h.elim, fun h => h, a0, b0.1, hne, fun h => h, b1, hk, e2, fun v H' kk hfa hcl rt _ => ?_⟩
                obtain ⟨f2, rl2⟩ := flow_end rl1 hf kk hfa hcl
                exact h1 v H' β1 f2 rl2 (RT.noLst (fun p ws z => rl2.tupB z) _ _ (by simpa using hc) rt)
          · exact h1.elim
        · exact h1.elim
      · exact h1.elim
    · exact h1.elim
  · exact h1.elim
end
end NW
namespace NW
open PySem PySem.Spec PyProof.Rows L2
structure QE (X : Cx) (e : Expr) (t : TE) (m : ME) : Prop where
  pe : PE X e t
  sim : ∀ G : Gx, G.K = X.K → SimE G t m
structure QN (X : Cx) (e : Expr) (t : TE) (m : ML) : Prop where
  pe : PE X e t
  sim : ∀ G : Gx, G.K = X.K → SimN G t m
structure QT (X : Cx) (e : Expr) (t : TT) (m : MB) : Prop where
  pt : PT X e t
  sim : ∀ G : Gx, G.K = X.K → SimT G t m
structure QW (X : Cx) (e : Expr) (t : TT) (m : MB) : Prop where
  pw : PW X e t
  sim : ∀ G : Gx, G.K = X.K → SimT G t m
structure QA (X : Cx) (es : List Expr) (t : TA) (m : MA) : Prop where
  pa : PA X es t
  sim : ∀ G : Gx, G.K = X.K → SimA G t m
structure QO (X : Cx) (e : Option Expr) (t : TO) (m : MO) : Prop where
  po : L2.PO X e t
  sim : ∀ G : Gx, G.K = X.K → SimO G t m
structure QI (X : Cx) (tg e : Expr) (t : TI) (m : MI) : Prop where
  pi : PI X tg e t
  sim : ∀ G : Gx, G.K = X.K → SimI G t m
structure QG (X : Cx) (vs : List Nat) (e : Expr) (g : TG) (m : MT) : Prop where
  pg : PG X e g
  sim : ∀ G : Gx, G.K = X.K → SimG G vs g m
structure QGs (X : Cx) (vs : List Nat) (es : List Expr) (g : TGs) (m : MTs) : Prop where
  pgs : PGs X es g
  sim : ∀ G : Gx, G.K = X.K → SimGs G vs g m
  ne : ∀ ds l st, (m ds l st).noEx
structure QS (X : Cx) (s : Stmt) (t : TS) (m : MS) : Prop where
  ps : PS X s t
  sim : ∀ G : Gx, G.K = X.K → SimS G t m
structure QSs (X : Cx) (s : List Stmt) (t : TS) (m : MS) : Prop where
  pss : PSs X s t
  sim : ∀ G : Gx, G.K = X.K → SimS G t m
section
variable {X : Cx} {a b c e o i : Expr} {es : List Expr} {pos p pos2 : Pos} {ta tb tc te to ti : TE} {ma mb mc me mo mi : ME} {t u : TT} {mt mu : MB} {tA : TA} {mA : MA}
theorem q_var (i : Nat) {x : Str} (hN : X.N[i]? = some x := by rfl) (hv : Vis X.env.scope x := by first | exact Or.inl rfl | exact Or.inr (Or.inl rfl) | exact Or.inr (Or.inr rfl)) (hd : (x == ("__debug__" : Str)) = false := by decide)
    (hcd : (x == ("__classdict__" : Str)) = false := by decide) : QE X (.Name x pos) (tVar i) (eVar i) := ⟨pv i hN hv hd hcd, fun _ _ => s_var i⟩
theorem q_int {n : Int} {j : Nat} : QE X (.Constant (.int n) j pos) (tC (.int n)) (eC (.int n)) := ⟨pe_int, fun _ _ => s_int n⟩
theorem q_bl {n : Bool} {j : Nat} : QE X (.Constant (.bool n) j pos) (tC (.bl n)) (eC (.bool n)) := ⟨pe_bl, fun _ _ => s_bl n⟩
theorem q_non {j : Nat} : QE X (.Constant .none j pos) (tC .non) (eC .none) := ⟨pe_non, fun _ _ => s_non⟩
theorem q_str {z : Str} {j : Nat} : QE X (.Constant (.str z) j pos) (tC (.str z)) (eC (.str z)) := ⟨pe_str, fun _ _ => s_str z⟩
def IsC (K : PySem.W.Frag) (u : Value) (v : V) (x : PyData) : Prop := RelV v u ∧ ∀ B H, RT K B H v x
theorem q_glob {x : Str} {u : Value} {v : V} {d : PyData} (hg : Gl X x) (hm : X.mg x = some u) (h : IsC X.K u v d) (hd : (x == ("__debug__" : Str)) = false := by decide) : QE X (.Name x pos) (tC v) (eC d) :=
  ⟨pe_glob hg hm h.1 hd, fun G hG => s_c (by rw [hG]; exact h.2)⟩
theorem q_sub (ha : QE X a ta ma) (hb : QE X b tb mb) : QE X (.BinOp a .Sub b pos) (tOp (rI0 fun i j => .int (i - j)) ta tb) (eOp fSub ma mb) := ⟨pe_op op_sub ha.pe hb.pe, fun G h => s_op r_sub (ha.sim G h) (hb.sim G h)⟩
theorem q_mod (ha : QE X a ta ma) (hb : QE X b tb mb) : QE X (.BinOp a .Mod b pos) (tOp (rI (fun _ j => j ≠ 0) fun i j => .int (i.fmod j)) ta tb) (eOp fMod ma mb) := ⟨pe_op op_modN ha.pe hb.pe, fun G h => s_op r_mod (ha.sim G h) (hb.sim G h)⟩
theorem q_div (hS : SeX X.prog X.base X.A X.stack) (ha : QE X a ta ma) (hb : QE X b tb mb) : QE X (.BinOp a .FloorDiv b pos) (tOp (rI CDivA fun i j => .int (i.fdiv j)) ta tb) (eOp fDiv ma mb) := ⟨pe_op (op_fdivA hS) ha.pe hb.pe, fun G h => s_op r_div (ha.sim G h) (hb.sim G h)⟩
theorem q_pow (ha : QE X a ta ma) (hb : QE X b tb mb) : QE X (.BinOp a .Pow b pos) (tOp (rI CPow fun i j => .int (i ^ j.toNat)) ta tb) (eOp fPow ma mb) := ⟨pe_op op_pow ha.pe hb.pe, fun G h => s_op r_pow (ha.sim G h) (hb.sim G h)⟩
theorem q_neg (n : Int) {j : Nat} {p2 : Pos} : QE X (.UnaryOp .USub (.Constant (.int n) j p2) pos) (tUn (rU fun i => .int (-i)) (tC (.int n))) (eC (.int (-n))) :=
  ⟨pe_un un_neg pe_int, fun G h β H σ l st re Q q => ⟨n, rfl, wpR_d re.rl (.int _) q⟩⟩
theorem qn_rep (ha : QE X a ta ma) (hb : QE X b tb mb) : QN X (.BinOp a .Mult b pos) (tOp rRep ta tb) (lOp fRep ma mb) := ⟨pe_op op_rep ha.pe hb.pe, fun G h => n_op rn_rep (ha.sim G h) (hb.sim G h)⟩
theorem q_gt (ha : QE X a ta ma) (hb : QE X b tb mb) : QE X (.Compare a [.Gt] [b] pos) (tOp (rI0 fun i j => .bl (decide (j < i))) ta tb) (eOp fGt ma mb) := ⟨pe_cmpR op_gt ha.pe hb.pe (nomark _), fun G h => s_op r_gt (ha.sim G h) (hb.sim G h)⟩
theorem q_eq {k : Nat} (hr : Room k X.A) (ha : QE X a ta ma) (hb : QE X b tb mb) : QE X (.Compare a [.Eq] [b] pos) (tOp (rEqD X.K) ta tb) (eOp (opEq false) ma mb) := ⟨pe_cmpR (op_eqD hr.units) ha.pe hb.pe (nomark _), fun G h => h ▸ s_op r_eq (ha.sim G h) (hb.sim G h)⟩
theorem q_ne {k : Nat} (hr : Room k X.A) (ha : QE X a ta ma) (hb : QE X b tb mb) : QE X (.Compare a [.NotEq] [b] pos) (tOp (rNeD X.K) ta tb) (eOp (opEq true) ma mb) := ⟨pe_cmpR (op_neD hr.units) ha.pe hb.pe (nomark _), fun G h => h ▸ s_op r_ne (ha.sim G h) (hb.sim G h)⟩
structure CR2 (X : Cx) (op : CmpOp) (r : R2) (f : U → U → Sto → Res U) : Prop where
  op : OpR X (compareOp op) r
  sim : ∀ G : Gx, SimR G r f
theorem qt_tru (h : QE X e te me) (he : ∀ whole, isTrue e X.env whole = (do let v ← whole; standAt e.pos; holding [v] (truthy v)) := by intro _; rfl) : QT X e (fun σ H Q => te σ H fun x H' => ∃ k, TruV X.K x H' k ∧ Q k H') (bTru me) := ⟨pt_truth h.pe he, fun G hG => hG ▸ s_tru (h.sim G hG)⟩
theorem qt_lt (ha : QE X a ta ma) (hb : QE X b tb mb) : QT X (.Compare a [.Lt] [b] pos) (tTest (tOp (rI0 fun i j => .bl (decide (i < j))) ta tb)) (bTest (eOp fLt ma mb)) := ⟨pt_cmpR op_lt ha.pe hb.pe (nomark _), fun G h => s_test (s_op r_lt (ha.sim G h) (hb.sim G h))⟩
theorem qt_gt (ha : QE X a ta ma) (hb : QE X b tb mb) : QT X (.Compare a [.Gt] [b] pos) (tTest (tOp (rI0 fun i j => .bl (decide (j < i))) ta tb)) (bTest (eOp fGt ma mb)) := ⟨pt_cmpR op_gt ha.pe hb.pe (nomark _), fun G h => s_test (s_op r_gt (ha.sim G h) (hb.sim G h))⟩
theorem qt_ge (ha : QE X a ta ma) (hb : QE X b tb mb) : QT X (.Compare a [.GtE] [b] pos) (tTest (tOp (rI0 fun i j => .bl (decide (j ≤ i))) ta tb)) (bTest (eOp fGe ma mb)) := ⟨pt_cmpR op_ge ha.pe hb.pe (nomark _), fun G h => s_test (s_op r_ge (ha.sim G h) (hb.sim G h))⟩
theorem qt_eq {k : Nat} (hr : Room k X.A) (ha : QE X a ta ma) (hb : QE X b tb mb) : QT X (.Compare a [.Eq] [b] pos) (tTest (tOp (rEqD X.K) ta tb)) (bTest (eOp (opEq false) ma mb)) := ⟨pt_cmpR (op_eqD hr.units) ha.pe hb.pe (nomark _), fun G h => h ▸ s_test (s_op r_eq (ha.sim G h) (hb.sim G h))⟩
theorem qt_ne {k : Nat} (hr : Room k X.A) (ha : QE X a ta ma) (hb : QE X b tb mb) : QT X (.Compare a [.NotEq] [b] pos) (tTest (tOp (rNeD X.K) ta tb)) (bTest (eOp (opEq true) ma mb)) := ⟨pt_cmpR (op_neD hr.units) ha.pe hb.pe (nomark _), fun G h => h ▸ s_test (s_op r_ne (ha.sim G h) (hb.sim G h))⟩
theorem qt_notin (ha : QE X a ta ma) (hb : QE X b tb mb) (hm : behindInMarks .NotIn b = false := by rfl) : QT X (.Compare a [.NotIn] [b] pos) (tTest (tOp (rIn X.K true) ta tb)) (bTest (eOp (fIn true) ma mb)) := ⟨pt_cmpR op_notIn_seq ha.pe hb.pe hm, fun G h => h ▸ s_test (s_op (r_in true) (ha.sim G h) (hb.sim G h))⟩
theorem qt_notN (ha : QE X a ta ma) (hb : QE X b tb mb) : QT X (.Compare a [.IsNot] [b] pos) (tTest (tOp (fun x y H Q => y = .non ∧ Q (.bl (!decide (x = .non))) H) ta tb)) (bTest (eOp (fIsN true) ma mb)) := ⟨pt_cmpR op_notN ha.pe hb.pe (nomark _), fun G h => s_test (s_op r_notN (ha.sim G h) (hb.sim G h))⟩
theorem qt_not (ha : QT X a t mt) : QT X (.UnaryOp .Not a pos) (tNot t) (bNot mt) := ⟨pt_not ha.pt, fun G h => s_not (ha.sim G h)⟩
theorem qw_and1 (ha : QT X a t mt) : QW X (.BoolOp .And [a] pos) t mt := ⟨pw_and1 ha.pt, ha.sim⟩
theorem qw_or1 (ha : QT X a t mt) : QW X (.BoolOp .Or [a] pos) t mt := ⟨pw_or1 ha.pt, ha.sim⟩
theorem qw_and (ha : QT X a t mt) (hb : QW X (.BoolOp .And (b :: es) pos) u mu) : QW X (.BoolOp .And (a :: b :: es) pos) (tAnd t u) (bAnd mt mu) := ⟨pw_and ha.pt hb.pw, fun G h => s_and (ha.sim G h) (hb.sim G h)⟩
theorem qw_or (ha : QT X a t mt) (hb : QW X (.BoolOp .Or (b :: es) pos) u mu) : QW X (.BoolOp .Or (a :: b :: es) pos) (tOr t u) (bOr mt mu) := ⟨pw_or ha.pt hb.pw, fun G h => s_or (ha.sim G h) (hb.sim G h)⟩
theorem qt_w (h : QW X e t mt) : QT X e t mt := ⟨h.pw.pt, h.sim⟩
theorem q_one {op : BoolOp} (h : QE X a ta ma) : QE X (.BoolOp op [a] pos) ta ma := ⟨pe_one h.pe, h.sim⟩
theorem q_and (ha : QE X a ta ma) (hb : QE X (.BoolOp .And (b :: es) pos) tb mb) : QE X (.BoolOp .And (a :: b :: es) pos) (tAndV ta tb) (eAndV ma mb) := ⟨pe_and ha.pe hb.pe, fun G h => s_andV (ha.sim G h) (hb.sim G h)⟩
theorem q_not (ha : QE X a ta ma) : QE X (.UnaryOp .Not a pos) (tNotV ta) (eNotV ma) := ⟨pe_not ha.pe, fun G h => s_notV (ha.sim G h)⟩
theorem qa_nil : QA X [] tNil aNil := ⟨pa_nil, fun _ _ => s_nil⟩
theorem qa_cons (ha : QE X e te me) (hr : QA X es tA mA) (hs : starEach (e :: es) X.env = (false, eval e X.env) :: starEach es X.env := by rfl) : QA X (e :: es) (tCons te tA) (aCons me mA) := ⟨pa_cons ha.pe hr.pa hs, fun G h => s_cons (ha.sim G h) (hr.sim G h)⟩
theorem q_tup {x1} (h : QA X es tA mA) : QE X (.Tuple es x1 pos) (tTup tA) (eTup mA) := ⟨pe_tup h.pa, fun G hG => s_tup (h.sim G hG)⟩
theorem qn_disp (h : QA X es tA mA) : QN X (.List es pos) (tLst tA) (lDisp mA) := ⟨pe_lst h.pa, fun G hG => n_disp (h.sim G hG)⟩
theorem q_frz {m : ML} (h : QN X e te m) : QE X e te (eFrz m) := ⟨h.pe, fun G hG => s_frz (h.sim G hG)⟩
theorem q_own {m : ML} (h : QN X e te m) : QE X e te (eOwn m) := ⟨h.pe, fun G hG => s_own (h.sim G hG)⟩
theorem q_ix (ha : QE X a ta ma) (hb : QE X b tb mb) (hs : PlainIx b := by exact fun _ _ => rfl) : QE X (.Subscript a b pos) (tOp (rIx X.K) ta tb) (eOp fIx ma mb) := ⟨pe_ix ix_seq ha.pe hb.pe hs, fun G h => h ▸ s_op r_ix (ha.sim G h) (hb.sim G h)⟩
theorem qo_none : QO X none tNoPart oNone := ⟨po_none, fun _ _ => s_oNone⟩
theorem qo_some (h : QE X e te me) : QO X (some e) (tPart te) (oSome me) := ⟨po_some h.pe, fun G hG => s_oSome (h.sim G hG)⟩
theorem q_len (hm : X.mg "len" = none) (h : QA X [e] tA mA) (hg : Gl X "len" := by rfl) (he : starEach (e :: []) X.env = (false, eval e X.env) :: starEach [] X.env := by rfl) (hpl : (backTo pos (starEach [] X.env)).any (·.1) = false := by rfl) : QE X (.Call (.Name "len" p) [e] [] pos) (tCB (fun xs H Q => ∃ x n, xs = [x] ∧ LenV X.K x H n ∧ Q (.int n) H) tA) (eCB cLen mA) :=
  ⟨pe_callB call_len hg hm PySem.boot_len h.pa (by decide) (by decide) he hpl, fun G hG => hG ▸ s_cb c_len (h.sim G hG)⟩
theorem q_abs (hm : X.mg "abs" = none) (h : QA X [e] tA mA) (hg : Gl X "abs" := by rfl) (he : starEach (e :: []) X.env = (false, eval e X.env) :: starEach [] X.env := by rfl) (hpl : (backTo pos (starEach [] X.env)).any (·.1) = false := by rfl) : QE X (.Call (.Name "abs" p) [e] [] pos) (tCB (fun xs H Q => ∃ i, xs = [.int i] ∧ Q (.int (if i < 0 then -i else i)) H) tA) (eCB cAbs mA) :=
  ⟨pe_callB call_abs hg hm boot_abs h.pa (by decide) (by decide) he hpl, fun G hG => s_cb c_abs (h.sim G hG)⟩
theorem q_intc (hm : X.mg "int" = none) (h : QA X [e] tA mA) (hg : Gl X "int" := by rfl) (he : starEach (e :: []) X.env = (false, eval e X.env) :: starEach [] X.env := by rfl) (hpl : (backTo pos (starEach [] X.env)).any (·.1) = false := by rfl) : QE X (.Call (.Name "int" p) [e] [] pos) (tCB (fun xs H Q => (∃ i, xs = [.int i] ∧ Q (.int i) H) ∨ ∃ k, xs = [.bl k] ∧ Q (.int (if k then 1 else 0)) H) tA) (eCB cInt mA) :=
  ⟨pe_callTy call_int1 hg hm boot_int h.pa (by decide) (by decide) he hpl, fun G hG => s_cb c_int (h.sim G hG)⟩
theorem q_max2 (hc : X.calm = true) (hm : X.mg "max" = none) (h : QA X [a, b] tA mA) (hg : Gl X "max" := by rfl) (he : starEach (a :: [b]) X.env = (false, eval a X.env) :: starEach [b] X.env := by rfl) (hpl : (backTo pos (starEach [b] X.env)).any (·.1) = false := by rfl) : QE X (.Call (.Name "max" p) [a, b] [] pos) (tCB (fun xs H Q => ∃ i j, xs = [.int i, .int j] ∧ Q (.int (if j > i then j else i)) H) tA) (eCB cMax2 mA) :=
  ⟨pe_callB (call_max2 hc) hg hm boot_max h.pa (by decide) (by decide) he hpl, fun G hG => s_cb c_max2 (h.sim G hG)⟩
theorem q_maxL (hc : X.calm = true) (hm : X.mg "max" = none) (h : QA X [e] tA mA) (hg : Gl X "max" := by rfl) (he : starEach (e :: []) X.env = (false, eval e X.env) :: starEach [] X.env := by rfl) (hpl : (backTo pos (starEach [] X.env)).any (·.1) = false := by rfl) : QE X (.Call (.Name "max" p) [e] [] pos) (tCB (rMax X.K) tA) (eCB cMaxL mA) :=
  ⟨pe_callB (cr_max hc) hg hm boot_max h.pa (by decide) (by decide) he hpl, fun G hG => hG ▸ s_cb c_maxL (h.sim G hG)⟩
theorem q_all (hc : X.calm = true) (hm : X.mg "all" = none) (h : QA X [e] tA mA) (hg : Gl X "all" := by rfl) (he : starEach (e :: []) X.env = (false, eval e X.env) :: starEach [] X.env := by rfl) (hpl : (backTo pos (starEach [] X.env)).any (·.1) = false := by rfl) : QE X (.Call (.Name "all" p) [e] [] pos) (tCB (rAll X.K) tA) (eCB cAll mA) :=
  ⟨pe_callB (cr_all hc) hg hm (by decide +kernel) h.pa (by decide) (by decide) he hpl, fun G hG => hG ▸ s_cb c_all (h.sim G hG)⟩
theorem qn_list (hm : X.mg "list" = none) (h : QA X [e] tA mA) (hg : Gl X "list" := by rfl) (he : starEach (e :: []) X.env = (false, eval e X.env) :: starEach [] X.env := by rfl) (hpl : (backTo pos (starEach [] X.env)).any (·.1) = false := by rfl) : QN X (.Call (.Name "list" p) [e] [] pos) (tCB (fun xs H Q => ∃ p ys, xs = [.ref p] ∧ (SqL X.K H p ys ∨ SqT X.K H p ys) ∧ ∀ l, H l = none → Q (.ref l) (upd H l (.lst ys))) tA) (lCB cListOf mA) :=
  ⟨pe_callTy call_list_of hg hm boot_list h.pa (by decide) (by decide) he hpl, fun G hG => hG ▸ n_cb c_listOf (h.sim G hG)⟩
theorem q_tuple (hm : X.mg "tuple" = none) (h : QA X [e] tA mA) (hg : Gl X "tuple" := by rfl) (he : starEach (e :: []) X.env = (false, eval e X.env) :: starEach [] X.env := by rfl) (hpl : (backTo pos (starEach [] X.env)).any (·.1) = false := by rfl) : QE X (.Call (.Name "tuple" p) [e] [] pos) (tCB (fun xs H Q => ∃ p ys, xs = [.ref p] ∧ ((SqL X.K H p ys ∧ ∀ l, H l = none → Q (.ref l) (upd H l (.tup ys))) ∨ (SqT X.K H p ys ∧ Q (.ref p) H))) tA) (eCB cTupOf mA) :=
  ⟨pe_callTy call_tuple_of hg hm boot_tuple h.pa (by decide) (by decide) he hpl, fun G hG => hG ▸ s_cb c_tupOf (h.sim G hG)⟩
theorem q_isi {T : String} {x : Str} {p3 : Pos} (hm : X.mg "isinstance" = none) (hT : X.mg x = none) (hv : bootBuiltins x = some (.type T)) (h : QE X e te me) (hg : Gl X "isinstance" := by rfl) (hgx : Gl X x := by rfl) (hnx : x ≠ "__name__" := by decide) (hdx : (x == ("__debug__" : Str)) = false := by decide)
    (he : starEach (e :: [.Name x p3]) X.env = (false, eval e X.env) :: starEach [.Name x p3] X.env := by rfl) (he2 : starEach ((.Name x p3) :: []) X.env = (false, eval (.Name x p3) X.env) :: starEach [] X.env := by rfl) (hpl : (backTo pos (starEach [.Name x p3] X.env)).any (·.1) = false := by rfl) :
    QE X (.Call (.Name "isinstance" p) [e, .Name x p3] [] pos) (tCB (rIsi X.K) (tCons te (tCons (tC (.ty T)) tNil))) (eIsi me T) :=
  ⟨pe_callB call_isi hg hm boot_isinstance (pa_cons h.pe (pa_cons (pe_bltn (v := .ty T) hgx hT hv rfl hnx hdx) pa_nil he2) he) (by decide) (by decide) he hpl, fun G hG => hG ▸ s_isi (h.sim G hG)⟩
structure QTys (X : Cx) (es : List Expr) (Ts : List String) : Prop where
  pa : PA X es (tTys Ts)
theorem q_append {apos : Pos} (ho : QE X o to mo) (ha : QA X [e] tA mA) (hbase : attributeBase o "append" X.env (eval o X.env) = eval o X.env := by rfl)
    (hfew : ((backTo pos (starEach (e :: []) X.env)).all (fun x => !x.1) && (backToKw pos (keywordEach [] X.env)).all (fun x => x.1.isSome) && decide ((e :: []).length + ([] : List Keyword).length + (if ([] : List Keyword).isEmpty then 0 else 1) < 30)) = true := by rfl)
    (hline : (apos.endLine == pos.line) = true := by rfl) (hs : starEach (e :: []) X.env = (false, eval e X.env) :: starEach [] X.env := by rfl) (hplain : (backTo pos (starEach [] X.env)).any (·.1) = false := by rfl) :
    QE X (.Call (.Attribute o "append" apos) [e] [] pos) (tBM X.K "list" rAppend to tA) (eMethL mAppend mo mA) :=
  ⟨pe_bm PySem.F.plainAttrs_list PySem.F.slot_list_append PySem.F.type_list_append mt_append ho.pe ha.pa hbase hfew hline hs hplain, fun G hG => hG ▸ s_methL m_append (ho.sim G hG) (ha.sim G hG)⟩
theorem q_pop {apos : Pos} (ho : QE X o to mo) (hbase : attributeBase o "pop" X.env (eval o X.env) = eval o X.env := by rfl) (hline : (apos.endLine == pos.line) = true := by rfl) :
    QE X (.Call (.Attribute o "pop" apos) [] [] pos) (tBM0 X.K "list" rPop to) (eMethL mPop mo aNil) :=
  ⟨pe_bm0 PySem.F.plainAttrs_list PySem.F.slot_list_pop PySem.F.type_list_pop mt_pop ho.pe hbase hline, fun G hG => hG ▸ s_methL0 m_pop (ho.sim G hG)⟩
theorem q_callP {k n : Nat} {f : Addr} {fd : FuncData} {ps : List Str} {m : List PyData → Rp} {x : Str} (F : FnOk X.prog X.w X.K X.mg X.base CX0 k f fd ps (spP X.K n m)) (hr : Room k X.A) (hm : X.mg x = some (.ref f)) (hk : PySem.W.keepIn X.K (.ref f) = true) (hb : Binds X.K fd ps [])
    (ha : QA X (e :: es) tA mA) (hg : Gl X x := by rfl) (hdb : (x == ("__debug__" : Str)) = false := by decide) (he : starEach (e :: es) X.env = (false, eval e X.env) :: starEach es X.env := by rfl) (hpl : (backTo pos (starEach es X.env)).any (·.1) = false := by rfl) :
    QE X (.Call (.Name x p) (e :: es) [] pos) (tCall (spP X.K n m) [] E0 tA) (eCallP n m mA) :=
  ⟨pe_call F hr hg hm hk hb .nil pass0 ha.pa hdb he hpl, fun G hG => hG ▸ s_callP (ha.sim G hG)⟩
theorem q_callF {k n : Nat} {f : Addr} {fd : FuncData} {ps : List Str} {m : List PyData → Fl → Rf} {x : Str} (F : FnOk X.prog X.w X.K X.mg X.base CX0 k f fd ps (spF X.K n m)) (hr : Room k X.A) (hm : X.mg x = some (.ref f)) (hk : PySem.W.keepIn X.K (.ref f) = true) (hb : Binds X.K fd ps [])
    (ha : QA X (e :: es) tA mA) (hg : Gl X x := by rfl) (hdb : (x == ("__debug__" : Str)) = false := by decide) (he : starEach (e :: es) X.env = (false, eval e X.env) :: starEach es X.env := by rfl) (hpl : (backTo pos (starEach es X.env)).any (·.1) = false := by rfl) :
    QE X (.Call (.Name x p) (e :: es) [] pos) (tCall (spF X.K n m) [] E0 tA) (eCallF n m mA) :=
  ⟨pe_call F hr hg hm hk hb .nil pass0 ha.pa hdb he hpl, fun G hG => hG ▸ s_callF (ha.sim G hG)⟩
end
end NW
namespace NW
open PySem PySem.Spec PyProof.Rows L2
section
variable {X : Cx} {a b c e o i tg : Expr} {es : List Expr} {pos p p2 pos2 : Pos} {ta tb tc te to ti : TE} {ma mb mc me mo mi : ME} {t u : TT} {mt mu : MB} {tA : TA} {mA : MA}
theorem qi_any (h : QE X e te me) : QI X tg e (iAny X.K te) (mAny me) := ⟨pi_any h.pe, fun G hG => hG ▸ i_any (h.sim G hG)⟩
theorem qi_r1 (hm : X.mg "range" = none) (h : QA X [a] tA mA) (hg : Gl X "range" := by rfl) (hs : starEach [a] X.env = [(false, eval a X.env)] := by rfl) : QI X tg (.Call (.Name "range" p) [a] [] pos) (iRng1 tA) (mR1 mA) := ⟨pi_range1 hg hm h.pa hs, fun G hG => i_r1 (h.sim G hG)⟩
theorem qi_r2 (hm : X.mg "range" = none) (h : QA X [a, b] tA mA) (hg : Gl X "range" := by rfl) (hs : starEach [a, b] X.env = [(false, eval a X.env), (false, eval b X.env)] := by rfl) (hs2 : starEach [b] X.env = [(false, eval b X.env)] := by rfl) : QI X tg (.Call (.Name "range" p) [a, b] [] pos) (iRng2 tA) (mR2 mA) := ⟨pi_range2 hg hm h.pa hs hs2, fun G hG => i_r2 (h.sim G hG)⟩
theorem qi_rev (hm : X.mg "reversed" = none) (h : QE X e te me) (hg : Gl X "reversed" := by rfl) (hs : starEach [e] X.env = (false, eval e X.env) :: starEach [] X.env := by rfl) : QI X tg (.Call (.Name "reversed" p) [e] [] pos) (_root_.RT.iRevA X.K te) (mRev me) := ⟨_root_.RT.pi_revA hg hm h.pe hs, fun G hG => hG ▸ i_rev (h.sim G hG)⟩
theorem qg_name (i : Nat) {x : Str} (hN : X.N.Nodup) (hi : X.N[i]? = some x := by rfl) (hx : L2.Loc X.env.scope x := by first | exact Or.inl rfl | exact Or.inr rfl) (hf : X.fn x = true ∨ X.env.scope.names.lookup x = some .local := by first | exact .inl rfl | exact .inr rfl) : QG X [i] (.Name x pos) (gName i) (gNameM i) := ⟨pg_name hN hi hx hf, fun G _ => g_name i⟩
theorem qgs_nil : QGs X [] [] gNil gNilM := ⟨pgs_nil, fun _ _ => g_nil, gNil_noEx⟩
theorem qgs_cons {vs ws : List Nat} {g : TG} {gs : TGs} {m : MT} {ms : MTs} (h1 : QG X vs e g m) (n1 : ∀ u l st, (m u l st).noEx) (h2 : QGs X ws es gs ms) (hs : (assignEach (e :: es) X.env).map (·.2) = assign e X.env :: (assignEach es X.env).map (·.2) := by rfl) : QGs X (vs ++ ws) (e :: es) (gCons g gs) (gConsM m ms) :=
  ⟨pgs_cons h1.pg h2.pgs hs, fun G h => g_cons (h1.sim G h) (h2.sim G h) h2.ne, gCons_noEx n1 h2.ne⟩
theorem qg_tup {vs : List Nat} {gs : TGs} {ms : MTs} {k : Nat} {n : Nat} (hc : X.calm = true) (h : QGs X vs es gs ms) (hn : (assignEach es X.env).length = n := by rfl) (hst : (assignEach es X.env).findIdx? (·.1) = none := by rfl) : QG X vs (.Tuple es k pos) (gTup X.K n gs) (gTupM n ms) := ⟨pg_tup hc h.pgs hn hst, fun G hG => hG ▸ g_tup (h.sim G hG)⟩
theorem qg_sub (ho : QE X o to mo) (hi : QE X i ti mi) (ha : ∀ v, assign (.Subscript o i pos) X.env v = (do
      let ov ← holding [v] (eval o X.env)
      let iv ← holding [v, ov] (eval i X.env)
      standAt pos
      holding [v, ov, iv] (setItem ov iv v)
      release [v, ov, iv] []) := by intro _; rfl) : QG X [] (.Subscript o i pos) (gSub to ti rSetL) (gSubM mo mi) := ⟨pg_sub ho.pe hi.pe set_list ha, fun G hG => g_sub (ho.sim G hG) (hi.sim G hG)⟩
variable {s : Stmt} {rest body : List Stmt} {ts us : TS} {m n : MS}
theorem qss_nil : QSs X [] tNext sNext := ⟨pss_nil, fun _ _ => t_next⟩
theorem qss_cons (h1 : QS X s ts m) (h2 : QSs X rest us n) : QSs X (s :: rest) (tSeq ts us) (sSeq m n) := ⟨pss_cons h1.ps h2.pss, fun G h => t_seq (h1.sim G h) (h2.sim G h)⟩
theorem qss_one (h1 : QS X s ts m) : QSs X [s] ts m := ⟨pss_one h1.ps, h1.sim⟩
theorem qs_set (i : Nat) {x : Str} (hN : X.N.Nodup) (he : QE X e te me) (hi : X.N[i]? = some x := by rfl) (hx : L2.Loc X.env.scope x := by first | exact Or.inl rfl | exact Or.inr rfl) (hs : swapsWith e (some (.Name x p2)) pos.line X.env = pure false := by rfl)
    (hf : X.fn x = true ∨ X.env.scope.names.lookup x = some .local := by first | exact .inl rfl | exact .inr rfl) : QS X (.Assign [.Name x p2] e pos) (tAsg te (gName i)) (sAsg i me) := ⟨ps_set hN hi hx he.pe hs hf, fun G h => t_asg (he.sim G h)⟩
theorem qs_asg {vs : List Nat} {g : TG} {mg' : MT} (he : QE X e te me) (hg : QG X vs tg g mg') (hs : swapsWithSole [tg] e pos.line X.env = pure false := by rfl) (hw : swappedStores [tg] e X.env = pure none := by rfl) (h1 : (assignEach [tg] X.env).map (·.2) = [assign tg X.env] := by rfl) :
    QS X (.Assign [tg] e pos) (tAsg te g) (sAsgG me mg') := ⟨ps_asg he.pe hg.pg hs hw h1, fun G h => t_asgG (he.sim G h) (hg.sim G h)⟩
theorem qs_par (i j : Nat) {x y : Str} {px py pt : Pos} {kt k2 : Nat} {pt2 : Pos} (hc : X.calm = true) (hN : X.N.Nodup) (ha : QA X [a, b] tA mA) (hij : i ≠ j := by decide) (hi : X.N[i]? = some x := by rfl) (hj : X.N[j]? = some y := by rfl) (hx : X.env.scope.names.lookup x = some .local := by rfl) (hy : X.env.scope.names.lookup y = some .local := by rfl)
    (hw : swappedStores [.Tuple [.Name x px, .Name y py] kt pt] (.Tuple [a, b] k2 pt2) X.env = pure (some [x, y]) := by rfl) (hs : swapsWithSole [.Tuple [.Name x px, .Name y py] kt pt] (.Tuple [a, b] k2 pt2) pos.line X.env = pure false := by rfl) :
    QS X (.Assign [.Tuple [.Name x px, .Name y py] kt pt] (.Tuple [a, b] k2 pt2) pos) (tPar i j tA) (sPar i j mA) := ⟨ps_par hc hN hi hj hij hx hy ha.pa hw hs, fun G h => t_par (ha.sim G h)⟩
theorem qs_expr (he : QE X e te me) (hs : swapsWith e none pos.line X.env = pure false := by rfl) : QS X (.Expr e pos) (tDrop te) (sDrop me) := ⟨ps_expr he.pe hs, fun G h => t_drop (he.sim G h)⟩
theorem qs_ret (he : QE X e te me) : QS X (.Return (some e) pos) (tRet te) (sRet me) := ⟨ps_ret he.pe, fun G h => t_ret (he.sim G h)⟩
theorem qs_if {ct : TT} {cm : MB} {x y : List Stmt} (hc : QT X c ct cm) (ha : QSs X x ts m) (hb : QSs X y us n) : QS X (.If c x y pos) (tIfS ct ts us) (sIf cm m n) := ⟨ps_if hc.pt ha.pss hb.pss, fun G h => t_if (hc.sim G h) (ha.sim G h) (hb.sim G h)⟩
theorem qs_while {ct : TT} {cm : MB} (hp : PassesOwn (model X.prog X.w) X.A X.env X.xe) (hc : QT X c ct cm) (hb : QSs X body ts m) : QS X (.While c body [] pos) (tWhile ct ts) (sWhile cm m) := ⟨ps_while hp hc.pt hb.pss, fun G h => t_while (hc.sim G h) (hb.sim G h)⟩
theorem qs_for {wi : TI} {im : MI} {vs : List Nat} {g : TG} {gm : MT} (hp : PassesOwn (model X.prog X.w) X.A X.env X.xe) (hc : X.calm = true) (hi : QI X tg e wi im) (hg : QG X vs tg g gm) (hb : QSs X body ts m) (hs : ∀ x, foldedSetIterable e X.env x = pure x := by intro _; rfl) :
    QS X (.For tg e body [] pos) (tFor wi g ts) (sFor im gm m) := ⟨ps_for hp hc hi.pi hg.pg hb.pss hs, fun G h => t_for (hi.sim G h) (hg.sim G h) (hb.sim G h)⟩
structure QTs (X : Cx) (ifs : List Expr) (t : TT) (m : MB) : Prop where
  pts : PTs X ifs t
  sim : ∀ G : Gx, G.K = X.K → SimT G t m
def bYes : MB := fun _ st => .ok true st
theorem qts_nil : QTs X [] tYes bYes := ⟨pts_nil, fun G _ β H σ l st re Q h => wpR_b re.rl h⟩
theorem qn_lc {elt tg iter : Expr} {ifs : List Expr} {scope : Scope} (own : List (Str × Nat)) {wi : TI} {g : TG} {tt : TT} {te : TE} {im : MI} {ws : List Nat} {gm : MT} {cm : MB} {em : ME} (hc : X.calm = true) (hN : X.N.Nodup) (hi : QI X tg iter wi im)
    {N : List Str} {sc : Scope} (hNN : X.N = N) (hss : X.env.scope = sc) (ok : blkC N sc scope own = true)
    (hg : ∀ (s : Shared) (H : Hp) (C : Addr) (cl : List (Str × Addr)) (fp : List Addr), QG (X.blk s H scope (compEnvC scope cl C X.env) fp) ws tg g gm)
    (ht : ∀ (s : Shared) (H : Hp) (C : Addr) (cl : List (Str × Addr)) (fp : List Addr), QTs (X.blk s H scope (compEnvC scope cl C X.env) fp) ifs tt cm)
    (he : ∀ (s : Shared) (H : Hp) (C : Addr) (cl : List (Str × Addr)) (fp : List Addr), QE (X.blk s H scope (compEnvC scope cl C X.env) fp) elt te em)
    (hsub : ∀ i ∈ ws, i ∈ own.map (·.2)) (hs : ∀ x, foldedSetIterable iter X.env x = pure x := by intro _; rfl) :
    QN X (.ListComp elt [⟨tg, iter, ifs, 0⟩] scope pos) (tLc wi g tt te (own.map (·.2))) (lLc im (own.map (·.2)) gm cm em) :=
  ⟨pe_lc hc hN hi.pi (by rw [hNN, hss]; exact blkOk_by ok) (fun s H C cl fp => (hg s H C cl fp).pg) (fun s H C cl fp => (ht s H C cl fp).pts) (fun s H C cl fp => (he s H C cl fp).pe) hs,
    fun G h => n_lc (hi.sim G h) (fun D => (hg X.s_0 (fun _ => none) 0 [] []).sim (G.ban D) h) hsub (fun D => (ht X.s_0 (fun _ => none) 0 [] []).sim (G.ban D) h) (fun D => (he X.s_0 (fun _ => none) 0 [] []).sim (G.ban D) h)⟩
theorem qs_setLc {elt tg iter : Expr} {ifs : List Expr} {scope : Scope} {y : Str} {py : Pos} (iy : Nat) (own : List (Str × Nat)) (fz : Bool) {wi : TI} {g : TG} {tt : TT} {te : TE} {im : MI} {ws : List Nat} {gm : MT} {cm : MB} {em : ME} (hc : X.calm = true) (hN : X.N.Nodup)
    (hsw : swapsWith (.ListComp elt [⟨tg, iter, ifs, 0⟩] scope pos) (some (.Name y py)) pos2.line X.env = pure true) (hi : QI X tg iter wi im)
    {N : List Str} {sc : Scope} (hNN : X.N = N) (hss : X.env.scope = sc) (ok : blkC N sc scope own = true)
    (hg : ∀ (s : Shared) (H : Hp) (C : Addr) (cl : List (Str × Addr)) (fp : List Addr), QG (X.blk s H scope (compEnvC scope cl C X.env) fp) ws tg g gm)
    (ht : ∀ (s : Shared) (H : Hp) (C : Addr) (cl : List (Str × Addr)) (fp : List Addr), QTs (X.blk s H scope (compEnvC scope cl C X.env) fp) ifs tt cm)
    (he : ∀ (s : Shared) (H : Hp) (C : Addr) (cl : List (Str × Addr)) (fp : List Addr), QE (X.blk s H scope (compEnvC scope cl C X.env) fp) elt te em)
    (hsub : ∀ i ∈ ws, i ∈ own.map (·.2)) (hyi : X.N[iy]? = some y := by rfl) (hyl : X.env.scope.names.lookup y = some .local := by rfl) (hs : ∀ x, foldedSetIterable iter X.env x = pure x := by intro _; rfl) :
    QS X (.Assign [.Name y py] (.ListComp elt [⟨tg, iter, ifs, 0⟩] scope pos) pos2) (tAsg (tLc wi g tt te (own.map (·.2))) (gName iy)) (sAsg iy (if fz = true then eFrz (lLc im (own.map (·.2)) gm cm em) else eOwn (lLc im (own.map (·.2)) gm cm em))) :=
  ⟨ps_setLc hc hN hyi hyl hsw hi.pi (by rw [hNN, hss]; exact blkOk_by ok) (fun s H C cl fp => (hg s H C cl fp).pg) (fun s H C cl fp => (ht s H C cl fp).pts) (fun s H C cl fp => (he s H C cl fp).pe) hs,
    fun G h => t_asg (by
      have z := n_lc (hi.sim G h) (fun D => (hg X.s_0 (fun _ => none) 0 [] []).sim (G.ban D) h) hsub (fun D => (ht X.s_0 (fun _ => none) 0 [] []).sim (G.ban D) h) (fun D => (he X.s_0 (fun _ => none) 0 [] []).sim (G.ban D) h)
      cases fz with
      | true => exact s_frz z
      | false => exact s_own z)⟩
end
end NW
namespace NW
open PySem PySem.Spec PyProof.Rows L2
section
variable {G : Gx} {β β' : List Addr} {st st' : Sto} {H H' : Hp} {v : V} {u : U} {σ σ' : L2.St} {l l' : Loc}
def rAddS : R2 := fun x y H Q => ∃ i j, x = .str i ∧ y = .str j ∧ i.length + j.length ≤ sizeLine ∧ Q (.str (i ++ j)) H
def rAddA (K : PySem.W.Frag) : R2 := fun x y H Q => (rI0 (fun i j => .int (i + j)) x y H Q ∨ rAddS x y H Q) ∨ (rCatA K x y H Q ∨ rCat x y H Q)
theorem op_addA {X : Cx} : OpR X (binaryOp .Add) (rAddA X.K) := (op_add.or op_add_str).or (op_catA.or op_cat)
def fAddA : U → U → Sto → Res U := fun a b st => match a, b with
  | .d (.int i), .d (.int j) => .ok (.d (.int (i + j))) st
  | .d (.str x), .d (.str y) => if lenOk (x.length + y.length) = true then .ok (.d (.str (x ++ y))) st else .no
  | .d (.tuple xs), .d (.tuple ys) => if lenOk (xs.length + ys.length) = true then .ok (.d (.tuple (xs ++ ys))) st else .no
  | a, b => (match listOf st a, listOf st b with
    | some xs, some ys => if lenOk (xs.length + ys.length) = true then .ok (.d (.list (xs ++ ys))) st else .no
    | _, _ => .no)
theorem r_addA : SimR G (rAddA G.K) fAddA := fun β H σ l st re x y a b Q hx hy h => by
  unfold fAddA at h
  split at h
  · rename_i i j
    cases ru_int hx; cases ru_int hy
    exact .inl (.inl ⟨i, j, rfl, rfl, wpR_d re.rl (.int _) h⟩)
  · rename_i i j
    cases ru_str hx; cases ru_str hy
    split at h
    · rename_i q
      exact .inl (.inr ⟨i, j, rfl, rfl, of_decide_eq_true q, wpR_d re.rl (.str _) h⟩)
    · exact h.elim
  · rename_i xs ys
    split at h
    · rename_i q
      obtain ⟨p, vs, rfl, s1, r1⟩ := tup_q hx (xs := xs) rfl
      obtain ⟨p', ws, rfl, s2, r2⟩ := tup_q hy (xs := ys) rfl
      refine .inr (.inl ⟨p, p', vs, ws, rfl, rfl, s1, s2, by rw [r1.len, r2.len]; exact of_decide_eq_true q, fun e => ?_, fun e1 e => ?_, fun e1 e2 z hz => ?_⟩)
      · subst e
        have e0 : xs = [] := by have := r1.len; simp at this; exact List.eq_nil_of_length_eq_zero this.symm
        subst e0
        exact wpR_u re.rl hy h
      · subst e
        have e0 : ys = [] := by have := r2.len; simp at this; exact List.eq_nil_of_length_eq_zero this.symm
        subst e0
        rw [List.append_nil] at h
        exact wpR_u re.rl hx h
      · obtain ⟨f4, rl4, rt⟩ := new_tup re.rl hz (r1.append r2)
        exact h _ _ β f4 rl4 rt
    · exact h.elim
  · split at h
    · rename_i xs ys e1 e2
      split at h
      · rename_i q
        obtain ⟨p, vs, rfl, h1, r1⟩ := list_h re.rl hx e1
        obtain ⟨p', ws, rfl, h2, r2⟩ := list_h re.rl hy e2
        refine .inr (.inr ⟨p, p', vs, ws, rfl, rfl, h1, h2, by rw [r1.len, r2.len]; exact of_decide_eq_true q, fun z hz => ?_⟩)
        obtain ⟨f4, rl4, rt⟩ := new_lst re.rl hz (r1.append r2)
        exact h _ _ β f4 rl4 rt
      · exact h.elim
    · exact h.elim
theorem tuple_mul1 (l : Addr) (items : Array Value) (n : Nat) (dd : Option Addr) (sl : Array (Option Value)) (x : Int) (u : Tok) (c0 : (decide (x < -(2 ^ 63)) || decide (x ≥ 2 ^ 63)) = false) (c1 : (items.isEmpty || x == 1) = true) :
    Meets (Builtin.«tuple.__mul__» ⟨[.ref l, .int x u], []⟩) (fun _ R s => s.heap.get? l = some { cls := .type "tuple", dict := dd, data := .seq items n, slots := sl } ∧ R (.ok (.ret (Value.ref l))) s) :=
  .of_wp fun prog w A R s h => by
    obtain ⟨hp, g, d, tk, os⟩ := s
    obtain ⟨hl, h⟩ := h
    have f1 := AutoSeq1.idx_int
    wp_walk using wpAny_loadPart' hl
    repeat (first
      | (refine wpAny_ite_false (decide_eq_false (by rw [c0]; exact Bool.false_ne_true)) ?_; wp_walk using wpAny_loadPart' hl)
      | (refine wpAny_ite_true (decide_eq_true c1) ?_; wp_walk using wpAny_loadPart' hl))
    exact ⟨_, rfl, h⟩
def rRep1T (K : PySem.W.Frag) : R2 := fun x y H Q => ∃ l k xs, x = .ref l ∧ y = .int k ∧ SqT K H l xs ∧ (xs = [] ∨ k = 1) ∧ -(2 ^ 62) ≤ k ∧ k < 2 ^ 62 ∧ Q (.ref l) H
theorem op_rep1T {X : Cx} : OpR X (binaryOp .Mult) (rRep1T X.K) := by
  intro pins s σ H x y v u Q I rx ry h
  obtain ⟨l, k, xs, rfl, rfl, hT, h1, h2, h3, q⟩ := h
  cases rx
  obtain ⟨t, rfl⟩ := ry
  obtain ⟨its, r, ⟨⟨cls, dd, data, sl⟩, ho, hc, n, hd⟩, hs⟩ := I.tuple hT
  simp only at hc hd
  subst hc hd
  have hle : its.length = xs.length := r.length.symm
  have c0 : (decide (k < -(2 ^ 63)) || decide (k ≥ 2 ^ 63)) = false := by
    rw [decide_eq_false (by omega), decide_eq_false (by omega)] <;> rfl
  have c1 : (its.toArray.isEmpty || k == 1) = true := by
    rcases h1 with h1 | h1
    · have : its = [] := List.eq_nil_of_length_eq_zero (by rw [hle, h1]; rfl)
      rw [this]; rfl
    · rw [h1]; simp
  exact wpAny_binaryOp_repeat_ref (T := "tuple") (U := "int") (by decide) ⟨_, ho, rfl⟩ (fun s' => typeIs_int s' k t) noFill_tuple_mul F.fills_int_mul F.slot_int_rmul repeat_tuple F.slot_int_index.lookup
    (call_meets F.slot_int_rmul (typeIs_int s k t) F.entry_int_rmul (F.args_int_rmul_2 _ _) (int_rmul_tuple k t l its.toArray n dd sl)
      ⟨ho, rfl, ⟨_, ho, rfl⟩, call_meets F.slot_tuple_mul ⟨_, ho, rfl⟩ F.entry_tuple_mul (F.args_tuple_mul_2 _ _) (tuple_mul1 l its.toArray n dd sl k t c0 c1) ⟨ho, ⟨.ref l, H, I, rfl, q⟩⟩⟩)
def rMulA (K : PySem.W.Frag) : R2 := fun x y H Q => (rI CMulW (fun i j => .int (i * j)) x y H Q ∨ rRep x y H Q) ∨ (rRepT K x y H Q ∨ rRep1T K x y H Q)
theorem op_mulA {X : Cx} : OpR X (binaryOp .Mult) (rMulA X.K) := (op_mulW.or op_rep).or (op_repT.or op_rep1T)
def fMulA : U → U → Sto → Res U := fun a b st => match a, b with
  | .d (.int i), .d (.int j) => if mulC i j = true then .ok (.d (.int (i * j))) st else .no
  | .d (.tuple xs), .d (.int k) => if decide (2 ≤ k ∧ k ≤ 1000 ∧ xs.length ≤ 1000 ∧ xs ≠ []) = true then .ok (.d (.tuple (List.replicate k.toNat xs).flatten)) st
    else if decide ((xs = [] ∨ k = 1) ∧ -(2 ^ 62) ≤ k ∧ k < 2 ^ 62) = true then .ok (.d (.tuple xs)) st else .no
  | a, .d (.int k) => (match listOf st a with
    | some xs => if (decide (-(2 ^ 63) ≤ k ∧ k < 2 ^ 63) && lenOk (xs.length * k.toNat)) = true then .ok (.d (.list (List.replicate k.toNat xs).flatten)) st else .no
    | none => .no)
  | _, _ => .no
theorem r_mulA : SimR G (rMulA G.K) fMulA := fun β H σ l st re x y a b Q hx hy h => by
  unfold fMulA at h
  split at h
  · rename_i i j
    cases ru_int hx; cases ru_int hy
    split at h
    · rename_i q
      have q' := of_decide_eq_true q
      exact .inl (.inl ⟨i, j, rfl, rfl, q', wpR_d re.rl (.int _) h⟩)
    · exact h.elim
  · rename_i xs k
    cases ru_int hy
    obtain ⟨p, vs, rfl, s1, r1⟩ := tup_q hx (xs := xs) rfl
    split at h
    · rename_i q
      have q := of_decide_eq_true q
      refine .inr (.inl ⟨p, k, vs, rfl, rfl, s1, fun e => q.2.2.2 (List.eq_nil_of_length_eq_zero (by rw [← r1.len, e]; rfl)), q.1, q.2.1, by rw [r1.len]; exact q.2.2.1, fun z hz => ?_⟩)
      obtain ⟨f4, rl4, rt⟩ := new_tup re.rl hz (rts_rep r1 k.toNat)
      exact h _ _ β f4 rl4 rt
    · split at h
      · rename_i q
        have q := of_decide_eq_true q
        refine .inr (.inr ⟨p, k, vs, rfl, rfl, s1, q.1.imp (fun e => List.eq_nil_of_length_eq_zero (by rw [r1.len, e]; rfl)) id, q.2.1, q.2.2, ?_⟩)
        exact wpR_u re.rl hx h
      · exact h.elim
  · rename_i k _ _
    cases ru_int hy
    split at h
    · rename_i xs e1
      split at h
      · rename_i q
        rw [Bool.and_eq_true] at q
        obtain ⟨p, vs, rfl, h1, r1⟩ := list_h re.rl hx e1
        have q1 := of_decide_eq_true q.1
        refine .inl (.inr ⟨p, k, vs, rfl, rfl, h1, q1.1, q1.2, by rw [r1.len]; exact of_decide_eq_true q.2, fun z hz => ?_⟩)
        obtain ⟨f4, rl4, rt⟩ := new_lst re.rl hz (rts_rep r1 _)
        exact h _ _ β f4 rl4 rt
      · exact h.elim
    · exact h.elim
  · exact h.elim
def rSlAny (K : PySem.W.Frag) : V → Option Int → Option Int → Hp → VK → Prop := fun x lo hi H Q => (rSlL K x lo hi H Q ∨ rSlA K x lo hi H Q) ∨ rSlS x lo hi H Q
theorem sl_any {X : Cx} : SlR X (rSlAny X.K) := (sl_list.or sl_tupA).or sl_str
def fSl (u : U) (a b : Option Int) (st : Sto) : Res U := match u with
  | .d (.tuple xs) => .ok (.d (.tuple (cutD xs a b))) st
  | .d (.str z) => if lenOk z.length = true then .ok (.d (.str (cutS z a b))) st else .no
  | u => (match listOf st u with
    | some xs => .ok (.d (.list (cutD xs a b))) st
    | none => .no)
def eSlAny (m : ME) (lo hi : MO) : ME := fun l st => (m l st).bind fun u st => (lo l st).bind fun a st => (hi l st).bind fun b st => fSl u a b st
theorem s_slAny {t : TE} {tl th : TO} {m : ME} {lo hi : MO} (h : SimE G t m) (h1 : SimO G tl lo) (h2 : SimO G th hi) : SimE G (tSl (rSlAny G.K) t tl th) (eSlAny m lo hi) := fun β H σ l st re Q q => by
  refine h β H σ l st re _ (wpR_bind q fun v u H1 β1 st1 f1 rl1 p1 q1 => ?_)
  have re1 := f1.re rl1 re
  refine h1 β1 H1 σ l st1 re1 _ (wpR_bind q1 fun a a' H2 β2 st2 f2 rl2 p2 q2 => ?_)
  cases (show a = a' from p2)
  have re2 := f2.re rl2 re1
  refine h2 β2 H2 σ l st2 re2 _ (wpR_bind q2 fun b b' H3 β3 st3 f3 rl3 p3 q3 => ?_)
  cases (show b = b' from p3)
  have p4 := f3.ru (f2.ru p1)
  unfold fSl at q3
  split at q3
  · rename_i xs
    obtain ⟨p, vs, rfl, s, r⟩ := tup_q p4 (xs := xs) rfl
    refine .inl (.inr ⟨p, vs, rfl, s, fun w => ?_, fun w z hz => ?_⟩)
    · rw [r.len] at w
      rw [cut_whole w] at q3
      exact wpR_u rl3 p4 q3
    · obtain ⟨f4, rl4, rt⟩ := new_tup rl3 hz (r.cut a b)
      exact q3 _ _ β3 f4 rl4 rt
  · rename_i z
    cases ru_str p4
    split at q3
    · rename_i hz
      exact .inr ⟨z, rfl, of_decide_eq_true hz, wpR_d rl3 (.str _) q3⟩
    · exact q3.elim
  · split at q3
    · rename_i xs e
      obtain ⟨p, vs, rfl, s, r⟩ := list_q rl3 p4 e
      refine .inl (.inl ⟨p, vs, rfl, s, fun z hz => ?_⟩)
      obtain ⟨f4, rl4, rt⟩ := new_lst rl3 hz (r.cut a b)
      exact q3 _ _ β3 f4 rl4 rt
    · exact q3.elim
end
section
variable {X : Cx} {a b c e o i : Expr} {es : List Expr} {pos p pos2 : Pos} {ta tb tc te to ti : TE} {ma mb mc me mo mi : ME} {t u : TT} {mt mu : MB} {tA : TA} {mA : MA}
theorem q_addA (ha : QE X a ta ma) (hb : QE X b tb mb) : QE X (.BinOp a .Add b pos) (tOp (rAddA X.K) ta tb) (eOp fAddA ma mb) := ⟨pe_op op_addA ha.pe hb.pe, fun G h => h ▸ s_op r_addA (ha.sim G h) (hb.sim G h)⟩
theorem q_mulA (ha : QE X a ta ma) (hb : QE X b tb mb) : QE X (.BinOp a .Mult b pos) (tOp (rMulA X.K) ta tb) (eOp fMulA ma mb) := ⟨pe_op op_mulA ha.pe hb.pe, fun G h => h ▸ s_op r_mulA (ha.sim G h) (hb.sim G h)⟩
theorem q_slA {lo hi : Option Expr} {tl th : TO} {ml mh : MO} (he : QE X e te me) (hl : QO X lo tl ml) (hh : QO X hi th mh) : QE X (.Subscript e (.Slice lo hi none pos2) pos) (tSl (rSlAny X.K) te tl th) (eSlAny me ml mh) := ⟨pe_slice sl_any he.pe hl.po hh.po, fun G h => h ▸ s_slAny (he.sim G h) (hl.sim G h) (hh.sim G h)⟩
end
abbrev rNegI : V → Hp → VK → Prop := rU fun i => .int (-i)
abbrev rDivI : R2 := rI CDivA fun i j => .int (i.fdiv j)
abbrev rGtI : R2 := rI0 fun i j => .bl (decide (j < i))
abbrev rAbsA : List V → Hp → VK → Prop := fun xs H Q => ∃ i, xs = [.int i] ∧ Q (.int (if i < 0 then -i else i)) H
abbrev rIntA : List V → Hp → VK → Prop := fun xs H Q => (∃ i, xs = [.int i] ∧ Q (.int i) H) ∨ ∃ k, xs = [.bl k] ∧ Q (.int (if k then 1 else 0)) H
structure DefIn (K : PySem.W.Frag) (mg : Str → Option Value) (x : Str) (st : Stmt) (ps : List Str) : Prop where
  ex : ∃ f fd, Fun K x x st f fd ∧ mg x = some (.ref f) ∧ Binds K fd ps []
structure Cal (P : Program) (w : World) (K : PySem.W.Frag) (mg : Str → Option Value) (base : Heap) (k : Nat) (x : Str) (ps : List Str) (sp : Sp) : Prop where
  ex : ∃ f fd, FnOk P w K mg base CX0 k f fd ps sp ∧ mg x = some (.ref f) ∧ PySem.W.keepIn K (.ref f) = true ∧ Binds K fd ps []
structure ConIn (K : PySem.W.Frag) (mg : Str → Option Value) (x : Str) (d : PyData) : Prop where
  ex : ∃ u v, mg x = some u ∧ IsC K u v d
section
variable {P : Program} {w : World} {K : PySem.W.Frag} {mg : Str → Option Value} {base : Heap} {N ps : List Str} {x : Str} {st : Stmt} {k : Nat} {b : MS}
theorem calP (D : DefIn K mg x st ps) (S : FnScope N ps (defScope st)) (hN : ps.length ≤ N.length)
    (hb : ∀ (f : Addr) (cdv : Value) (A : Around) (outer : List Env) (s : Shared) (H : Hp) (E : XK), Room k (A.deeper (envOfC x (defScope st) s.heap.objs.size f cdv)) →
      ∃ t, QSs (cxOf CX0 P w K mg base N x (defScope st) f cdv A outer s H E).nox (defBody st) t b) : Cal P w K mg base (k + 1) x ps (spP K ps.length (pureOf N.length b)) := by
  obtain ⟨f, fd, F, hm, hb'⟩ := D.ex
  refine ⟨f, fd, okP F S hN (fun cdv A outer s H E hr => ?_), hm, F.kp, hb'⟩
  obtain ⟨t, h⟩ := hb f cdv A outer s H E hr
  exact ⟨t, h.pss, fun G hG => h.sim G hG⟩
theorem calF (D : DefIn K mg x st ps) (S : FnScope N ps (defScope st)) (hN : ps.length ≤ N.length)
    (hb : ∀ (f : Addr) (cdv : Value) (A : Around) (outer : List Env) (s : Shared) (H : Hp) (E : XK), Room k (A.deeper (envOfC x (defScope st) s.heap.objs.size f cdv)) →
      ∃ t, QSs (cxOf CX0 P w K mg base N x (defScope st) f cdv A outer s H E).nox (defBody st) t b) : Cal P w K mg base (k + 1) x ps (spF K ps.length (flowOf N.length b)) := by
  obtain ⟨f, fd, F, hm, hb'⟩ := D.ex
  refine ⟨f, fd, okF F S hN (fun cdv A outer s H E hr => ?_), hm, F.kp, hb'⟩
  obtain ⟨t, h⟩ := hb f cdv A outer s H E hr
  exact ⟨t, h.pss, fun G hG => h.sim G hG⟩
end
section
variable {X : Cx} {e : Expr} {es : List Expr} {pos p : Pos} {tA : TA} {mA : MA}
theorem q_calP {k j n : Nat} {ps : List Str} {m : List PyData → Rp} {x : Str} (C : Cal X.prog X.w X.K X.mg X.base k x ps (spP X.K n m)) (hr : Room j X.A) (hkj : k ≤ j) (ha : QA X (e :: es) tA mA) (hg : Gl X x := by rfl) (hdb : (x == ("__debug__" : Str)) = false := by decide)
    (he : starEach (e :: es) X.env = (false, eval e X.env) :: starEach es X.env := by rfl) (hpl : (backTo pos (starEach es X.env)).any (·.1) = false := by rfl) :
    QE X (.Call (.Name x p) (e :: es) [] pos) (tCall (spP X.K n m) [] E0 tA) (eCallP n m mA) := by
  obtain ⟨f, fd, F, hm, hk, hb⟩ := C.ex
  exact q_callP F (hr.mono hkj) hm hk hb ha hg hdb he hpl
theorem q_calF {k j n : Nat} {ps : List Str} {m : List PyData → Fl → Rf} {x : Str} (C : Cal X.prog X.w X.K X.mg X.base k x ps (spF X.K n m)) (hr : Room j X.A) (hkj : k ≤ j) (ha : QA X (e :: es) tA mA) (hg : Gl X x := by rfl) (hdb : (x == ("__debug__" : Str)) = false := by decide)
    (he : starEach (e :: es) X.env = (false, eval e X.env) :: starEach es X.env := by rfl) (hpl : (backTo pos (starEach es X.env)).any (·.1) = false := by rfl) :
    QE X (.Call (.Name x p) (e :: es) [] pos) (tCall (spF X.K n m) [] E0 tA) (eCallF n m mA) := by
  obtain ⟨f, fd, F, hm, hk, hb⟩ := C.ex
  exact q_callF F (hr.mono hkj) hm hk hb ha hg hdb he hpl
end
end NW
namespace NW
open PySem PySem.Spec PyProof.Rows L2
def fl0 (ns : List Int) : Fl := ⟨ns, 0, 0, 1, 0⟩
def spFl (K : PySem.W.Frag) : Sp := fun vs H Q _ => ∃ (a : Addr) (ns : List Int), vs = [.ref a] ∧ SqL K H a (ns.map V.int) ∧
  ∀ H' fa fb, (∀ b o, H b = some o → H' b = some o) → H fa = none → fb ≠ fa → H' fa = some (.lst (flV fb (fl0 ns))) → H' fb = some (.lst (ns.map V.int)) → Q (.ref fa) H'
def spLaw (K : PySem.W.Frag) : Sp := fun vs H Q _ => ∃ (a : Addr) (ns : List Int), vs = [.ref a] ∧ SqL K H a (ns.map V.int) ∧ ns.length ≤ 63 ∧ ∀ H', Q (.bl true) H'
section
variable {P : Program} {w : World} {K : PySem.W.Frag} {mg : Str → Option Value} {base : Heap} {N ps : List Str} {x : Str} {st : Stmt} {k : Nat} {b : MS}
theorem calFl (D : DefIn K mg x st ps) (S : FnScope N ps (defScope st)) (hps : ps.length = 1) (hN : ps.length ≤ N.length)
    (hsem : ∀ ns, b (startL N.length [.scr ns]) ⟨none, []⟩ = .rt (.ref 0) ⟨none, [.lst [.list (ns.map .int), .int 0, .int 0, .int 1, .int 0]]⟩)
    (hb : ∀ (f : Addr) (cdv : Value) (A : Around) (outer : List Env) (s : Shared) (H : Hp) (E : XK), Room k (A.deeper (envOfC x (defScope st) s.heap.objs.size f cdv)) →
      ∃ t, QSs (cxOf CX0 P w K mg base N x (defScope st) f cdv A outer s H E).nox (defBody st) t b) : Cal P w K mg base (k + 1) x ps (spFl K) := by
  obtain ⟨f, fd, F, hm, hb'⟩ := D.ex
  refine ⟨f, fd, F.ok S (fun vs H Q E h => ?_) (fun cdv A outer s H vs Q E hr h => ?_), hm, F.kp, hb'⟩
  · obtain ⟨a, ns, rfl, _⟩ := h
    exact hps.symm
  · obtain ⟨a, ns, rfl, hS, q⟩ := h
    obtain ⟨t, h⟩ := hb f cdv A outer s H E hr
    refine ⟨t, h.pss, ?_⟩
    have own0 : ∀ b, ¬ Own ⟨K, 0, 0, fun _ => False, fun _ => none, fun _ _ _ _ => False⟩ [] ⟨none, []⟩ b := fun b h => by
      rcases h with ⟨h, _⟩ | ⟨i, xs, h, _⟩
      · cases h
      · simp at h
    have re : Re ⟨K, 0, 0, fun _ => False, fun _ => none, fun _ _ _ _ => False⟩ [] H (L2.start N [.ref a]) (startL N.length [.scr ns]) ⟨none, []⟩ := by
      refine ⟨⟨rfl, .nil, fun p hp => by simp at hp, fun i xs h => by simp at h, fun f h => (by cases h), fun p hp => hp.elim⟩, ⟨start_len N rfl (by simp; omega), fun i u e => ?_⟩⟩
      have e1 := start_get N (vs := [.ref a]) e
      cases i with
      | succ i => simp at e1
      | zero =>
        simp at e1; subst e1
        refine ⟨.ref a, start_getV N rfl, a, rfl, hS.imp (fun z => ⟨z, fun w => w.elim id (own0 a)⟩) id⟩
    refine h.sim ⟨K, 0, 0, fun _ => False, fun _ => none, fun _ _ _ _ => False⟩ rfl [] H _ _ _ re _ ?_
    rw [hsem ns]
    intro v H' β' f1 rl r
    obtain ⟨p, h1, rfl⟩ := r
    obtain ⟨p', vs, a1, b1, c1⟩ := rl.ob 0 _ rfl
    rw [h1] at a1; cases a1
    have own1 : Own ⟨K, 0, 0, fun _ => False, fun _ => none, fun _ _ _ _ => False⟩ β' ⟨none, [.lst [.list (ns.map .int), .int 0, .int 0, .int 1, .int 0]]⟩ p := .inr ⟨0, _, rfl, (by intro z; cases z), h1⟩
    have c1' : RTs K (Ban ⟨K, 0, 0, fun _ => False, fun _ => none, fun _ _ _ _ => False⟩ β' ⟨none, [.lst [.list (ns.map .int), .int 0, .int 0, .int 1, .int 0]]⟩) H' vs [.list (ns.map .int), .int 0, .int 0, .int 1, .int 0] := c1
    cases c1' with
    | cons x1 y1 =>
      cases x1 with
      | lst hs hr1 =>
        rename_i fb ws
        cases y1 with
        | cons x2 y2 => cases y2 with
          | cons x3 y3 => cases y3 with
            | cons x4 y4 => cases y4 with
              | cons x5 y5 =>
                cases y5; cases x2; cases x3; cases x4; cases x5
                have e1 := hr1.ints
                subst e1
                have hf : H p = none := by
                  obtain ⟨γ, e, hγ⟩ := f1.ext
                  rw [List.nil_append] at e; subst e
                  exact hγ p (List.mem_of_getElem? h1)
                exact q H' p fb (fun b o h => (f1.stay b o h (own0 b)).1) hf (fun e => hs.2 (.inr (e ▸ own1))) b1 hs.1
theorem okLaw {f : Addr} {fd : FuncData} {i : Nat} {kf : Nat} {mf : Str} {psf : List Str} {b1 : MS} (F : Fun K x x st f fd) (S : FnScope N ps (defScope st)) (hps : ps.length = 1) (hN : ps.length ≤ N.length)
    (hb : ∀ (cdv : Value) (A : Around) (outer : List Env) (s : Shared) (H : Hp) (E : XK), Room k (A.deeper (envOfC x (defScope st) s.heap.objs.size f cdv)) →
      ∃ t1, PSs (cxOf CX0 P w K mg base N x (defScope st) f cdv A outer s H E).nox (defBody st) (tSeq (tAsg (tCall (spFl K) [] E0 (tCons (tVar 0) tNil)) (gName i)) t1) ∧ ∀ G : Gx, G.K = K → SimS G t1 b1)
    (hsem : ∀ ns : List Int, ns.length ≤ 63 → ∃ st', b1 ((startL N.length [.scr ns]).set i (some .flow)) ⟨some (fl0 ns), []⟩ = .rt (.d (.bool true)) st') :
    FnOk P w K mg base CX0 (k + 1) f fd ps (spLaw K) := by
  refine F.ok S (fun vs H Q E h => ?_) (fun cdv A outer s H vs Q E hr h => ?_)
  · obtain ⟨a, ns, rfl, _⟩ := h
    exact hps.symm
  · obtain ⟨a, ns, rfl, hS, hl, q⟩ := h
    obtain ⟨t1, h1, h2⟩ := hb cdv A outer s H E hr
    refine ⟨_, h1, ?_⟩
    refine ⟨.ref a, start_getV N rfl, a, ns, rfl, hS, fun H' fa fb kk hf0 hne hfa hfb => ?_⟩
    obtain ⟨st', e⟩ := hsem ns hl
    have own0 : ∀ b, Own ⟨K, fa, fb, fun _ => False, fun _ => none, fun _ _ _ _ => False⟩ [] ⟨some (fl0 ns), []⟩ b → b = fa := fun b h => by
      rcases h with ⟨_, h⟩ | ⟨i, xs, h, _⟩
      · exact h
      · simp at h
    have rl : Rl ⟨K, fa, fb, fun _ => False, fun _ => none, fun _ _ _ _ => False⟩ [] H' ⟨some (fl0 ns), []⟩ := by
      refine ⟨rfl, .nil, fun p hp => by simp at hp, fun i xs h => by simp at h, fun f h => ?_, fun p hp => hp.elim⟩
      cases h
      exact ⟨⟨hfa, hfb, fun z => hne (z.elim False.elim (own0 fb))⟩, by simp⟩
    have lo : RLoc ⟨K, fa, fb, fun _ => False, fun _ => none, fun _ _ _ _ => False⟩ [] (Ban ⟨K, fa, fb, fun _ => False, fun _ => none, fun _ _ _ _ => False⟩ [] ⟨some (fl0 ns), []⟩) H' (L2.start N [.ref a]) (startL N.length [.scr ns]) := by
      refine ⟨start_len N rfl (by simp; omega), fun j u e => ?_⟩
      have e1 := start_get N (vs := [.ref a]) e
      cases j with
      | succ j => simp at e1
      | zero =>
        simp at e1; subst e1
        refine ⟨.ref a, start_getV N rfl, a, rfl, hS.imp (fun z => ⟨?_, fun w => ?_⟩) id⟩
        · rcases z with z | ⟨o, z⟩
          · exact .inl (kk _ _ z)
          · exact .inr ⟨o, kk _ _ z⟩
        · have e := w.elim False.elim (own0 a)
          subst e
          exact rd_ne z hf0
    refine h2 ⟨K, fa, fb, fun _ => False, fun _ => none, fun _ _ _ _ => False⟩ rfl [] H' _ _ _ ⟨rl, lo.set i (u := .flow) rfl⟩ _ ?_
    rw [e]
    intro v H2 β2 f2 rl2 r2
    have r2' : RT K _ H2 v (.bool true) := r2
    cases r2'
    exact q H2
end
section
variable {K : PySem.W.Frag} {mg : Str → Option Value} {x : Str} {st : Stmt} {ps : List Str}
theorem defIn_mk {h : Heap} {f : Addr} {oc : Value} {od an : Option Addr} {osl : Array (Option Value)} {kV doc pm cdv ct : Value} (X : K.In h) (G : h.Ns mainGlobals mg) (a : PySem.W.nsIn K mainGlobals x = some (some (.ref f)))
    (l : K.lookup f = some ⟨oc, od, .func (PySem.W.fnOf x x (defArgs st) (defBody st) (defScope st) .none kV doc pm an cdv ct), osl⟩) (c : PySem.W.codeIn K cdv x = true) (k : PySem.W.keepIn K (.ref f) = true)
    (hb : ∀ (kV doc pm : Value) (an : Option Addr) (cdv ct : Value) (us : List Value), us.length = ps.length → bindArgs (PySem.W.fnOf x x (defArgs st) (defBody st) (defScope st) .none kV doc pm an cdv ct) ⟨us, []⟩ = pure (ps.zip us)) : DefIn K mg x st ps :=
  ⟨f, _, fun_mk l c k, PySem.W.mg_of X G a, (fun_mk l c k).binds hb⟩
end
end NW
namespace NW
open PySem PySem.Spec PyProof.Rows L2
def Res.To {α : Type} (r : Res α) (P : α → Sto → Prop) : Prop := match r with
  | .ok a s => P a s
  | _ => False
def Out.To (o : Out) (N : Loc → Sto → Prop) (R : U → Sto → Prop) : Prop := match o with
  | .nx l s => N l s
  | .rt u s => R u s
  | _ => False
def Rp.To (r : Rp) (P : PyData → Prop) : Prop := match r with
  | .ok d _ => P d
  | _ => False
def Rf.To (r : Rf) (P : PyData → Fl → Prop) : Prop := match r with
  | .ok d _ f => P d f
  | _ => False
section
variable {α γ : Type} {P : α → Sto → Prop} {N : Loc → Sto → Prop} {R : U → Sto → Prop} {l : Loc} {st : Sto} {Q : U → Sto → Prop}
@[simp] theorem to_ok {a : α} : (Res.ok a st).To P ↔ P a st := Iff.rfl
@[simp] theorem to_no : (Res.no : Res α).To P ↔ False := Iff.rfl
@[simp] theorem to_bind {r : Res γ} {k : γ → Sto → Res α} : (r.bind k).To P ↔ r.To fun a s => (k a s).To P := by cases r <;> exact Iff.rfl
@[simp] theorem to_ite {c : Prop} [Decidable c] {a b : Res α} : (if c then a else b).To P ↔ if c then a.To P else b.To P := by split <;> exact Iff.rfl
@[simp] theorem to_iteO {c : Prop} [Decidable c] {a b : Out} : (if c then a else b).To N R ↔ if c then a.To N R else b.To N R := by split <;> exact Iff.rfl
@[simp] theorem to_nx : (Out.nx l st).To N R ↔ N l st := Iff.rfl
@[simp] theorem to_rt {u : U} : (Out.rt u st).To N R ↔ R u st := Iff.rfl
@[simp] theorem to_noO : Out.no.To N R ↔ False := Iff.rfl
@[simp] theorem to_out {r : Res γ} {k : γ → Sto → Out} : (r.out l k).To N R ↔ r.To fun a s => (k a s).To N R := by cases r <;> exact Iff.rfl
@[simp] theorem to_seq {o : Out} {k : Loc → Sto → Out} : (o.seq k).To N R ↔ o.To (fun l s => (k l s).To N R) R := by cases o <;> exact Iff.rfl
theorem Res.To.mono {r : Res α} {P' : α → Sto → Prop} (h : r.To P) (k : ∀ a s, P a s → P' a s) : r.To P' := by
  cases r with
  | ok a s => exact k a s h
  | _ => exact h
theorem Out.To.mono {o : Out} {N' : Loc → Sto → Prop} {R' : U → Sto → Prop} (h : o.To N R) (k : ∀ l s, N l s → N' l s) (k2 : ∀ u s, R u s → R' u s) : o.To N' R' := by
  cases o with
  | nx a s => exact k a s h
  | rt a s => exact k2 a s h
  | _ => exact h
@[simp] theorem to_var {i : Nat} : (eVar i l st).To Q ↔ ∃ u, l[i]? = some (some u) ∧ Q u st := by
  unfold eVar
  split
  · rename_i u e; simp [e]
  · rename_i h
    constructor
    · exact fun z => z.elim
    · rintro ⟨u, e, _⟩; exact (h u e).elim
@[simp] theorem to_c {x : PyData} : (eC x l st).To Q ↔ Q (.d x) st := Iff.rfl
@[simp] theorem to_op {f : U → U → Sto → Res U} {a b : ME} : (eOp f a b l st).To Q ↔ (a l st).To fun x s => (b l s).To fun y s => (f x y s).To Q := by unfold eOp; simp
@[simp] theorem to_addI {i j : Int} : (fAddA (.d (.int i)) (.d (.int j)) st).To Q ↔ Q (.d (.int (i + j))) st := Iff.rfl
@[simp] theorem to_subI {i j : Int} : (fSub (.d (.int i)) (.d (.int j)) st).To Q ↔ Q (.d (.int (i - j))) st := Iff.rfl
@[simp] theorem to_mulI {i j : Int} : (fMulA (.d (.int i)) (.d (.int j)) st).To Q ↔ mulC i j = true ∧ Q (.d (.int (i * j))) st := by unfold fMulA; simp
@[simp] theorem to_modI {i j : Int} : (fMod (.d (.int i)) (.d (.int j)) st).To Q ↔ j ≠ 0 ∧ Q (.d (.int (i.fmod j))) st := by unfold fMod oI; simp
@[simp] theorem to_divI {i j : Int} : (fDiv (.d (.int i)) (.d (.int j)) st).To Q ↔ divC i j = true ∧ Q (.d (.int (i.fdiv j))) st := by unfold fDiv oI; simp
@[simp] theorem to_powI {i j : Int} : (fPow (.d (.int i)) (.d (.int j)) st).To Q ↔ (0 ≤ j ∧ j ≤ 1000000 ∧ i.natAbs < 2 ^ 64) ∧ Q (.d (.int (i ^ j.toNat))) st := by unfold fPow oI; simp
@[simp] theorem to_lt {i j : Int} : (fLt (.d (.int i)) (.d (.int j)) st).To Q ↔ Q (.d (.bool (decide (i < j)))) st := Iff.rfl
@[simp] theorem to_le {i j : Int} : (fLe (.d (.int i)) (.d (.int j)) st).To Q ↔ Q (.d (.bool (decide (i ≤ j)))) st := Iff.rfl
@[simp] theorem to_gt {i j : Int} : (fGt (.d (.int i)) (.d (.int j)) st).To Q ↔ Q (.d (.bool (decide (j < i)))) st := Iff.rfl
@[simp] theorem to_ge {i j : Int} : (fGe (.d (.int i)) (.d (.int j)) st).To Q ↔ Q (.d (.bool (decide (j ≤ i)))) st := Iff.rfl
@[simp] theorem to_eqD {x y : PyData} {neg : Bool} : (opEq neg (.d x) (.d y) st).To Q ↔ (SeqAt.shaped x = true ∧ SeqAt.shaped y = true) ∧ Q (.d (.bool (if neg then !PyData.eqv x y else PyData.eqv x y))) st := by
  unfold opEq toTree; simp
@[simp] theorem shaped_int {i : Int} : SeqAt.shaped (.int i) = true := rfl
@[simp] theorem shaped_bool {i : Bool} : SeqAt.shaped (.bool i) = true := rfl
@[simp] theorem shaped_none : SeqAt.shaped .none = true := rfl
@[simp] theorem eqv_int {i j : Int} : PyData.eqv (.int i) (.int j) = decide (i = j) := by simp [PyData.eqv, BEq.beq]
@[simp] theorem eqv_bool {i j : Bool} : PyData.eqv (.bool i) (.bool j) = decide (i = j) := by cases i <;> cases j <;> rfl
@[simp] theorem to_isN {u : U} {neg : Bool} : (fIsN neg u (.d .none) st).To Q ↔ Q (.d (.bool (if neg then !isNon u else isNon u))) st := Iff.rfl
@[simp] theorem to_ixT {xs : List PyData} {i : Int} : (fIx (.d (.tuple xs)) (.d (.int i)) st).To Q ↔ ∃ x, ((idxN xs.length i).bind fun j => xs[j]?) = some x ∧ Q (.d x) st := by
  show (match (idxN xs.length i).bind fun j => xs[j]? with
        | some x => Res.ok (U.d x) st
        | none => .no).To Q ↔ _
  cases (idxN xs.length i).bind fun j => xs[j]? <;> simp
@[simp] theorem to_ixL {xs : List PyData} {i : Int} : (fIx (.d (.list xs)) (.d (.int i)) st).To Q ↔ ∃ x, ((idxN xs.length i).bind fun j => xs[j]?) = some x ∧ Q (.d x) st := by
  show (match (idxN xs.length i).bind fun j => xs[j]? with
        | some x => Res.ok (U.d x) st
        | none => .no).To Q ↔ _
  cases (idxN xs.length i).bind fun j => xs[j]? <;> simp
@[simp] theorem to_ixF {i : Int} : (fIx .flow (.d (.int i)) st).To Q ↔ ∃ f u, st.fl = some f ∧ flAt f i = some u ∧ Q u st := by
  show (match st.fl with
      | some f => (match flAt f i with
        | some u => Res.ok u st
        | none => .no)
      | none => .no).To Q ↔ _
  cases st.fl with
  | none => simp
  | some f => cases h : flAt f i <;> simp [h]
@[simp] theorem to_ixS {ns : List Int} {i : Int} : (fIx (.scr ns) (.d (.int i)) st).To Q ↔ ∃ x, ((idxN ns.length i).bind fun j => ns[j]?) = some x ∧ Q (.d (.int x)) st := by
  show (match (idxN ns.length i).bind fun j => ns[j]? with
        | some x => Res.ok (U.d (.int x)) st
        | none => .no).To Q ↔ _
  cases (idxN ns.length i).bind fun j => ns[j]? <;> simp
theorem idxN_nat {n j : Nat} (h : j < n) : idxN n (j : Int) = some j := by
  unfold idxN; rw [if_pos (by omega), if_pos (by omega)]; simp
@[simp] theorem flAt_0 {f : Fl} : flAt f 0 = some (.scr f.cells) := rfl
@[simp] theorem flAt_1 {f : Fl} : flAt f 1 = some (.d (.int f.place)) := rfl
@[simp] theorem flAt_2 {f : Fl} : flAt f 2 = some (.d (.int f.held)) := rfl
@[simp] theorem flAt_3 {f : Fl} : flAt f 3 = some (.d (.int f.seed)) := rfl
@[simp] theorem flAt_4 {f : Fl} : flAt f 4 = some (.d (.int f.many)) := rfl
@[simp] theorem flPut_1 {f : Fl} {x : Int} : flPut f 1 x = some { f with place := x } := rfl
@[simp] theorem flPut_2 {f : Fl} {x : Int} : flPut f 2 x = some { f with held := x } := rfl
@[simp] theorem flPut_3 {f : Fl} {x : Int} : flPut f 3 x = some { f with seed := x } := rfl
@[simp] theorem flPut_4 {f : Fl} {x : Int} : flPut f 4 x = some { f with many := x } := rfl
@[simp] theorem to_bTest {m : ME} {P : Bool → Sto → Prop} : (bTest m l st).To P ↔ (m l st).To fun u s => ∃ b, u = .d (.bool b) ∧ P b s := by
  unfold bTest
  rw [to_bind]
  cases m l st with
  | ok u s =>
    simp only [to_ok]
    split
    · rename_i b; simp
    · rename_i h
      simp only [to_no, false_iff]
      rintro ⟨b, rfl, _⟩; exact h b rfl
  | _ => exact Iff.rfl
@[simp] theorem to_bAnd {a b : MB} {P : Bool → Sto → Prop} : (bAnd a b l st).To P ↔ (a l st).To fun c s => if c = true then (b l s).To P else P false s := by unfold bAnd; simp
@[simp] theorem to_bOr {a b : MB} {P : Bool → Sto → Prop} : (bOr a b l st).To P ↔ (a l st).To fun c s => if c = true then P true s else (b l s).To P := by unfold bOr; simp
@[simp] theorem to_bNot {a : MB} {P : Bool → Sto → Prop} : (bNot a l st).To P ↔ (a l st).To fun c s => P (!c) s := by unfold bNot; simp
@[simp] theorem to_bYes {P : Bool → Sto → Prop} : (bYes l st).To P ↔ P true st := Iff.rfl
@[simp] theorem to_bTruB {m : ME} {P : Bool → Sto → Prop} : (bTru m l st).To P ↔ (m l st).To fun u s => ∃ b, truD s u = some b ∧ P b s := by
  unfold bTru
  rw [to_bind]
  cases m l st with
  | ok u s => simp only [to_ok]; cases truD s u <;> simp
  | _ => exact Iff.rfl
@[simp] theorem truD_bool {b : Bool} : truD st (.d (.bool b)) = some b := rfl
@[simp] theorem truD_int {i : Int} : truD st (.d (.int i)) = some (i != 0) := rfl
@[simp] theorem to_eAndV {a b : ME} : (eAndV a b l st).To Q ↔ (a l st).To fun u s => ∃ c, u = .d (.bool c) ∧ if c = true then (b l s).To Q else Q (.d (.bool false)) s := by
  unfold eAndV
  rw [to_bind]
  cases a l st with
  | ok u s =>
    simp only [to_ok]
    split
    · rename_i b; simp
    · rename_i h
      simp only [to_no, false_iff]
      rintro ⟨b, rfl, _⟩; exact h b rfl
  | _ => exact Iff.rfl
@[simp] theorem to_eOrV {a b : ME} : (eOrV a b l st).To Q ↔ (a l st).To fun u s => ∃ c, u = .d (.bool c) ∧ if c = true then Q (.d (.bool true)) s else (b l s).To Q := by
  unfold eOrV
  rw [to_bind]
  cases a l st with
  | ok u s =>
    simp only [to_ok]
    split
    · rename_i b; simp
    · rename_i h
      simp only [to_no, false_iff]
      rintro ⟨b, rfl, _⟩; exact h b rfl
  | _ => exact Iff.rfl
@[simp] theorem to_eNotV {a : ME} : (eNotV a l st).To Q ↔ (a l st).To fun u s => ∃ c, u = .d (.bool c) ∧ Q (.d (.bool (!c))) s := by
  unfold eNotV
  rw [to_bind]
  cases a l st with
  | ok u s =>
    simp only [to_ok]
    split
    · rename_i b; simp
    · rename_i h
      simp only [to_no, false_iff]
      rintro ⟨b, rfl, _⟩; exact h b rfl
  | _ => exact Iff.rfl
@[simp] theorem to_aNil {P : List U → Sto → Prop} : (aNil l st).To P ↔ P [] st := Iff.rfl
@[simp] theorem to_aCons {a : ME} {r : MA} {P : List U → Sto → Prop} : (aCons a r l st).To P ↔ (a l st).To fun u s => (r l s).To fun us s => P (u :: us) s := by unfold aCons; simp
@[simp] theorem lenOk_small {n : Nat} : lenOk n = true ↔ n ≤ 16777216 := by unfold lenOk; rw [sizeLine_eq]; simp
@[simp] theorem to_eTup {a : MA} : (eTup a l st).To Q ↔ (a l st).To fun us s => ∃ ds, treesOf us = some ds ∧ ds.length ≤ 16777216 ∧ Q (.d (.tuple ds)) s := by
  unfold eTup
  rw [to_bind]
  cases a l st with
  | ok u s => simp only [to_ok]; cases treesOf u <;> simp
  | _ => exact Iff.rfl
@[simp] theorem treesOf_nil : treesOf [] = some [] := rfl
@[simp] theorem treesOf_cons {x : PyData} {us : List U} : treesOf (.d x :: us) = (treesOf us).map (x :: ·) := rfl
@[simp] theorem to_lDisp {a : MA} {P : List PyData → Sto → Prop} : (lDisp a l st).To P ↔ (a l st).To fun us s => ∃ ds, treesOf us = some ds ∧ ds.length ≤ 16777216 ∧ P ds s := by
  unfold lDisp
  rw [to_bind]
  cases a l st with
  | ok u s => simp only [to_ok]; cases treesOf u <;> simp
  | _ => exact Iff.rfl
@[simp] theorem to_eFrz {m : ML} : (eFrz m l st).To Q ↔ (m l st).To fun xs s => Q (.d (.list xs)) s := by unfold eFrz; simp
@[simp] theorem to_eOwn {m : ML} : (eOwn m l st).To Q ↔ (m l st).To fun xs s => Q (.ref s.obs.length) (s.add xs) := by unfold eOwn; simp
@[simp] theorem to_eCB {f : List U → Sto → Res U} {a : MA} : (eCB f a l st).To Q ↔ (a l st).To fun us s => (f us s).To Q := by unfold eCB; simp
@[simp] theorem to_lCB {f : List U → Sto → Res (List PyData)} {a : MA} {P : List PyData → Sto → Prop} : (lCB f a l st).To P ↔ (a l st).To fun us s => (f us s).To P := by unfold lCB; simp
@[simp] theorem to_callP {k : Nat} {m : List PyData → Rp} {a : MA} : (eCallP k m a l st).To Q ↔ (a l st).To fun us s => (fCallP k m us s).To Q := by unfold eCallP; simp
@[simp] theorem to_callF {k : Nat} {m : List PyData → Fl → Rf} {a : MA} : (eCallF k m a l st).To Q ↔ (a l st).To fun us s => (fCallF k m us s).To Q := by unfold eCallF; simp
theorem ctrees_d {ds : List PyData} : ctrees st (ds.map .d) = some ds := by
  induction ds with
  | nil => rfl
  | cons x xs ih => rw [List.map_cons, ctrees, ih]; rfl
theorem any_d {ds : List PyData} : (ds.map U.d).any isRef = false := by
  induction ds with
  | nil => rfl
  | cons x xs ih => rw [List.map_cons, List.any_cons, ih]; rfl
theorem fCallP_d {k : Nat} {m : List PyData → Rp} {ds : List PyData} (hk : ds.length = k) : (fCallP k m (ds.map .d) st).To Q ↔ (m ds).To fun d => Q (.d d) st := by
  unfold fCallP
  rw [ctrees_d]
  simp only [hk, if_true, any_d]
  cases m ds <;> simp [Rp.To]
theorem fCallF_d {k : Nat} {m : List PyData → Fl → Rf} {ds : List PyData} {f : Fl} (hf : st.fl = some f) (hk : ds.length + 1 = k) : (fCallF k m (.flow :: ds.map .d) st).To Q ↔ (m ds f).To fun d f' => Q (.d d) { st with fl := some f' } := by
  unfold fCallF
  simp only [hf]
  rw [ctrees_d]
  simp only [hk, if_true, any_d]
  cases m ds f <;> simp [Rf.To]
@[simp] theorem callP_1 {m : List PyData → Rp} {x : PyData} : (fCallP 1 m [.d x] st).To Q ↔ (m [x]).To fun d => Q (.d d) st := fCallP_d (ds := [x]) rfl
@[simp] theorem callP_2 {m : List PyData → Rp} {x y : PyData} : (fCallP 2 m [.d x, .d y] st).To Q ↔ (m [x, y]).To fun d => Q (.d d) st := fCallP_d (ds := [x, y]) rfl
@[simp] theorem callP_3 {m : List PyData → Rp} {x y z : PyData} : (fCallP 3 m [.d x, .d y, .d z] st).To Q ↔ (m [x, y, z]).To fun d => Q (.d d) st := fCallP_d (ds := [x, y, z]) rfl
@[simp] theorem callP_4 {m : List PyData → Rp} {x y z w : PyData} : (fCallP 4 m [.d x, .d y, .d z, .d w] st).To Q ↔ (m [x, y, z, w]).To fun d => Q (.d d) st := fCallP_d (ds := [x, y, z, w]) rfl
@[simp] theorem callF_1 {m : List PyData → Fl → Rf} {f : Fl} {o : List Ob} : (fCallF 1 m [.flow] ⟨some f, o⟩).To Q ↔ (m [] f).To fun d f' => Q (.d d) ⟨some f', o⟩ := fCallF_d (ds := []) rfl rfl
@[simp] theorem callF_2 {m : List PyData → Fl → Rf} {x : PyData} {f : Fl} {o : List Ob} : (fCallF 2 m [.flow, .d x] ⟨some f, o⟩).To Q ↔ (m [x] f).To fun d f' => Q (.d d) ⟨some f', o⟩ := fCallF_d (ds := [x]) rfl rfl
@[simp] theorem callF_3 {m : List PyData → Fl → Rf} {x y : PyData} {f : Fl} {o : List Ob} : (fCallF 3 m [.flow, .d x, .d y] ⟨some f, o⟩).To Q ↔ (m [x, y] f).To fun d f' => Q (.d d) ⟨some f', o⟩ := fCallF_d (ds := [x, y]) rfl rfl
@[simp] theorem callF_4 {m : List PyData → Fl → Rf} {x y z : PyData} {f : Fl} {o : List Ob} : (fCallF 4 m [.flow, .d x, .d y, .d z] ⟨some f, o⟩).To Q ↔ (m [x, y, z] f).To fun d f' => Q (.d d) ⟨some f', o⟩ := fCallF_d (ds := [x, y, z]) rfl rfl
@[simp] theorem to_cAbs {i : Int} : (cAbs [.d (.int i)] st).To Q ↔ Q (.d (.int (if i < 0 then -i else i))) st := Iff.rfl
@[simp] theorem to_cIntI {i : Int} : (cInt [.d (.int i)] st).To Q ↔ Q (.d (.int i)) st := Iff.rfl
@[simp] theorem to_cIntB {b : Bool} : (cInt [.d (.bool b)] st).To Q ↔ Q (.d (.int (if b then 1 else 0))) st := Iff.rfl
@[simp] theorem to_cLenT {xs : List PyData} : (cLen [.d (.tuple xs)] st).To Q ↔ Q (.d (.int xs.length)) st := Iff.rfl
@[simp] theorem to_cLenL {xs : List PyData} : (cLen [.d (.list xs)] st).To Q ↔ Q (.d (.int xs.length)) st := Iff.rfl
@[simp] theorem to_cLenS {ns : List Int} : (cLen [.scr ns] st).To Q ↔ Q (.d (.int ns.length)) st := Iff.rfl
@[simp] theorem to_cAll {bs : List Bool} : (cAll [.d (.list (bs.map .bool))] st).To Q ↔ Q (.d (.bool (bs.all id))) st := by
  unfold cAll cBools listOf; simp
@[simp] theorem to_cAny {bs : List Bool} : (cAny [.d (.list (bs.map .bool))] st).To Q ↔ Q (.d (.bool (bs.any id))) st := by
  unfold cAny cBools listOf; simp
@[simp] theorem to_isi {m : ME} {T : String} : (eIsi m T l st).To Q ↔ (m l st).To fun u s => ∃ x, toTree s u = some x ∧ tyOk T = true ∧ Q (.d (.bool (isiT x T))) s := by
  unfold eIsi
  rw [to_bind]
  cases m l st with
  | ok u s => simp only [to_ok]; cases toTree s u <;> simp
  | _ => exact Iff.rfl
@[simp] theorem toTree_d' {x : PyData} : toTree st (.d x) = some x := rfl
@[simp] theorem to_sNext : (sNext l st).To N R ↔ N l st := Iff.rfl
@[simp] theorem to_sSeq {a b : MS} : (sSeq a b l st).To N R ↔ (a l st).To (fun l s => (b l s).To N R) R := by unfold sSeq; simp
@[simp] theorem to_sAsg {i : Nat} {m : ME} : (sAsg i m l st).To N R ↔ (m l st).To fun u s => N (l.set i (some u)) s := by unfold sAsg; simp
@[simp] theorem to_sDrop {m : ME} : (sDrop m l st).To N R ↔ (m l st).To fun _ s => N l s := by unfold sDrop; simp
@[simp] theorem to_sRet {m : ME} : (sRet m l st).To N R ↔ (m l st).To R := by unfold sRet; simp
@[simp] theorem to_sIf {c : MB} {a b : MS} : (sIf c a b l st).To N R ↔ (c l st).To fun k s => if k = true then (a l s).To N R else (b l s).To N R := by unfold sIf; simp
theorem to_sPar0 {i j : Nat} {a : MA} : (sPar i j a l st).To N R ↔ (a l st).To fun us s => ∃ u w, us = [u, w] ∧ N ((l.set i (some u)).set j (some w)) s := by
  unfold sPar
  rw [to_out]
  cases a l st with
  | ok us s =>
    simp only [to_ok]
    show (match us with | [u, w] => Out.nx ((l.set i (some u)).set j (some w)) s | _ => .no).To N R ↔ _
    split
    · rename_i u w
      exact ⟨fun z => ⟨u, w, rfl, z⟩, fun ⟨u', w', e, z⟩ => by cases e; exact z⟩
    · rename_i h
      constructor
      · exact fun z => z.elim
      · rintro ⟨u, w, rfl, _⟩; exact (h u w rfl).elim
  | _ => exact Iff.rfl
@[simp] theorem to_sPar {i j : Nat} {a b : ME} : (sPar i j (aCons a (aCons b aNil)) l st).To N R ↔ (a l st).To fun u s => (b l s).To fun w s => N ((l.set i (some u)).set j (some w)) s := by
  rw [to_sPar0, to_aCons]
  refine iff_of_eq (congrArg _ (funext fun u => funext fun s => propext ?_))
  rw [to_aCons]
  refine iff_of_eq (congrArg _ (funext fun w => funext fun s => propext ?_))
  rw [to_aNil]
  exact ⟨fun ⟨u', w', e, z⟩ => by cases e; exact z, fun z => ⟨u, w, rfl, z⟩⟩
@[simp] theorem to_sAsgG {m : ME} {t : MT} : (sAsgG m t l st).To N R ↔ (m l st).To fun u s => (t u l s).To N := by unfold sAsgG; simp
@[simp] theorem to_gName {i : Nat} {u : U} {P : Loc → Sto → Prop} : (gNameM i u l st).To P ↔ P (l.set i (some u)) st := Iff.rfl
@[simp] theorem to_gTup {n : Nat} {r : MTs} {xs : List PyData} {P : Loc → Sto → Prop} : (gTupM n r (.d (.tuple xs)) l st).To P ↔ xs.length = n ∧ (r xs l st).To P := by
  unfold gTupM; simp
@[simp] theorem to_gCons {t : MT} {r : MTs} {x : PyData} {xs : List PyData} {P : Loc → Sto → Prop} : (gConsM t r (x :: xs) l st).To P ↔ (t (.d x) l st).To fun l s => (r xs l s).To P := by unfold gConsM; simp
@[simp] theorem to_gNil {P : Loc → Sto → Prop} : (gNilM [] l st).To P ↔ P l st := Iff.rfl
@[simp] theorem to_gSubF {o i : ME} {x : Int} {P : Loc → Sto → Prop} : (gSubM o i (.d (.int x)) l st).To P ↔ (o l st).To fun ou s => (i l s).To fun iu s => (match ou, iu with
  | .flow, .d (.int j) => ∃ f f', s.fl = some f ∧ flPut f j x = some f' ∧ P l { s with fl := some f' }
  | .ref k, .d (.int j) => ∃ xs n, s.obs[k]? = some (.lst xs) ∧ idxN xs.length j = some n ∧ P l (s.put k (xs.set n (.int x)))
  | _, _ => False) := by
  unfold gSubM
  rw [to_bind]
  refine iff_of_eq (congrArg _ (funext fun ou => funext fun s => propext ?_))
  rw [to_bind]
  refine iff_of_eq (congrArg _ (funext fun iu => funext fun s => propext ?_))
  cases ou <;> cases iu <;> try exact Iff.rfl
  · rename_i k y
    cases y <;> try exact Iff.rfl
    rename_i j
    show (match s.obs[k]? with
      | some (.lst xs) => (match idxN xs.length j with
        | some n => Res.ok l (s.put k (xs.set n (.int x)))
        | none => .no)
      | _ => .no).To P ↔ _
    split
    · rename_i xs e
      split
      · rename_i n en; simp [e, en]
      · rename_i en; simp [e, en]
    · rename_i h
      constructor
      · exact fun z => z.elim
      · rintro ⟨xs, n, e, _⟩; exact (h xs e).elim
  · rename_i y
    cases y <;> try exact Iff.rfl
    rename_i j
    show (match s.fl with
      | some f => (match flPut f j x with
        | some f' => Res.ok l { s with fl := some f' }
        | none => .no)
      | none => .no).To P ↔ _
    cases s.fl with
    | none => simp
    | some f => cases e : flPut f j x <;> simp [e]
end
def retP (P : PyData → Prop) (u : U) (s : Sto) : Prop := match u with
  | .d x => P x
  | .ref i => ∃ xs, s.obs[i]? = some (Ob.lst xs) ∧ P (.list xs)
  | _ => False
def retF (P : PyData → Fl → Prop) (u : U) (s : Sto) : Prop := match u with
  | .d x => ∃ f, s.fl = some f ∧ P x f
  | .ref i => ∃ xs f, s.obs[i]? = some (Ob.lst xs) ∧ s.fl = some f ∧ P (.list xs) f
  | _ => False
section
variable {st : Sto} {P : PyData → Prop} {PF : PyData → Fl → Prop}
@[simp] theorem retP_d {x : PyData} : retP P (.d x) st ↔ P x := Iff.rfl
@[simp] theorem retP_ref {i : Nat} : retP P (.ref i) st ↔ ∃ xs, st.obs[i]? = some (Ob.lst xs) ∧ P (.list xs) := Iff.rfl
@[simp] theorem retF_d {x : PyData} : retF PF (.d x) st ↔ ∃ f, st.fl = some f ∧ PF x f := Iff.rfl
@[simp] theorem retF_ref {i : Nat} : retF PF (.ref i) st ↔ ∃ xs f, st.obs[i]? = some (Ob.lst xs) ∧ st.fl = some f ∧ PF (.list xs) f := Iff.rfl
theorem outP_to {o : Out} : (outP o).To P ↔ o.To (fun _ _ => P .none) (retP P) := by
  cases o with
  | rt u s =>
    cases u with
    | ref i =>
      show (match s.obs[i]? with | some (.lst xs) => Rp.ok (.list xs) true | _ => .no).To P ↔ ∃ xs, s.obs[i]? = some (Ob.lst xs) ∧ P (.list xs)
      split
      · rename_i xs e; simp [e, Rp.To]
      · rename_i h
        constructor
        · exact fun z => z.elim
        · rintro ⟨xs, e, _⟩; exact (h xs e).elim
    | _ => exact Iff.rfl
  | _ => exact Iff.rfl
theorem pure_to {n : Nat} {b : MS} {ds : List PyData} : (pureOf n b ds).To P ↔ (b (startL n (ds.map .d)) ⟨none, []⟩).To (fun _ _ => P .none) (retP P) := outP_to
theorem outF_to {o : Out} : (outF o).To PF ↔ o.To (fun _ s => ∃ f, s.fl = some f ∧ PF .none f) (retF PF) := by
  cases o with
  | rt u s =>
    cases u with
    | d x =>
      show (match s.fl with | some f => Rf.ok x false f | none => .no).To PF ↔ ∃ f, s.fl = some f ∧ PF x f
      cases s.fl <;> simp [Rf.To]
    | ref i =>
      show (match s.obs[i]?, s.fl with | some (.lst xs), some f => Rf.ok (.list xs) true f | _, _ => .no).To PF ↔ ∃ xs f, s.obs[i]? = some (Ob.lst xs) ∧ s.fl = some f ∧ PF (.list xs) f
      split
      · rename_i xs f e e2; simp [e, e2, Rf.To]
      · rename_i h
        constructor
        · exact fun z => z.elim
        · rintro ⟨xs, f, e, e2, _⟩; exact (h xs f e e2).elim
    | _ => exact Iff.rfl
  | nx l s =>
    show (match s.fl with | some f => Rf.ok .none false f | none => .no).To PF ↔ ∃ f, s.fl = some f ∧ PF .none f
    cases s.fl <;> simp [Rf.To]
  | ex e l s =>
    show (match s.fl with | some f => Rf.ex e f | none => .no).To PF ↔ False
    cases s.fl <;> exact Iff.rfl
  | _ => exact Iff.rfl
theorem flow_to {n : Nat} {b : MS} {ds : List PyData} {f : Fl} : (flowOf n b ds f).To PF ↔ (b (startL n (.flow :: ds.map .d)) ⟨some f, []⟩).To (fun _ s => ∃ f, s.fl = some f ∧ PF .none f) (retF PF) := outF_to
theorem Rp.To.mono {r : Rp} {P' : PyData → Prop} (h : r.To P) (k : ∀ d, P d → P' d) : r.To P' := by
  cases r with
  | ok a s => exact k a h
  | _ => exact h
theorem Rf.To.mono {r : Rf} {P' : PyData → Fl → Prop} (h : r.To PF) (k : ∀ d f, PF d f → P' d f) : r.To P' := by
  cases r with
  | ok a s f => exact k a f h
  | _ => exact h
theorem while_to {c : MB} {b : MS} {N : Loc → Sto → Prop} {R : U → Sto → Prop} {I : Nat → Loc → Sto → Prop}
    (step : ∀ n l st, I n l st → (c l st).To fun k s => if k = true then (b l s).To (fun l s => ∃ m, m < n ∧ I m l s) R else N l s) : ∀ (n : Nat) (l : Loc) (st : Sto), I n l st → (sWhile c b l st).To N R := by
  intro n l st h
  have key : ∀ (k n : Nat), n < k → ∀ l st, I n l st → (whileN c b k l st).To N R := by
    intro k
    induction k with
    | zero => intro n hn; omega
    | succ k ih =>
      intro n hn l st h
      rw [whileN, to_out]
      refine (step n l st h).mono fun q s hq => ?_
      rw [to_iteO]
      split
      · rename_i hq'
        rw [if_pos hq'] at hq
        cases e : b l s with
        | nx l' s' =>
          rw [e] at hq
          obtain ⟨m, hm, h'⟩ := hq
          exact ih m (by omega) l' s' h'
        | rt u s' => rw [e] at hq; exact hq
        | _ => rw [e] at hq; exact hq.elim
      · rename_i hq'
        rw [if_neg hq'] at hq
        exact hq
  have z := key (n + 1) n (Nat.lt_succ_self n) l st h
  have hne : whileN c b (n + 1) l st ≠ .no := by
    intro e; rw [e] at z; exact z
  rw [sWhile_of (n + 1) rfl hne]
  exact z
theorem for_to {d : ItD} {t : MT} {b : MS} {N : Loc → Sto → Prop} {R : U → Sto → Prop} {I : List PyData → Loc → Sto → Prop} (hk : ∀ xs l st, I xs l st → d.chk st)
    (step : ∀ x xs l st, I (x :: xs) l st → (t (.d x) l st).To fun l s => (b l s).To (I xs) R) (fin : ∀ l st, I [] l st → N l st) : ∀ (xs : List PyData) (l : Loc) (st : Sto), I xs l st → (forM d t b xs l st).To N R
  | [], l, st, h => by
    rw [forM, if_pos (hk _ _ _ h)]; exact fin l st h
  | x :: xs, l, st, h => by
    rw [forM, if_pos (hk _ _ _ h), to_out]
    refine (step x xs l st h).mono fun l1 s1 h1 => ?_
    cases e : b l1 s1 with
    | nx l2 s2 => rw [e] at h1; exact for_to hk step fin xs l2 s2 h1
    | rt u s2 => rw [e] at h1; exact h1
    | _ => rw [e] at h1; exact h1.elim
theorem chk_nil {xs : List PyData} : (ItD.mk xs []).chk st := fun p h => by cases h
@[simp] theorem to_sFor {mi : MI} {t : MT} {b : MS} {l : Loc} {N : Loc → Sto → Prop} {R : U → Sto → Prop} : (sFor mi t b l st).To N R ↔ (mi l st).To fun d s => (forM d t b d.items l s).To N R := by unfold sFor; simp
@[simp] theorem to_mR1 {a : MA} {l : Loc} {Q : ItD → Sto → Prop} : (mR1 a l st).To Q ↔ (a l st).To fun us s => ∃ j, us = [.d (.int j)] ∧ rOk j = true ∧ Q ⟨rangeD 0 1 j.toNat, []⟩ s := by
  unfold mR1
  rw [to_bind]
  cases a l st with
  | ok us s =>
    simp only [to_ok]
    split
    · rename_i j; simp
    · rename_i h
      constructor
      · exact fun z => z.elim
      · rintro ⟨j, rfl, _⟩; exact (h j rfl).elim
  | _ => exact Iff.rfl
@[simp] theorem to_mR2 {a : MA} {l : Loc} {Q : ItD → Sto → Prop} : (mR2 a l st).To Q ↔ (a l st).To fun us s => ∃ i j, us = [.d (.int i), .d (.int j)] ∧ (rOk i = true ∧ rOk j = true) ∧ Q ⟨rangeD i 1 (j - i).toNat, []⟩ s := by
  unfold mR2
  rw [to_bind]
  cases a l st with
  | ok us s =>
    simp only [to_ok]
    split
    · rename_i i j
      rw [to_ite]
      constructor
      · intro z
        split at z
        · rename_i h; exact ⟨i, j, rfl, (Bool.and_eq_true _ _).mp h, z⟩
        · exact z.elim
      · rintro ⟨i', j', e, h, z⟩
        cases e
        rw [if_pos ((Bool.and_eq_true _ _).mpr h)]; exact z
    · rename_i h
      constructor
      · exact fun z => z.elim
      · rintro ⟨i, j, rfl, _⟩; exact (h i j rfl).elim
  | _ => exact Iff.rfl
@[simp] theorem to_mAny {m : ME} {l : Loc} {Q : ItD → Sto → Prop} : (mAny m l st).To Q ↔ (m l st).To fun u s => ∃ xs own, srcOf s u = some (xs, own) ∧ Q ⟨xs, own⟩ s := by
  unfold mAny
  rw [to_bind]
  cases m l st with
  | ok u s =>
    simp only [to_ok]
    cases e : srcOf s u with
    | none => simp
    | some p => exact ⟨fun z => ⟨p.1, p.2, rfl, z⟩, fun ⟨xs, own, e, z⟩ => by cases e; exact z⟩
  | _ => exact Iff.rfl
@[simp] theorem to_mRev {m : ME} {l : Loc} {Q : ItD → Sto → Prop} : (mRev m l st).To Q ↔ (m l st).To fun u s => ∃ xs own, srcOf s u = some (xs, own) ∧ Q ⟨xs.reverse, own⟩ s := by
  unfold mRev
  rw [to_bind]
  cases m l st with
  | ok u s =>
    simp only [to_ok]
    cases e : srcOf s u with
    | none => simp
    | some p => exact ⟨fun z => ⟨p.1, p.2, rfl, z⟩, fun ⟨xs, own, e, z⟩ => by cases e; exact z⟩
  | _ => exact Iff.rfl
@[simp] theorem srcOf_list {xs : List PyData} : srcOf st (.d (.list xs)) = some (xs, []) := rfl
@[simp] theorem srcOf_tuple {xs : List PyData} : srcOf st (.d (.tuple xs)) = some (xs, []) := rfl
theorem lc_to {d : ItD} {vs : List Nat} {t : MT} {c : MB} {m : ME} {l : Loc} {P : List PyData → Sto → Prop} {I : List PyData → List PyData → Sto → Prop} (hk : ∀ xs acc st, I xs acc st → d.chk st)
    (step : ∀ x xs acc st, I (x :: xs) acc st → (t (.d x) (wipeL l vs) st).To fun l1 s => (c l1 s).To fun b s => if b = true then (m l1 s).To fun u s => ∃ y, u = .d y ∧ I xs (acc ++ [y]) s else I xs acc s)
    (fin : ∀ acc st, I [] acc st → P acc st) : ∀ (xs acc : List PyData) (st : Sto), I xs acc st → (lcM d vs t c m l xs st).To fun ys s => P (acc ++ ys) s
  | [], acc, st, h => by
    rw [lcM, if_pos (hk _ _ _ h)]
    show P (acc ++ []) st
    rw [List.append_nil]; exact fin acc st h
  | x :: xs, acc, st, h => by
    rw [lcM, if_pos (hk _ _ _ h)]
    have h1 := step x xs acc st h
    cases e1 : t (.d x) (wipeL l vs) st with
    | ok l1 s1 =>
      rw [e1] at h1
      show ((c l1 s1).noX.bind _).To _
      have h2 : (c l1 s1).To _ := h1
      cases e2 : c l1 s1 with
      | ok b s2 =>
        rw [e2] at h2
        have h3 : if b = true then (m l1 s2).To fun u s => ∃ y, u = .d y ∧ I xs (acc ++ [y]) s else I xs acc s2 := h2
        show (if b = true then _ else _ : Res (List PyData)).To _
        rw [to_ite]
        cases b with
        | true =>
          rw [if_pos rfl] at h3 ⊢
          cases e3 : m l1 s2 with
          | ok u s3 =>
            rw [e3] at h3
            obtain ⟨y, rfl, h4⟩ := h3
            show ((lcM d vs t c m l xs s3).bind fun ys st => .ok (y :: ys) st).To _
            rw [to_bind]
            refine (lc_to hk step fin xs (acc ++ [y]) s3 h4).mono fun ys s h5 => ?_
            rw [List.append_assoc] at h5
            exact h5
          | ex e s3 => rw [e3] at h3; exact h3.elim
          | no => rw [e3] at h3; exact h3.elim
        | false =>
          rw [if_neg Bool.false_ne_true] at h3 ⊢
          exact lc_to hk step fin xs acc s2 h3
      | ex e s2 => rw [e2] at h2; exact h2.elim
      | no => rw [e2] at h2; exact h2.elim
    | ex e s1 => rw [e1] at h1; exact h1.elim
    | no => rw [e1] at h1; exact h1.elim
@[simp] theorem to_lLc {mi : MI} {vs : List Nat} {t : MT} {c : MB} {m : ME} {l : Loc} {P : List PyData → Sto → Prop} : (lLc mi vs t c m l st).To P ↔ (mi l st).To fun d s => d.items.length ≤ 16777216 ∧ (lcM d vs t c m l d.items s).To P := by
  unfold lLc
  rw [to_bind]
  cases mi l st with
  | ok d s => simp
  | _ => exact Iff.rfl
end
end NW
namespace NW
open PySem PySem.Spec PyProof.Rows L2
section
variable {l : Loc} {st : Sto} {Q : U → Sto → Prop} {P : Option Int → Sto → Prop}
@[simp] theorem to_oNone : (oNone l st).To P ↔ P none st := Iff.rfl
@[simp] theorem to_oSome {m : ME} : (oSome m l st).To P ↔ (m l st).To fun u s => ∃ i, u = .d (.int i) ∧ P (some i) s := by
  unfold oSome
  rw [to_bind]
  cases m l st with
  | ok u s =>
    simp only [to_ok]
    split
    · rename_i i; simp
    · rename_i h
      simp only [to_no, false_iff]
      rintro ⟨i, rfl, _⟩; exact h i rfl
  | _ => exact Iff.rfl
@[simp] theorem to_eSlAny {m : ME} {lo hi : MO} : (eSlAny m lo hi l st).To Q ↔ (m l st).To fun u s => (lo l s).To fun a s => (hi l s).To fun b s => (fSl u a b s).To Q := by unfold eSlAny; simp
@[simp] theorem to_slT {xs : List PyData} {a b : Option Int} : (fSl (.d (.tuple xs)) a b st).To Q ↔ Q (.d (.tuple (cutD xs a b))) st := Iff.rfl
@[simp] theorem to_slL {xs : List PyData} {a b : Option Int} : (fSl (.d (.list xs)) a b st).To Q ↔ Q (.d (.list (cutD xs a b))) st := Iff.rfl
@[simp] theorem to_addL {xs ys : List PyData} : (fAddA (.d (.list xs)) (.d (.list ys)) st).To Q ↔ xs.length + ys.length ≤ 16777216 ∧ Q (.d (.list (xs ++ ys))) st := by
  show (if lenOk (xs.length + ys.length) = true then Res.ok (U.d (.list (xs ++ ys))) st else .no).To Q ↔ _
  rw [to_ite]; simp only [lenOk_small, to_ok, to_no]; split
  · rename_i h; exact ⟨fun z => ⟨h, z⟩, fun z => z.2⟩
  · rename_i h; exact ⟨fun z => z.elim, fun z => h z.1⟩
@[simp] theorem to_addT {xs ys : List PyData} : (fAddA (.d (.tuple xs)) (.d (.tuple ys)) st).To Q ↔ xs.length + ys.length ≤ 16777216 ∧ Q (.d (.tuple (xs ++ ys))) st := by
  show (if lenOk (xs.length + ys.length) = true then Res.ok (U.d (.tuple (xs ++ ys))) st else .no).To Q ↔ _
  rw [to_ite]; simp only [lenOk_small, to_ok, to_no]; split
  · rename_i h; exact ⟨fun z => ⟨h, z⟩, fun z => z.2⟩
  · rename_i h; exact ⟨fun z => z.elim, fun z => h z.1⟩
end
theorem rt_true {o : Out} (h : o.To (fun _ _ => False) fun u _ => u = .d (.bool true)) : ∃ st', o = .rt (.d (.bool true)) st' := by
  cases o with
  | rt u s => cases (show u = _ from h); exact ⟨s, rfl⟩
  | nx l s => exact h.elim
  | _ => exact h.elim
end NW
namespace NW
open PySem PySem.Spec PyProof.Rows L2
section
variable {P : Program} {w : World} {K : PySem.W.Frag} {mg : Str → Option Value} {base : Heap} {N ps : List Str} {x : Str} {st : Stmt} {k n : Nat}
theorem calF0 (D : DefIn K mg x st ps) (S : FnScope N ps (defScope st)) : Cal P w K mg base k x ps (spF K n fun _ _ => .no) := by
  obtain ⟨f, fd, F, hm, hb'⟩ := D.ex
  refine ⟨f, fd, ⟨fun vs H Q E h => ?_, fun A outer s H args us vs Q E hr he hb hv h => ?_⟩, hm, F.kp, hb'⟩
  · obtain ⟨fa, fb, O0, g, vs', ds, d, fr, g', _, _, _, _, _, _, _, _, _, e, _⟩ := h; cases e
  · obtain ⟨fa, fb, O0, g, vs', ds, d, fr, g', _, _, _, _, _, _, _, _, _, e, _⟩ := h; cases e
end
end NW
namespace NW
open PySem PySem.Spec PyProof.Rows L2
@[simp] theorem put_mk {f : Option Fl} {o : List Ob} {i : Nat} {xs : List PyData} : Sto.put ⟨f, o⟩ i xs = ⟨f, o.set i (.lst xs)⟩ := rfl
@[simp] theorem add_mk {f : Option Fl} {o : List Ob} {xs : List PyData} : Sto.add ⟨f, o⟩ xs = ⟨f, o ++ [.lst xs]⟩ := rfl
section
variable {l : Loc} {st : Sto} {Q : U → Sto → Prop}
@[simp] theorem listOf_ref {i : Nat} {xs : List PyData} : listOf st (.ref i) = some xs ↔ st.obs[i]? = some (.lst xs) := by
  show (match st.obs[i]? with | some (.lst xs) => some xs | _ => none) = some xs ↔ _
  split
  · rename_i ys e; simp [e]
  · rename_i h
    exact ⟨fun w => by simp at w, fun w => (h _ w).elim⟩
@[simp] theorem toTree_ref {i : Nat} {x : PyData} : toTree st (.ref i) = some x ↔ ∃ xs, st.obs[i]? = some (.lst xs) ∧ x = .list xs := by
  show (match st.obs[i]? with | some (.lst xs) => some (PyData.list xs) | _ => none) = some x ↔ _
  split
  · rename_i ys e; simp [e, eq_comm]
  · rename_i h
    exact ⟨fun w => by simp at w, fun ⟨ys, w, _⟩ => (h _ w).elim⟩
theorem seqOf_ref {i : Nat} : seqOf st (.ref i) = listOf st (.ref i) := by
  unfold seqOf
  cases listOf st (.ref i) <;> rfl
@[simp] theorem isLst_ref {i : Nat} : isLst st (.ref i) = true ↔ ∃ xs, st.obs[i]? = some (.lst xs) := by
  unfold isLst
  rw [Option.isSome_iff_exists]
  exact exists_congr fun xs => listOf_ref
@[simp] theorem isLst_list {xs : List PyData} : isLst st (.d (.list xs)) = true := rfl
@[simp] theorem to_ixR {k : Nat} {i : Int} : (fIx (.ref k) (.d (.int i)) st).To Q ↔ ∃ xs x, st.obs[k]? = some (.lst xs) ∧ ((idxN xs.length i).bind fun j => xs[j]?) = some x ∧ Q (.d x) st := by
  show (match seqOf st (.ref k) with
      | some xs => (match (idxN xs.length i).bind fun j => xs[j]? with
        | some x => Res.ok (U.d x) st
        | none => .no)
      | none => .no).To Q ↔ _
  rw [seqOf_ref]
  cases e : listOf st (.ref k) with
  | none =>
    refine ⟨fun w => w.elim, fun ⟨xs, x, h, _⟩ => ?_⟩
    rw [listOf_ref.mpr h] at e; cases e
  | some ys =>
    have e' := listOf_ref.mp e
    show (match (idxN ys.length i).bind fun j => ys[j]? with
        | some x => Res.ok (U.d x) st
        | none => .no).To Q ↔ _
    cases h : (idxN ys.length i).bind fun j => ys[j]? with
    | none =>
      refine ⟨fun w => w.elim, fun ⟨xs, x, h1, h2, _⟩ => ?_⟩
      rw [e'] at h1; cases h1; rw [h] at h2; cases h2
    | some x =>
      refine ⟨fun w => ⟨ys, x, e', h, w⟩, fun ⟨xs, x, h1, h2, h3⟩ => ?_⟩
      rw [e'] at h1; cases h1; rw [h] at h2; cases h2; exact h3
@[simp] theorem to_eMethL {f : U → List U → Sto → Res U} {o : ME} {a : MA} : (eMethL f o a l st).To Q ↔ (o l st).To fun x s => isLst s x = true ∧ (a l s).To fun us s => (f x us s).To Q := by
  unfold eMethL
  rw [to_bind]
  refine iff_of_eq (congrArg _ (funext fun x => funext fun s => propext ?_))
  rw [to_ite]
  split
  · rename_i h; simp [h]
  · rename_i h; simp [h]
@[simp] theorem ownL_ref {i j : Nat} {xs : List PyData} : ownL st (.ref i) = some (j, xs) ↔ st.obs[i]? = some (.lst xs) ∧ j = i := by
  show (match st.obs[i]? with | some (.lst xs) => some (i, xs) | _ => none) = some (j, xs) ↔ _
  split
  · rename_i ys e; simp [e, eq_comm, and_comm]
  · rename_i h
    exact ⟨fun w => by simp at w, fun ⟨w, _⟩ => (h _ w).elim⟩
@[simp] theorem to_append {k : Nat} {y : PyData} : (mAppend (.ref k) [.d y] st).To Q ↔ ∃ xs, st.obs[k]? = some (.lst xs) ∧ xs.length < 16777216 ∧ Q (.d .none) (st.put k (xs ++ [y])) := by
  unfold mAppend
  cases e : ownL st (.ref k) with
  | none =>
    refine ⟨fun w => w.elim, fun ⟨xs, h, _⟩ => ?_⟩
    rw [ownL_ref.mpr ⟨h, rfl⟩] at e; cases e
  | some p =>
    obtain ⟨j, ys⟩ := p
    obtain ⟨e1, rfl⟩ := ownL_ref.mp e
    show (if decide (ys.length < sizeLine) = true then Res.ok (U.d .none) (st.put j (ys ++ [y])) else .no).To Q ↔ _
    rw [to_ite]
    simp only [decide_eq_true_eq, sizeLine_eq]
    split
    · rename_i h
      exact ⟨fun w => ⟨ys, e1, h, w⟩, fun ⟨xs, h1, _, w⟩ => by rw [e1] at h1; cases h1; exact w⟩
    · rename_i h
      exact ⟨fun w => w.elim, fun ⟨xs, h1, h2, w⟩ => by rw [e1] at h1; cases h1; exact (h h2).elim⟩
@[simp] theorem srcOf_ref {i : Nat} {xs : List PyData} {own : List (Nat × List PyData)} : srcOf st (.ref i) = some (xs, own) ↔ st.obs[i]? = some (.lst xs) ∧ own = [(i, xs)] := by
  show (match st.obs[i]? with | some (.lst xs) => some (xs, [(i, xs)]) | _ => none) = some (xs, own) ↔ _
  split
  · rename_i ys e
    rw [e]
    constructor
    · intro h; cases h; exact ⟨rfl, rfl⟩
    · rintro ⟨h, rfl⟩; cases h; rfl
  · rename_i h
    exact ⟨fun w => by simp at w, fun ⟨w, _⟩ => (h _ w).elim⟩
theorem chk_one {xs ys : List PyData} {i : Nat} (h : st.obs[i]? = some (.lst ys)) : (ItD.mk xs [(i, ys)]).chk st := fun p hp => by
  have : p = (i, ys) := by simpa using hp
  subst this; exact h
end
end NW
namespace NW
open PySem PySem.Spec PyProof.Rows L2
def Sto.die (st : Sto) (i : Nat) : Sto := { st with obs := st.obs.set i .dead }
@[simp] theorem die_mk {f : Option Fl} {o : List Ob} {i : Nat} : Sto.die ⟨f, o⟩ i = ⟨f, o.set i .dead⟩ := rfl
section
variable {G : Gx} {β : List Addr} {st : Sto} {H : Hp} {v : V} {i : Nat} {p : Addr} {xs : List PyData}
theorem Own.die {q : Addr} (h : Own G β (st.die i) q) : Own G β st q := by
  rcases h with h | ⟨j, ys, h1, nd, h2⟩
  · exact .inl h
  · by_cases e : j = i
    · subst e
      simp only [Sto.die] at h1
      by_cases hj : j < st.obs.length
      · rw [List.getElem?_set_self hj] at h1; cases h1; exact absurd rfl nd
      · rw [List.getElem?_eq_none (by simp; omega)] at h1; cases h1
    · exact .inr ⟨j, ys, by simpa [Sto.die, List.getElem?_set_ne (Ne.symm e)] using h1, nd, h2⟩
def eDie (m : ME) : ME := fun l st => (m l st).bind fun u st => match u with
  | .ref i => (match st.obs[i]? with
    | some (.lst xs) => .ok (.d (.list xs)) (st.die i)
    | _ => .no)
  | u => .ok u st
end
section
variable {l : Loc} {st : Sto} {Q : U → Sto → Prop}
@[simp] theorem to_eDie {m : ME} : (eDie m l st).To Q ↔ (m l st).To fun u s => match u with
    | .ref i => ∃ xs, s.obs[i]? = some (Ob.lst xs) ∧ Q (.d (.list xs)) (s.die i)
    | u => Q u s := by
  unfold eDie
  rw [to_bind]
  refine iff_of_eq (congrArg _ (funext fun u => funext fun s => propext ?_))
  cases u with
  | ref i =>
    show (match s.obs[i]? with
      | some (.lst xs) => Res.ok (U.d (.list xs)) (s.die i)
      | _ => .no).To Q ↔ _
    split
    · rename_i xs e; simp [e]
    · rename_i h
      constructor
      · exact fun z => z.elim
      · rintro ⟨xs, e, _⟩; exact (h xs e).elim
  | _ => exact Iff.rfl
end
end NW
namespace NW
open PySem PySem.Spec PyProof.Rows L2
section
variable {l : Loc} {st : Sto} {Q : U → Sto → Prop}
theorem to_eqG {a b : U} {neg : Bool} : (opEq neg a b st).To Q ↔ ∃ x y, (toTree st a = some x ∧ toTree st b = some y) ∧ (SeqAt.shaped x = true ∧ SeqAt.shaped y = true) ∧ Q (.d (.bool (if neg then !PyData.eqv x y else PyData.eqv x y))) st := by
  unfold opEq
  cases e1 : toTree st a with
  | none => simp
  | some x =>
    cases e2 : toTree st b with
    | none => simp
    | some y =>
      simp
      exact ⟨fun h => ⟨x, y, ⟨rfl, rfl⟩, h⟩, fun ⟨_, _, ⟨h1, h2⟩, h⟩ => by cases h1; cases h2; exact h⟩
@[simp] theorem to_eqRD {i : Nat} {y : PyData} {neg : Bool} : (opEq neg (.ref i) (.d y) st).To Q ↔ ∃ xs, st.obs[i]? = some (Ob.lst xs) ∧ (SeqAt.shaped (.list xs) = true ∧ SeqAt.shaped y = true) ∧ Q (.d (.bool (if neg then !PyData.eqv (.list xs) y else PyData.eqv (.list xs) y))) st := by
  rw [to_eqG]
  constructor
  · rintro ⟨x, z, ⟨h1, h2⟩, h3, h4⟩
    obtain ⟨xs, h5, rfl⟩ := toTree_ref.mp h1
    cases h2
    exact ⟨xs, h5, h3, h4⟩
  · rintro ⟨xs, h1, h2, h3⟩
    exact ⟨_, _, ⟨toTree_ref.mpr ⟨xs, h1, rfl⟩, rfl⟩, h2, h3⟩
@[simp] theorem to_eqDR {i : Nat} {y : PyData} {neg : Bool} : (opEq neg (.d y) (.ref i) st).To Q ↔ ∃ xs, st.obs[i]? = some (Ob.lst xs) ∧ (SeqAt.shaped y = true ∧ SeqAt.shaped (.list xs) = true) ∧ Q (.d (.bool (if neg then !PyData.eqv y (.list xs) else PyData.eqv y (.list xs)))) st := by
  rw [to_eqG]
  constructor
  · rintro ⟨x, z, ⟨h1, h2⟩, h3, h4⟩
    obtain ⟨xs, h5, rfl⟩ := toTree_ref.mp h2
    cases h1
    exact ⟨xs, h5, h3, h4⟩
  · rintro ⟨xs, h1, h2, h3⟩
    exact ⟨_, _, ⟨rfl, toTree_ref.mpr ⟨xs, h1, rfl⟩⟩, h2, h3⟩
@[simp] theorem to_eqRR {i j : Nat} {neg : Bool} : (opEq neg (.ref i) (.ref j) st).To Q ↔ ∃ xs ys, (st.obs[i]? = some (Ob.lst xs) ∧ st.obs[j]? = some (Ob.lst ys)) ∧ (SeqAt.shaped (.list xs) = true ∧ SeqAt.shaped (.list ys) = true) ∧ Q (.d (.bool (if neg then !PyData.eqv (.list xs) (.list ys) else PyData.eqv (.list xs) (.list ys)))) st := by
  rw [to_eqG]
  constructor
  · rintro ⟨x, z, ⟨h1, h2⟩, h3, h4⟩
    obtain ⟨xs, h5, rfl⟩ := toTree_ref.mp h1
    obtain ⟨ys, h6, rfl⟩ := toTree_ref.mp h2
    exact ⟨xs, ys, ⟨h5, h6⟩, h3, h4⟩
  · rintro ⟨xs, ys, ⟨h1, h1'⟩, h2, h3⟩
    exact ⟨_, _, ⟨toTree_ref.mpr ⟨xs, h1, rfl⟩, toTree_ref.mpr ⟨ys, h1', rfl⟩⟩, h2, h3⟩
theorem addG {a b : U} (ha : ∀ xs, a = .d xs → ∃ ys, xs = .list ys) (hb : (∃ i, a = .ref i) ∨ ∃ j, b = .ref j) : (fAddA a b st).To Q ↔ ∃ xs ys, (listOf st a = some xs ∧ listOf st b = some ys) ∧ xs.length + ys.length ≤ 16777216 ∧ Q (.d (.list (xs ++ ys))) st := by
  have e : fAddA a b st = (match listOf st a, listOf st b with
    | some xs, some ys => if lenOk (xs.length + ys.length) = true then .ok (.d (.list (xs ++ ys))) st else .no
    | _, _ => .no) := by
    unfold fAddA
    split
    · rename_i i j
      obtain ⟨ys, e⟩ := ha _ rfl; cases e
    · obtain ⟨ys, e⟩ := ha _ rfl; cases e
    · obtain ⟨ys, e⟩ := ha _ rfl; cases e
    · rfl
  rw [e]
  cases e1 : listOf st a with
  | none => simp
  | some x =>
    cases e2 : listOf st b with
    | none => simp
    | some y =>
      show (if lenOk (x.length + y.length) = true then Res.ok (U.d (.list (x ++ y))) st else .no).To Q ↔ _
      rw [to_ite]
      simp only [lenOk_small]
      split
      · rename_i h; exact ⟨fun w => ⟨x, y, ⟨rfl, rfl⟩, h, w⟩, fun ⟨_, _, ⟨w1, w2⟩, _, w⟩ => by cases w1; cases w2; exact w⟩
      · rename_i h; exact ⟨fun w => w.elim, fun ⟨_, _, ⟨w1, w2⟩, w3, w⟩ => by cases w1; cases w2; exact (h w3).elim⟩
@[simp] theorem to_addRL {i : Nat} {ys : List PyData} : (fAddA (.ref i) (.d (.list ys)) st).To Q ↔ ∃ xs, st.obs[i]? = some (Ob.lst xs) ∧ xs.length + ys.length ≤ 16777216 ∧ Q (.d (.list (xs ++ ys))) st := by
  rw [addG (fun xs e => by cases e) (.inl ⟨i, rfl⟩)]
  constructor
  · rintro ⟨xs, zs, ⟨h1, h2⟩, h3, h4⟩
    cases h2
    exact ⟨xs, listOf_ref.mp h1, h3, h4⟩
  · rintro ⟨xs, h1, h3, h4⟩
    exact ⟨xs, ys, ⟨listOf_ref.mpr h1, rfl⟩, h3, h4⟩
@[simp] theorem to_addLR {i : Nat} {ys : List PyData} : (fAddA (.d (.list ys)) (.ref i) st).To Q ↔ ∃ xs, st.obs[i]? = some (Ob.lst xs) ∧ ys.length + xs.length ≤ 16777216 ∧ Q (.d (.list (ys ++ xs))) st := by
  rw [addG (fun xs e => by cases e; exact ⟨_, rfl⟩) (.inr ⟨i, rfl⟩)]
  constructor
  · rintro ⟨xs, zs, ⟨h1, h2⟩, h3, h4⟩
    cases h1
    exact ⟨zs, listOf_ref.mp h2, h3, h4⟩
  · rintro ⟨xs, h1, h3, h4⟩
    exact ⟨ys, xs, ⟨rfl, listOf_ref.mpr h1⟩, h3, h4⟩
@[simp] theorem to_addRR {i j : Nat} : (fAddA (.ref i) (.ref j) st).To Q ↔ ∃ xs ys, (st.obs[i]? = some (Ob.lst xs) ∧ st.obs[j]? = some (Ob.lst ys)) ∧ xs.length + ys.length ≤ 16777216 ∧ Q (.d (.list (xs ++ ys))) st := by
  rw [addG (fun xs e => by cases e) (.inl ⟨i, rfl⟩)]
  simp only [listOf_ref]
@[simp] theorem to_slR {i : Nat} {a b : Option Int} : (fSl (.ref i) a b st).To Q ↔ ∃ xs, st.obs[i]? = some (Ob.lst xs) ∧ Q (.d (.list (cutD xs a b))) st := by
  show (match listOf st (.ref i) with
    | some xs => Res.ok (U.d (.list (cutD xs a b))) st
    | none => .no).To Q ↔ _
  cases e : listOf st (.ref i) with
  | none => exact ⟨fun w => w.elim, fun ⟨xs, h, _⟩ => by rw [listOf_ref.mpr h] at e; cases e⟩
  | some xs =>
    have e' := listOf_ref.mp e
    exact ⟨fun w => ⟨xs, e', w⟩, fun ⟨ys, h, w⟩ => by rw [e'] at h; cases h; exact w⟩
theorem refL {α : Type} {i : Nat} {k : List PyData → Res α} {P : α → Sto → Prop} : (match seqOf st (.ref i) with | some xs => k xs | none => Res.no).To P ↔ ∃ xs, st.obs[i]? = some (Ob.lst xs) ∧ (k xs).To P := by
  rw [seqOf_ref]
  cases e : listOf st (.ref i) with
  | none => exact ⟨fun w => w.elim, fun ⟨xs, h, _⟩ => by rw [listOf_ref.mpr h] at e; cases e⟩
  | some xs =>
    have e' := listOf_ref.mp e
    exact ⟨fun w => ⟨xs, e', w⟩, fun ⟨ys, h, w⟩ => by rw [e'] at h; cases h; exact w⟩
@[simp] theorem to_lenR {i : Nat} : (cLen [.ref i] st).To Q ↔ ∃ xs, st.obs[i]? = some (Ob.lst xs) ∧ Q (.d (.int xs.length)) st := refL (k := fun xs => Res.ok (U.d (.int xs.length)) st)
@[simp] theorem to_listOfR {i : Nat} {P : List PyData → Sto → Prop} : (cListOf [.ref i] st).To P ↔ ∃ xs, st.obs[i]? = some (Ob.lst xs) ∧ P xs st := refL (k := fun xs => Res.ok xs st)
@[simp] theorem to_listOfL {xs : List PyData} {P : List PyData → Sto → Prop} : (cListOf [.d (.list xs)] st).To P ↔ P xs st := Iff.rfl
@[simp] theorem to_listOfT {xs : List PyData} {P : List PyData → Sto → Prop} : (cListOf [.d (.tuple xs)] st).To P ↔ P xs st := Iff.rfl
@[simp] theorem to_tupR {i : Nat} : (cTupOf [.ref i] st).To Q ↔ ∃ xs, st.obs[i]? = some (Ob.lst xs) ∧ Q (.d (.tuple xs)) st := by
  show (match listOf st (.ref i) with
    | some xs => Res.ok (U.d (.tuple xs)) st
    | none => .no).To Q ↔ _
  rw [← seqOf_ref]
  exact refL (k := fun xs => Res.ok (U.d (.tuple xs)) st)
theorem to_gSubG {o i : ME} {y : PyData} {P : Loc → Sto → Prop} (hy : ∀ x, y ≠ .int x) : (gSubM o i (.d y) l st).To P ↔ (o l st).To fun ou s => (i l s).To fun iu s => (match ou, iu with
  | .ref k, .d (.int j) => ∃ xs n, s.obs[k]? = some (.lst xs) ∧ idxN xs.length j = some n ∧ P l (s.put k (xs.set n y))
  | _, _ => False) := by
  unfold gSubM
  rw [to_bind]
  refine iff_of_eq (congrArg _ (funext fun ou => funext fun s => propext ?_))
  rw [to_bind]
  refine iff_of_eq (congrArg _ (funext fun iu => funext fun s => propext ?_))
  cases ou with
  | ref k =>
    cases iu with
    | d z =>
      cases z with
      | int j =>
        show (match s.obs[k]? with
          | some (.lst xs) => (match idxN xs.length j with
            | some n => Res.ok l (s.put k (xs.set n y))
            | none => .no)
          | _ => .no).To P ↔ _
        split
        · rename_i xs e
          split
          · rename_i n en; simp [e, en]
          · rename_i en; simp [e, en]
        · rename_i h
          constructor
          · exact fun z => z.elim
          · rintro ⟨xs, n, e, _⟩; exact (h xs e).elim
      | _ => exact Iff.rfl
    | _ => exact Iff.rfl
  | flow =>
    cases iu with
    | d z =>
      cases z with
      | int j =>
        cases y with
        | int x => exact absurd rfl (hy x)
        | _ => exact Iff.rfl
      | _ => exact Iff.rfl
    | _ => exact Iff.rfl
  | _ => exact Iff.rfl
@[simp] theorem to_gSubT {o i : ME} {ys : List PyData} {P : Loc → Sto → Prop} : (gSubM o i (.d (.tuple ys)) l st).To P ↔ (o l st).To fun ou s => (i l s).To fun iu s => (match ou, iu with
  | .ref k, .d (.int j) => ∃ xs n, s.obs[k]? = some (.lst xs) ∧ idxN xs.length j = some n ∧ P l (s.put k (xs.set n (.tuple ys)))
  | _, _ => False) := to_gSubG (fun x h => by cases h)
@[simp] theorem to_gSubL {o i : ME} {ys : List PyData} {P : Loc → Sto → Prop} : (gSubM o i (.d (.list ys)) l st).To P ↔ (o l st).To fun ou s => (i l s).To fun iu s => (match ou, iu with
  | .ref k, .d (.int j) => ∃ xs n, s.obs[k]? = some (.lst xs) ∧ idxN xs.length j = some n ∧ P l (s.put k (xs.set n (.list ys)))
  | _, _ => False) := to_gSubG (fun x h => by cases h)
@[simp] theorem to_maxL {ns : List Int} : (cMaxL [.d (.list (ns.map .int))] st).To Q ↔ ∃ m, maxI ns = some m ∧ Q (.d (.int m)) st := by
  unfold cMaxL cInts
  show (match intsOf (ns.map PyData.int) with | some ns => (match (maxI ns).map PyData.int with | some x => Res.ok (U.d x) st | none => .no) | none => .no).To Q ↔ _
  rw [intsOf_map]
  show (match (maxI ns).map PyData.int with | some x => Res.ok (U.d x) st | none => .no).To Q ↔ _
  cases maxI ns <;> simp
@[simp] theorem to_minL {ns : List Int} : (cMinL [.d (.list (ns.map .int))] st).To Q ↔ ∃ m, minI ns = some m ∧ Q (.d (.int m)) st := by
  unfold cMinL cInts
  show (match intsOf (ns.map PyData.int) with | some ns => (match (minI ns).map PyData.int with | some x => Res.ok (U.d x) st | none => .no) | none => .no).To Q ↔ _
  rw [intsOf_map]
  show (match (minI ns).map PyData.int with | some x => Res.ok (U.d x) st | none => .no).To Q ↔ _
  cases minI ns <;> simp
@[simp] theorem to_sumL {ns : List Int} : (cSum [.d (.list (ns.map .int))] st).To Q ↔ Q (.d (.int ns.sum)) st := by
  unfold cSum cInts
  show (match intsOf (ns.map PyData.int) with | some ns => Res.ok (U.d (.int ns.sum)) st | none => .no).To Q ↔ _
  rw [intsOf_map]
  exact Iff.rfl
end
theorem lc_mapA {α : Type} {f g : α → PyData} {d : ItD} {vs : List Nat} {t : MT} {c : MB} {m : ME} {l : Loc} {st : Sto} {P : List PyData → Sto → Prop} {as : List α} (hk : d.chk st)
    (h : ∀ a, a ∈ as → (t (.d (f a)) (wipeL l vs) st).To fun l1 s => (c l1 s).To fun b s => b = true ∧ (m l1 s).To fun u s => u = .d (g a) ∧ s = st) (fin : P (as.map g) st) : (lcM d vs t c m l (as.map f) st).To P := by
  refine (lc_to (I := fun ys acc s => s = st ∧ ∃ zs ws, as = zs ++ ws ∧ ys = ws.map f ∧ acc = zs.map g) (P := fun ys s => ys = as.map g ∧ s = st) (fun _ _ _ z => z.1 ▸ hk) ?_ ?_ (as.map f) [] st ⟨rfl, [], as, rfl, rfl, rfl⟩).mono ?_
  · rintro x ys acc s ⟨rfl, zs, ws, e1, e2, rfl⟩
    cases ws with
    | nil => cases e2
    | cons a ws =>
      cases e2
      refine (h a (by rw [e1]; simp)).mono ?_
      rintro l1 s1 h1
      refine h1.mono ?_
      rintro b s2 ⟨rfl, h2⟩
      rw [if_pos rfl]
      refine h2.mono ?_
      rintro u s3 ⟨rfl, rfl⟩
      exact ⟨_, rfl, rfl, zs ++ [a], ws, by rw [e1]; simp, rfl, by simp⟩
  · rintro acc s ⟨rfl, zs, ws, e1, e2, rfl⟩
    have : ws = [] := by cases ws with | nil => rfl | cons c bs => cases e2
    subst this
    simp [e1]
  · rintro ys s ⟨rfl, rfl⟩
    exact fin
theorem range_map {n : Nat} : rangeD 0 1 n = (List.range n).map fun (i : Nat) => PyData.int i := by
  unfold rangeD
  refine List.map_congr_left fun i _ => ?_
  simp
end NW
namespace NW
open PySem PySem.Spec PyProof.Rows L2
theorem meets_enumerate_newB {v : Value} {o : Obj} {H : Heap → Prop} (B : Begins v o H) :
    Meets (Builtin.«enumerate.__new__» ⟨[.type "enumerate", v], []⟩) (fun _ R s => H s.heap ∧
      R (.ok (.ret (.ref (s.heap.push o).objs.size)))
        { s with heap := (s.heap.push o).push { cls := .type "enumerate", data := .fields #[.none, .bool false, .ref s.heap.objs.size, rawInt 0, .none, .none] } }) :=
  .of_wp fun prog w A R s h => by
    obtain ⟨hp, g, d, tk, os⟩ := s; obtain ⟨h1, h⟩ := h
    have hsub := sub_enumerate
    have q1 : ∀ {A' : Around} {E : Value → Shared → Prop} {Q : Value → Shared → Prop}, Q (.ref hp.objs.size) ⟨(hp.push o), g, d, tk, os⟩ → wpAny (model prog w) A' (pyIter v) Q E ⟨hp, g, d, tk, os⟩ :=
      fun q => B.iter prog w _ _ ⟨hp, g, d, tk, os⟩ _ (B.keeps _ _ h1 fun b o' e => e) q
    wp_walk
    refine wpAny_stack_any fun st => wpAny_pure ?_
    split
    · rename_i c _ _ _ _ _
      cases (c == Value.type "enumerate")
      · wp_walk using q1
        exact ⟨_, rfl, h⟩
      · wp_walk using q1
        exact ⟨_, rfl, h⟩
    · wp_walk using q1
      exact ⟨_, rfl, h⟩
section
variable {prog : Program} {w : World} {A : Around} {E : Value → Shared → Prop} {s : Shared}
theorem call_enumerate_tuple {l : Addr} {items : Array Value} {Q : Value → Shared → Prop} (hL : s.heap.IsTuple l items)
    (h : ∀ h', IsEnum h' (s.heap.objs.size + 1) s.heap.objs.size 0 .none → h'.IsTupleIter s.heap.objs.size l 0 → h'.objs.size = s.heap.objs.size + 2 →
      (∀ b o, s.heap.get? b = some o → h'.get? b = some o) → Q (.ref (s.heap.objs.size + 1)) { s with heap := h' }) :
    wpAny (model prog w) A (call (.type "enumerate") [.ref l]) Q E s := by
  refine callType_new F.called_enumerate (by decide) (F.typeCall_enumerate_1 _) (F.newCall_enumerate_1 _) (fun obj => F.args_object_init_2 obj _) F.entry_enumerate_new
    (meets_enumerate_newB (begins_tuple l items)) ⟨hL, ?_⟩
  have hz : (s.heap.push { cls := .type "tuple_iterator", data := .fields #[.ref l, .int 0 0] }).objs.size = s.heap.objs.size + 1 := Heap.size_push ..
  show _ ∧ _
  rw [hz]
  have he : IsEnum ((s.heap.push { cls := .type "tuple_iterator", data := .fields #[.ref l, .int 0 0] }).push
      { cls := .type "enumerate", data := .fields #[.none, .bool false, .ref s.heap.objs.size, rawInt 0, .none, .none] }) (s.heap.objs.size + 1) s.heap.objs.size 0 .none := by
    have := Heap.get?_push_size (s.heap.push { cls := .type "tuple_iterator", data := .fields #[.ref l, .int 0 0] })
      (o := { cls := .type "enumerate", data := .fields #[.none, .bool false, .ref s.heap.objs.size, rawInt 0, .none, .none] }) rfl
    rw [hz] at this; exact this
  refine ⟨⟨_, he, rfl⟩, h _ he ⟨_, Heap.get?_push_of_some _ (Heap.get?_push_size _ rfl), rfl, rfl⟩ (by rw [Heap.size_push, hz]) fun b o x => Heap.get?_push_of_some _ (Heap.get?_push_of_some _ x)⟩
end
theorem Draws.tupEnd {prog : Program} {w : World} {A : Around} (hh : A.handled = none) (it t : Addr) (hne : t ≠ it) (items : Array Value) (n : Nat) (hn : items[n]? = none) :
    Draws prog w A it [it, t] n (fun _ _ => False) (fun i h => i = n ∧ h.IsTupleIter it t n ∧ h.IsTuple t items) where
  live := fun _ _ st => let ⟨o, ho, _⟩ := st.2.1; ⟨o, ho⟩
  frame := fun _ _ _ st hk => ⟨st.1, st.2.1.at fun o e => hk it (by simp) o e, st.2.2.at fun o e => hk t (by simp) o e⟩
  item := fun i s Q E hi st hQ => by have := st.1; omega
  done := fun s Q E st hE => wpAny_nextOf_tuple_end hh st.2.1 st.2.2 hn hE
def IteT (K : PySem.W.Frag) (a : Addr) : It :=
  ⟨fun i H => ∃ (xs : List V) (x : V), SqT K H a xs ∧ xs[i]? = some x, fun i H v H' => ∃ T x, v = .ref T ∧ H T = none ∧ H' = upd H T (.tup [.int (i : Nat), x]) ∧ ∀ xs, SqT K H a xs → xs[i]? = some x, fun i H => ∃ xs : List V, SqT K H a xs ∧ xs.length ≤ i⟩
theorem turn_enumT {P : Program} {w : World} {K : PySem.W.Frag} {elts : List Expr} {kk : Nat} {tpos : Pos} (a e it : Addr) (ha : a ≠ it) (ha2 : a ≠ e) :
    Turn P w K (.Tuple elts kk tpos) (IteT K a) [e, it] e (fun i h => (∃ old, IsEnum h e it ((i : Nat) : Int) old) ∧ h.IsTupleIter it a i ∧ e ≠ it) where
  mem := by simp
  obj := fun i h st b hb => by
    obtain ⟨⟨old, he⟩, ⟨o, ho, hc, hd⟩, _⟩ := st
    have e' : b = e ∨ b = it := by simpa using hb
    rcases e' with z | z
    · rw [z]; exact ⟨_, he, fun v q => nomatch q⟩
    · rw [z]; exact ⟨o, ho, fun v q => by rw [hd] at q; cases q⟩
  keep := fun i h h' st k => let ⟨⟨old, he⟩, hi, hne⟩ := st; ⟨⟨old, k e (by simp) _ he⟩, hi.at fun o q => k it (by simp) o q, hne⟩
  item := by
    intro X hP hw hK hc i pins s σ H E I hf st hg
    subst hP hw hK
    obtain ⟨⟨old, he⟩, hit, hne⟩ := st
    obtain ⟨xs, x, hq, hx⟩ := hg
    obtain ⟨its, rv, p, hz⟩ := I.tuple hq
    obtain ⟨u, hu, ru⟩ := rv.get hx
    have hel : e < s.heap.objs.size := Heap.lt_size he
    have hil : it < s.heap.objs.size := by obtain ⟨_, q, _⟩ := hit; exact Heap.lt_size q
    have hu' : its.toArray[i]? = some u := by simpa using hu
    have hlt : i < its.toArray.size := by
      have := (List.getElem?_eq_some_iff.mp hu).1
      simpa using this
    refine wpAny_pyNext_enum_itemD (Draws.tuple (A := X.A.in1) (show X.A.in1.handled = none from I.ok.hd hc) it a ha its.toArray) he ⟨hit, (show s.heap.IsTuple a its.toArray from p)⟩ hlt hne (by simp [hne, Ne.symm ha2]) fun x' h' tk hx' ho hst hT hsz hk => ?_
    have ex : x' = u := Option.some.inj (hx'.symm.trans hu')
    subst ex
    refine ⟨_, rfl, wpAny_letOwnedTupleGo_enum (s := { s with heap := h', toks := tk + 1 }) ho fun h'' he' sb => ?_⟩
    have hT2 : h''.get? s.heap.objs.size = some { cls := .type "tuple", data := .seq #[.int i tk, x'] } := (sb.2 _ (Nat.ne_of_gt hel)).trans hT
    have new : ObjOk X.prog X.w (upd H s.heap.objs.size (.tup [.int (i : Nat), x])) h'' s.heap.objs.size (.tup [.int (i : Nat), x]) :=
      ⟨by show 2 ≤ sizeLine; decide, [.int i tk, x'], .cons ⟨_, rfl⟩ (.cons ru .nil), ⟨_, hT2, rfl, _, rfl⟩⟩
    have I1 : Inv X pins σ (upd H s.heap.objs.size (.tup [.int (i : Nat), x])) { s with heap := h'', toks := tk + 1 } :=
      I.turnedNew (ch := [e, it]) (fun b ob hb q => (sb.2 b (fun z => hb (by simp [z]))).trans (hk b ob (fun z => hb (by simp [z])) (fun z => hb (by simp [z])) q)) hf (Nat.le_refl _) new
    refine ⟨.ref s.heap.objs.size, _, I1, rfl, ⟨_, x, rfl, I.hok.fresh (Nat.le_refl _), rfl, fun ys hy => by rw [I.tuple_inj hy hq]; exact hx⟩, ⟨⟨x', ?_⟩, hst.1.at fun o q => (sb.2 it (Ne.symm hne)).trans q, hne⟩, fun b hb => ?_⟩
    · have e1 : ((i + 1 : Nat) : Int) = (i : Int) + 1 := by omega
      rw [e1]; exact he'
    · have hb' : b < s.heap.objs.size := by
        have e' : b = e ∨ b = it := by simpa using hb
        rcases e' with z | z
        · rw [z]; exact hel
        · rw [z]; exact hil
      rw [upd_ne (Nat.ne_of_lt hb')]
      exact (hf b hb).1
  done := by
    intro X hP hw hK hc i pins s σ H E I hf st hg
    subst hP hw hK
    obtain ⟨⟨old, he⟩, hit, hne⟩ := st
    obtain ⟨xs, hq, hx⟩ := hg
    obtain ⟨its, rv, p, hz⟩ := I.tuple hq
    obtain ⟨f0, f1, f2, f3, f4, f5⟩ := hf it (by simp)
    have hl := rv.length
    have hn : its.toArray[i]? = none := by simp; omega
    refine wpAny_pyNext_enum_endD (Draws.tupEnd (A := X.A.in1) (show X.A.in1.handled = none from I.ok.hd hc) it a ha its.toArray i hn) he ⟨rfl, hit, (show s.heap.IsTuple a its.toArray from p)⟩ fun h' eb => ?_
    exact ⟨rfl, I.turned (t' := s.toks) (fun b o hb q => eb b o hb q) f0 f1 f3 f4 f5⟩
  self := fun A i s Q E st h => let ⟨⟨_, he⟩, _⟩ := st; wpAny_pyIter_enum he h
def iEnumA (K : PySem.W.Frag) (ta : TA) : TI := fun σ H R => ta σ H fun vs H1 => ∃ a, vs = [.ref a] ∧ (((∃ xs, SqL K H1 a xs) ∧ R (Ite K a) H1) ∨ ((∃ xs, SqT K H1 a xs) ∧ R (IteT K a) H1))
theorem pi_enumA {X : Cx} {e : Expr} {ta : TA} {p pos tpos : Pos} {elts : List Expr} {kk : Nat} (hg : Gl X "enumerate") (hm : X.mg "enumerate" = none) (ha : PA X [e] ta) (hs : starEach [e] X.env = [(false, eval e X.env)] := by rfl) :
    PI X (.Tuple elts kk tpos) (.Call (.Name "enumerate" p) [e] [] pos) (iEnumA X.K ta) := by
  refine ⟨fun pins s σ H R I h => ?_⟩
  refine Call_ (ld_blt I hg hm boot_enumerate (PyProof.Rows.callWith_type1 (thn (ha.run pos pins s σ H _ I h) fun us s1 ⟨vs, H1, I1, r1, q1⟩ => ?_) hs rfl))
  obtain ⟨a, ex, q⟩ := q1
  subst ex
  cases r1 with
  | cons r rr =>
    cases rr
    cases r
    rcases q with ⟨⟨xs, hq⟩, q⟩ | ⟨⟨xs, hq⟩, q⟩
    · obtain ⟨its, rv, p', hz⟩ := I1.list hq
      refine call_enumerate_list p'.isList fun h' he hit hsz hk => wpAny_pyIter_enum he ?_
      have I2 : Inv X pins σ H1 { s1 with heap := h' } := I1.kept (t' := s1.toks) hk
      refine ⟨s1.heap.objs.size + 1, [s1.heap.objs.size + 1, s1.heap.objs.size], _, _, H1, rfl, I2, turn_enum a (s1.heap.objs.size + 1) s1.heap.objs.size, ⟨⟨.none, he⟩, hit, Nat.succ_ne_self _⟩, fun b hb => ?_, q⟩
      have e' : b = s1.heap.objs.size + 1 ∨ b = s1.heap.objs.size := by simpa using hb
      have hle : s1.heap.objs.size ≤ b := by
        rcases e' with z | z
        · rw [z]; exact Nat.le_add_right _ _
        · rw [z]; exact Nat.le_refl _
      exact I1.fpOk hle (I1.hok.fresh hle)
    · obtain ⟨its, rv, p', hz⟩ := I1.tuple hq
      have pt : s1.heap.IsTuple a its.toArray := p'
      have hal : a < s1.heap.objs.size := by obtain ⟨_, q, _⟩ := pt; exact Heap.lt_size q
      refine call_enumerate_tuple pt fun h' he hit hsz hk => wpAny_pyIter_enum he ?_
      have I2 : Inv X pins σ H1 { s1 with heap := h' } := I1.kept (t' := s1.toks) hk
      refine ⟨s1.heap.objs.size + 1, [s1.heap.objs.size + 1, s1.heap.objs.size], _, _, H1, rfl, I2, turn_enumT a (s1.heap.objs.size + 1) s1.heap.objs.size (Nat.ne_of_lt hal) (Nat.ne_of_lt (Nat.lt_succ_of_lt hal)), ⟨⟨.none, he⟩, hit, Nat.succ_ne_self _⟩, fun b hb => ?_, q⟩
      have e' : b = s1.heap.objs.size + 1 ∨ b = s1.heap.objs.size := by simpa using hb
      have hle : s1.heap.objs.size ≤ b := by
        rcases e' with z | z
        · rw [z]; exact Nat.le_add_right _ _
        · rw [z]; exact Nat.le_refl _
      exact I1.fpOk hle (I1.hok.fresh hle)
def enumD (xs : List PyData) : List PyData := xs.zipIdx.map fun p => .tuple [.int (p.2 : Nat), p.1]
theorem enumD_get {xs : List PyData} {i : Nat} {y : PyData} (h : (enumD xs)[i]? = some y) : ∃ x, xs[i]? = some x ∧ y = .tuple [.int (i : Nat), x] := by
  unfold enumD at h
  rw [List.getElem?_map, List.getElem?_zipIdx] at h
  cases e : xs[i]? with
  | none => rw [e] at h; cases h
  | some x => rw [e] at h; simp at h; exact ⟨x, rfl, h.symm⟩
@[simp] theorem enumD_len {xs : List PyData} : (enumD xs).length = xs.length := by simp [enumD]
section
variable {G : Gx} {β : List Addr} {st : Sto} {H : Hp}
theorem pair_rt {G : Gx} {β : List Addr} {st : Sto} {H : Hp} {T : Addr} {i : Nat} {x : V} {y : PyData} (rl : Rl G β H st) (hT : H T = none) (r : RT G.K (Ban G β st) H x y) :
    RT G.K (Ban G β st) (upd H T (.tup [.int (i : Nat), x])) (.ref T) (.tuple [.int (i : Nat), y]) := by
  have f : Fut G β st H β st (upd H T (.tup [.int (i : Nat), x])) := Fut.new hT
  exact .tup (.inl ⟨.inl upd_same, rl.notBan hT⟩) (.cons (.int _) (.cons (f.rt r) .nil))
theorem ite_r {p : Addr} {own : List (Nat × List PyData)} {xs : List PyData} (s : SrcL G β st H p own xs) : ItR G β st H (Ite G.K p) ⟨enumD xs, own⟩ := fun O1 hO β1 H1 st1 f rl1 hk i => by
  obtain ⟨vs, sq, r⟩ := s O1 hO β1 H1 st1 f rl1 hk
  refine ⟨fun y hy => ?_, fun hi => ⟨vs, sq, by rw [r.len]; simpa using hi⟩⟩
  obtain ⟨y, hy2, rfl⟩ := enumD_get hy
  obtain ⟨w, hw, rw'⟩ := r.get hy2
  refine ⟨⟨vs, w, sq, hw⟩, fun x H' hyl => ?_⟩
  obtain ⟨T, x', rfl, hT, rfl, hx⟩ := hyl
  have e : w = x' := Option.some.inj (hw.symm.trans (hx vs sq))
  subst e
  exact ⟨.inr ⟨T, _, hT, rfl⟩, pair_rt rl1 hT rw'⟩
theorem iteT_r {p : Addr} {xs : List PyData} (s : SrcT G β st H p xs) : ItR G β st H (IteT G.K p) ⟨enumD xs, []⟩ := fun O1 hO β1 H1 st1 f rl1 hk i => by
  obtain ⟨vs, sq, r⟩ := s O1 hO β1 H1 st1 f rl1
  refine ⟨fun y hy => ?_, fun hi => ⟨vs, sq, by rw [r.len]; simpa using hi⟩⟩
  obtain ⟨y, hy2, rfl⟩ := enumD_get hy
  obtain ⟨w, hw, rw'⟩ := r.get hy2
  refine ⟨⟨vs, w, sq, hw⟩, fun x H' hyl => ?_⟩
  obtain ⟨T, x', rfl, hT, rfl, hx⟩ := hyl
  have e : w = x' := Option.some.inj (hw.symm.trans (hx vs sq))
  subst e
  exact ⟨.inr ⟨T, _, hT, rfl⟩, pair_rt rl1 hT rw'⟩
def mEnum (a : MA) : MI := fun l st => (a l st).bind fun us st => match us with
  | [u] => (match srcOf st u with
    | some (xs, own) => .ok ⟨enumD xs, own⟩ st
    | none => .no)
  | _ => .no
theorem i_enumA {ta : TA} {a : MA} (h : SimA G ta a) : SimI G (iEnumA G.K ta) (mEnum a) := fun β H σ l st re R q => by
  refine h β H σ l st re _ (wpR_bind q fun vs us H1 β1 st1 f1 rl1 p1 h1 => ?_)
  split at h1
  · rename_i u
    split at h1
    · rename_i xs own e
      obtain ⟨v, rfl, r⟩ := one_u p1
      obtain ⟨p, rfl, ⟨s, vs, sq, _⟩ | ⟨rfl, s, vs, sq, _⟩⟩ := src_q rl1 r e
      · exact ⟨p, rfl, .inl ⟨⟨vs, sq⟩, h1 _ H1 β1 Fut.refl rl1 (ite_r s)⟩⟩
      · exact ⟨p, rfl, .inr ⟨⟨vs, sq⟩, h1 _ H1 β1 Fut.refl rl1 (iteT_r s)⟩⟩
    · exact h1.elim
  · exact h1.elim
end
theorem qi_enum {X : Cx} {e : Expr} {tA : TA} {mA : MA} {p pos tpos : Pos} {elts : List Expr} {kk : Nat} (hm : X.mg "enumerate" = none) (h : QA X [e] tA mA) (hg : Gl X "enumerate" := by rfl) (hs : starEach [e] X.env = [(false, eval e X.env)] := by rfl) :
    QI X (.Tuple elts kk tpos) (.Call (.Name "enumerate" p) [e] [] pos) (iEnumA X.K tA) (mEnum mA) := ⟨pi_enumA hg hm h.pa hs, fun G hG => hG ▸ i_enumA (h.sim G hG)⟩
section
variable {l : Loc} {st : Sto}
@[simp] theorem to_mEnum {a : MA} {Q : ItD → Sto → Prop} : (mEnum a l st).To Q ↔ (a l st).To fun us s => ∃ u xs own, us = [u] ∧ srcOf s u = some (xs, own) ∧ Q ⟨enumD xs, own⟩ s := by
  unfold mEnum
  rw [to_bind]
  cases a l st with
  | ok us s =>
    simp only [to_ok]
    split
    · rename_i u
      cases e : srcOf s u with
      | none =>
        refine ⟨fun z => z.elim, ?_⟩
        rintro ⟨u', xs, own, e1, e2, _⟩
        cases e1; rw [e] at e2; cases e2
      | some p =>
        refine ⟨fun z => ⟨u, p.1, p.2, rfl, e, z⟩, ?_⟩
        rintro ⟨u', xs, own, e1, e2, z⟩
        cases e1; rw [e] at e2; cases e2; exact z
    · rename_i h
      refine ⟨fun z => z.elim, ?_⟩
      rintro ⟨u, xs, own, e1, _⟩
      exact (h u e1).elim
  | _ => exact Iff.rfl
end
end NW
namespace NW
open PySem PySem.Spec PyProof.Rows L2
section
variable {l : Loc} {st : Sto} {Q : U → Sto → Prop}
theorem fCallP_G {k : Nat} {m : List PyData → Rp} {us : List U} {ds : List PyData} (h : ctrees st us = some ds) (hk : ds.length = k) : (fCallP k m us st).To Q ↔ (m ds).To fun d => (us.any isRef = true → noLst d = true) ∧ Q (.d d) st := by
  unfold fCallP
  rw [h]
  simp only [hk, if_true]
  cases m ds with
  | ok d fr =>
    show (if (!us.any isRef || noLst d) = true then Res.ok (U.d d) st else .no).To Q ↔ _
    rw [to_ite]
    show _ ↔ ((us.any isRef = true → noLst d = true) ∧ Q (U.d d) st)
    cases us.any isRef <;> cases noLst d <;> simp
  | _ => exact Iff.rfl
theorem ctrees_none {us : List U} (h : ctrees st us = none) {k : Nat} {m : List PyData → Rp} : ¬ (fCallP k m us st).To Q := by
  unfold fCallP; rw [h]; exact id
theorem toTree_refN {i : Nat} (h : ∀ xs, st.obs[i]? ≠ some (Ob.lst xs)) : toTree st (.ref i) = none := by
  cases e : toTree st (.ref i) with
  | none => rfl
  | some x => obtain ⟨xs, h1, _⟩ := toTree_ref.mp e; exact absurd h1 (h xs)
@[simp] theorem callP_R {i : Nat} {m : List PyData → Rp} : (fCallP 1 m [.ref i] st).To Q ↔ ∃ xs, st.obs[i]? = some (Ob.lst xs) ∧ (m [.list xs]).To fun d => noLst d = true ∧ Q (.d d) st := by
  by_cases hx : ∃ xs, st.obs[i]? = some (Ob.lst xs)
  · obtain ⟨xs, hx⟩ := hx
    have e : ctrees st [.ref i] = some [.list xs] := by rw [ctrees, toTree_ref.mpr ⟨xs, hx, rfl⟩]; rfl
    refine (fCallP_G e rfl).trans ?_
    simp [hx, isRef]
  · have hx' : ∀ xs, st.obs[i]? ≠ some (Ob.lst xs) := fun xs h => hx ⟨xs, h⟩
    have e : ctrees st [.ref i] = none := by rw [ctrees, toTree_refN hx']
    exact ⟨fun h => (ctrees_none e h).elim, fun ⟨xs, h, _⟩ => (hx' xs h).elim⟩
@[simp] theorem callP_RD {i : Nat} {y : PyData} {m : List PyData → Rp} : (fCallP 2 m [.ref i, .d y] st).To Q ↔ ∃ xs, st.obs[i]? = some (Ob.lst xs) ∧ (m [.list xs, y]).To fun d => noLst d = true ∧ Q (.d d) st := by
  by_cases hx : ∃ xs, st.obs[i]? = some (Ob.lst xs)
  · obtain ⟨xs, hx⟩ := hx
    have e : ctrees st [.ref i, .d y] = some [.list xs, y] := by rw [ctrees, toTree_ref.mpr ⟨xs, hx, rfl⟩]; rfl
    refine (fCallP_G e rfl).trans ?_
    simp [hx, isRef]
  · have hx' : ∀ xs, st.obs[i]? ≠ some (Ob.lst xs) := fun xs h => hx ⟨xs, h⟩
    have e : ctrees st [.ref i, .d y] = none := by rw [ctrees, toTree_refN hx']
    exact ⟨fun h => (ctrees_none e h).elim, fun ⟨xs, h, _⟩ => (hx' xs h).elim⟩
@[simp] theorem callP_DR {i : Nat} {y : PyData} {m : List PyData → Rp} : (fCallP 2 m [.d y, .ref i] st).To Q ↔ ∃ xs, st.obs[i]? = some (Ob.lst xs) ∧ (m [y, .list xs]).To fun d => noLst d = true ∧ Q (.d d) st := by
  by_cases hx : ∃ xs, st.obs[i]? = some (Ob.lst xs)
  · obtain ⟨xs, hx⟩ := hx
    have e : ctrees st [.d y, .ref i] = some [y, .list xs] := by rw [ctrees, ctrees, toTree_ref.mpr ⟨xs, hx, rfl⟩]; rfl
    refine (fCallP_G e rfl).trans ?_
    simp [hx, isRef]
  · have hx' : ∀ xs, st.obs[i]? ≠ some (Ob.lst xs) := fun xs h => hx ⟨xs, h⟩
    have e : ctrees st [.d y, .ref i] = none := by rw [ctrees, ctrees, toTree_refN hx']; rfl
    exact ⟨fun h => (ctrees_none e h).elim, fun ⟨xs, h, _⟩ => (hx' xs h).elim⟩
@[simp] theorem to_max2 {i j : Int} : (cMax2 [.d (.int i), .d (.int j)] st).To Q ↔ Q (.d (.int (if j > i then j else i))) st := Iff.rfl
@[simp] theorem to_min2 {i j : Int} : (cMin2 [.d (.int i), .d (.int j)] st).To Q ↔ Q (.d (.int (if j < i then j else i))) st := Iff.rfl
end
theorem rel_int (i : Int) (t : Tok) : L2.RelV (.int i) (Value.int i t) := ⟨t, rfl⟩
theorem rel_ref (a : Addr) : L2.RelV (.ref a) (Value.ref a) := rfl
theorem sz_ok {n : Nat} (h : n ≤ 1000) : n ≤ sizeLine := by rw [sizeLine_eq]; omega
end NW
namespace NW
open PySem PySem.Spec PyProof.Rows L2
def gSeqM (n : Nat) (r : MTs) : MT := fun u l st => match seqOf st u with
  | some xs => if xs.length = n then r xs l st else .no
  | none => .no
section
variable {l : Loc} {st : Sto}
@[simp] theorem to_gSeqT {n : Nat} {r : MTs} {xs : List PyData} {P : Loc → Sto → Prop} : (gSeqM n r (.d (.tuple xs)) l st).To P ↔ xs.length = n ∧ (r xs l st).To P := by
  show (if xs.length = n then r xs l st else .no).To P ↔ _
  rw [to_ite]; split <;> simp [*]
@[simp] theorem to_gSeqL {n : Nat} {r : MTs} {xs : List PyData} {P : Loc → Sto → Prop} : (gSeqM n r (.d (.list xs)) l st).To P ↔ xs.length = n ∧ (r xs l st).To P := by
  show (if xs.length = n then r xs l st else .no).To P ↔ _
  rw [to_ite]; split <;> simp [*]
end
end NW
namespace NW
open PySem PySem.Spec PyProof.Rows L2
section
variable {G : Gx} {β : List Addr} {st : Sto} {H H' : Hp}
end
def fCallO (k : Nat) (m : List PyData → Rp) (us : List U) (st : Sto) : Res U := match ctrees st us with
  | some ds => if ds.length = k then (match m ds with
    | .ok (.list ys) true => if noLsts ys = true then .ok (.ref st.obs.length) (st.add ys) else .no
    | _ => .no) else .no
  | none => .no
def eCallO (k : Nat) (m : List PyData → Rp) (a : MA) : ME := fun l st => (a l st).bind (fCallO k m)
section
variable {G : Gx}
end
section
variable {X : Cx} {e : Expr} {es : List Expr} {pos p : Pos} {tA : TA} {mA : MA}
end
def Rp.ToF (r : Rp) (P : List PyData → Prop) : Prop := match r with
  | .ok (.list ys) true => P ys
  | _ => False
theorem Rp.ToF.to {r : Rp} {P : List PyData → Prop} {Q : PyData → Prop} (h : r.ToF P) (k : ∀ ys, P ys → Q (.list ys)) : r.To Q := by
  unfold Rp.ToF at h
  split at h
  · exact k _ h
  · exact h.elim
theorem Rp.ToF.mono {r : Rp} {P P' : List PyData → Prop} (h : r.ToF P) (k : ∀ ys, P ys → P' ys) : r.ToF P' := by
  unfold Rp.ToF at h ⊢
  split at h
  · exact k _ h
  · exact h.elim
def retO (P : List PyData → Prop) (u : U) (s : Sto) : Prop := match u with
  | .ref i => ∃ xs, s.obs[i]? = some (Ob.lst xs) ∧ P xs
  | _ => False
@[simp] theorem retO_ref {P : List PyData → Prop} {s : Sto} {i : Nat} : retO P (.ref i) s ↔ ∃ xs, s.obs[i]? = some (Ob.lst xs) ∧ P xs := Iff.rfl
section
variable {l : Loc} {st : Sto} {Q : U → Sto → Prop}
@[simp] theorem to_eCallO {k : Nat} {m : List PyData → Rp} {a : MA} : (eCallO k m a l st).To Q ↔ (a l st).To fun us s => (fCallO k m us s).To Q := by unfold eCallO; simp
end
def eTupRev (m : ME) : ME := fun l st => (m l st).bind fun u st => match listOf st u with
  | some xs => .ok (.d (.tuple xs.reverse)) st
  | none => .no
section
variable {l : Loc} {st : Sto} {Q : U → Sto → Prop}
@[simp] theorem to_eTupRev {m : ME} : (eTupRev m l st).To Q ↔ (m l st).To fun u s => ∃ xs, listOf s u = some xs ∧ Q (.d (.tuple xs.reverse)) s := by
  unfold eTupRev
  rw [to_bind]
  refine iff_of_eq (congrArg _ (funext fun u => funext fun s => propext ?_))
  cases listOf s u <;> simp
@[simp] theorem listOf_l {xs ys : List PyData} : listOf st (.d (.list xs)) = some ys ↔ xs = ys := by
  show some xs = some ys ↔ _
  simp
end
end NW
namespace NW
open PySem PySem.Spec PyProof.Rows L2
abbrev More (K K' : PySem.W.Frag) : Prop := ∀ (b : Addr) (o : Obj), K.lookup b = some o → K'.lookup b = some o
theorem lookup_app : ∀ {K L : List (Addr × Obj)} {b : Addr}, (K ++ L).lookup b = match K.lookup b with | some o => some o | none => L.lookup b
  | [], _, _ => rfl
  | (c, o) :: K, L, b => by
    rw [List.cons_append, List.lookup_cons, List.lookup_cons]
    cases b == c with
    | true => rfl
    | false => exact lookup_app
theorem more_app {K L : PySem.W.Frag} : More K (K ++ L) := fun b o e => by
  show List.lookup b (K ++ L) = some o
  rw [lookup_app, e]
theorem mem_lookup : ∀ {L : List (Addr × Obj)} {b : Addr} {o : Obj}, L.lookup b = some o → (b, o) ∈ L
  | [], _, _, e => by cases e
  | (c, u) :: L, b, o, e => by
    rw [List.lookup_cons] at e
    cases q : b == c with
    | true =>
      rw [q] at e
      have : b = c := by simpa using q
      cases e; subst this; simp
    | false =>
      rw [q] at e
      exact List.mem_cons_of_mem _ (mem_lookup e)
theorem lookup_mem : ∀ {L : List (Addr × Obj)} {b : Addr} {o : Obj}, (b, o) ∈ L → ∃ u, L.lookup b = some u
  | [], _, _, e => by cases e
  | (c, u) :: L, b, o, e => by
    rw [List.lookup_cons]
    cases q : b == c with
    | true => exact ⟨u, rfl⟩
    | false =>
      rcases List.mem_cons.mp e with e | e
      · cases e; simp at q
      · exact lookup_mem e
theorem in_app {K L : PySem.W.Frag} {h : Heap} (kx : K.In h) (lx : ∀ p ∈ L, h.get? p.1 = some p.2) : PySem.W.Frag.In (K ++ L) h := fun b o e => by
  have e' : List.lookup b (K ++ L) = some o := e
  rw [lookup_app] at e'
  cases q : List.lookup b K with
  | some u => rw [q] at e'; cases e'; exact kx b _ q
  | none => rw [q] at e'; exact lx _ (mem_lookup e')
theorem app_in {K L : PySem.W.Frag} {h base : Heap} (kx : K.In h) (lx : ∀ p ∈ L, h.get? p.1 = some p.2) (kb : PySem.W.Frag.In (K ++ L) base) {b : Addr} {o : Obj} (m : (b, o) ∈ L) : base.get? b = some o := by
  have key : List.lookup b (K ++ L) = some o := by
    rw [lookup_app]
    have h0 := lx _ m
    cases q : List.lookup b K with
    | some u =>
      have := kx b u q
      rw [h0] at this; cases this; rfl
    | none =>
      obtain ⟨u, hu⟩ := lookup_mem m
      have := lx _ (mem_lookup hu)
      rw [h0] at this; cases this
      exact hu
  exact kb b o key
theorem More.ns {K K' : PySem.W.Frag} (m : More K K') {g : Addr} {x : Str} {r : Option Value} (e : PySem.W.nsIn K g x = some r) : PySem.W.nsIn K' g x = some r := by
  unfold PySem.W.nsIn at e ⊢
  cases q : List.lookup g K with
  | none => rw [q] at e; cases e
  | some o => rw [m g o q]; rw [q] at e; exact e
theorem More.code {K K' : PySem.W.Frag} (m : More K K') {c : Value} {x : Str} (e : PySem.W.codeIn K c x = true) : PySem.W.codeIn K' c x = true := by
  unfold PySem.W.codeIn at e ⊢
  cases c with
  | ref b =>
    cases q : List.lookup b K with
    | none => simp [q] at e
    | some o => simp only [q] at e; simp only [m b o q]; exact e
  | _ => exact e
theorem keep_fn {K : PySem.W.Frag} {f : Addr} {oc : Value} {od : Option Addr} {fd : FuncData} {sl : Array (Option Value)} (e : K.lookup f = some ⟨oc, od, .func fd, sl⟩) : PySem.W.keepIn K (.ref f) = true := by
  unfold PySem.W.keepIn
  simp only [e]
theorem walk2 {l : PySem.W.OpenLaw} {n k : Nat} {q : Program} {loose : List Str} {XP : (Str → Option Value) → Heap → Prop} {YP : World → Heap → Prop} {d : DefRec} {K : Params → PySem.W.Frag} {sp : PySem.W.Frag → Sp} {x : Str}
    (h1 : l.most = some n) (h2 : n ≤ sizeLine) (h3 : d.params.defaults = []) (h4 : Room k callerA) (h5 : importsNone q = true) (h6 : ∀ (w : World) (h : Heap), YP w h → (K w.params).In h)
    (F : ∀ (w : World) (mg : Str → Option Value) (fa : Addr) (h : Heap) (K' : PySem.W.Frag), More (K w.params) K' → K'.In h → h.Ns mainGlobals mg → mg d.name = some (.ref fa) →
      ∃ fd : FuncData, (∀ (s : Shared) (v : Value), BindsTo s fd ⟨[v], []⟩ [(x, v)]) ∧ ∀ base : Heap, K'.In base → base.Ns mainGlobals mg → base.NoSeer → FnOk l.prog w K' mg base CX0 k fa fd [x] (sp K'))
    (h7 : ∀ (K : PySem.W.Frag) (H : Hp) (a : Addr) (ns : List Int), ns.length ≤ n → Only H → SqL K H a (ns.map V.int) → sp K [.ref a] H (fun v _ => v = .bl true) fun _ _ _ => False) :
    PySem.W.WalkO q loose XP YP l.row.toRowW d [] (fun f vs => PySem.call f vs) := by
  refine Att.attach_call h1 h3 fun w sA sB mg mb fa o pm cd doc a vs ns gr yy _ _ _ hmg hobj hints hlen hgen => ?_
  have kx := h6 w _ yy
  have seer := gr.T.seer h5
  obtain ⟨mc, ⟨oc, ec, pc, c1, c1', c1''⟩, c2⟩ := seer.statics
  obtain ⟨mm, ⟨om, em, pm', m1, m1', m1''⟩, m2⟩ := seer.mods
  obtain ⟨mi, ⟨oi, ei, pi, i1, i1', i1''⟩, i2⟩ := seer.imp
  obtain ⟨ma, bm, ob, ⟨oa, ea, pa, a1, a1', a1''⟩, a2, a3, a4, a5⟩ := seer.main
  have lx : ∀ p ∈ [(cStatics, oc), (sysModules, om), (builtinsNs, oi), (mainGlobals, oa), (bm, ob)], sB.heap.get? p.1 = some p.2 := by
    intro p hp
    simp only [List.mem_cons, List.not_mem_nil, or_false] at hp
    rcases hp with rfl | rfl | rfl | rfl | rfl <;> assumption
  obtain ⟨fd, hb, hF⟩ := F w mg fa _ (K w.params ++ [(cStatics, oc), (sysModules, om), (builtinsNs, oi), (mainGlobals, oa), (bm, ob)]) more_app (in_app kx lx) gr.T.g hmg
  refine law_call (in_app kx lx) gr.T.g gr.T.b gr.T.builtins gr.T.nolimit hgen hobj hints (Nat.le_trans hlen h2) h4 (fun base kb nb => hF base kb nb ?_) hb (fun H hO hS => h7 _ H a ns hlen hO hS) (fun _ _ _ z => z)
  refine ⟨⟨mc, ⟨oc, ec, pc, app_in kx lx kb (by simp), c1', c1''⟩, c2⟩, ⟨mm, ⟨om, em, pm', app_in kx lx kb (by simp), m1', m1''⟩, m2⟩, ⟨mi, ⟨oi, ei, pi, app_in kx lx kb (by simp), i1', i1''⟩, i2⟩, ⟨ma, bm, ob, ⟨oa, ea, pa, app_in kx lx kb (by simp), a1', a1''⟩, a2, app_in kx lx kb (by simp), a4, a5⟩⟩
theorem seX {P : Program} {base : Heap} {A : Around} {fr : List Env} {j : Nat} (h : base.NoSeer ∧ P.given.tree = none) (hr : Room j A) (hj : 32 ≤ j) (hf : ∃ (e1 : Env) (rest : List Env), fr = e1 :: rest ∧ e1.scope.isGenerator = false ∧ e1.scope.isCoroutine = false ∧ e1.builtins = builtinsNs ∧ e1.globals = mainGlobals) : SeX P base A fr :=
  ⟨h.1, h.2, by have := hr.dp; show A.depth + 100 < _; omega, hf⟩
end NW
namespace NW
open PySem PySem.Spec PyProof.Rows L2
section
variable {prog : Program} {w : World} {A : Around} {E : Value → Shared → Prop} {s : Shared} {l : Addr} {its : List Value} {ns : List Int} {Q : Value → Shared → Prop}
end
def cSumA : List U → Sto → Res U := fun us st => match us with
  | [u] => (match (seqOf st u).bind intsOf with
    | some ns => .ok (.d (.int ns.sum)) st
    | none => .no)
  | _ => .no
section
variable {X : Cx} {e : Expr} {pos p : Pos} {tA : TA} {mA : MA}
end
section
variable {st : Sto} {Q : U → Sto → Prop}
@[simp] theorem to_sumAL {ns : List Int} : (cSumA [.d (.list (ns.map .int))] st).To Q ↔ Q (.d (.int ns.sum)) st := by
  show (match intsOf (ns.map PyData.int) with | some ns => Res.ok (U.d (.int ns.sum)) st | none => .no).To Q ↔ _
  rw [intsOf_map]
  exact Iff.rfl
@[simp] theorem to_sumAT {ns : List Int} : (cSumA [.d (.tuple (ns.map .int))] st).To Q ↔ Q (.d (.int ns.sum)) st := by
  show (match intsOf (ns.map PyData.int) with | some ns => Res.ok (U.d (.int ns.sum)) st | none => .no).To Q ↔ _
  rw [intsOf_map]
  exact Iff.rfl
@[simp] theorem flatD_int {i : Int} : flatD (.int i) = true := rfl
end
end NW
namespace NW
open PySem PySem.Spec PyProof.Rows L2 _root_.RT
section
variable {prog : Program} {w : World} {A : Around} {E : Value → Shared → Prop} {s : Shared}
end
def lRev (m : ME) : ML := fun l st => (m l st).bind fun u st => match listOf st u with
  | some xs => .ok xs.reverse st
  | none => .no
section
variable {l : Loc} {st : Sto} {P : List PyData → Sto → Prop}
@[simp] theorem to_lRev {m : ME} : (lRev m l st).To P ↔ (m l st).To fun u s => ∃ xs, listOf s u = some xs ∧ P xs.reverse s := by
  unfold lRev
  rw [to_bind]
  refine iff_of_eq (congrArg _ (funext fun u => funext fun s => propext ?_))
  cases listOf s u <;> simp
end
end NW
namespace NW
open PySem PySem.Spec PyProof.Rows L2
section
variable {G : Gx}
open PySem.W (dataLe AllAlike Sortable EachIs)
def sortOk (ds : List PyData) : Bool := (ds.all fun d => ds.all fun e => PySem.W.alike d e) && ((ds.all fun d => match d with | .tuple (_ :: _) => true | _ => false) || (ds.all fun d => match d with | .none => false | .tuple _ => false | _ => true)) && ds.all fun d => decide (d.depth ≤ 60)
noncomputable def cSortD : List U → Sto → Res (List PyData) := fun us st => match us with
  | [u] => (match listOf st u with
    | some xs => if sortOk xs = true then .ok (xs.mergeSort (dataLe false id)) st else .no
    | none => .no)
  | _ => .no
end
section
variable {X : Cx} {e o : Expr} {pos p : Pos} {tA : TA} {mA : MA} {to : TE} {mo : ME}
end
def ME.nx (m : ME) : Prop := ∀ l st, (m l st).noEx
section
variable {st : Sto} {Q : U → Sto → Prop}
@[simp] theorem to_cSortD {u : U} {P : List PyData → Sto → Prop} : (cSortD [u] st).To P ↔ ∃ xs, listOf st u = some xs ∧ sortOk xs = true ∧ P (xs.mergeSort (PySem.W.dataLe false id)) st := by
  show (match listOf st u with | some xs => if sortOk xs = true then Res.ok (xs.mergeSort (PySem.W.dataLe false id)) st else .no | none => .no).To P ↔ _
  cases e : listOf st u with
  | none => simp
  | some xs => by_cases h : sortOk xs = true <;> simp [h]
end
end NW
namespace NW
open PySem PySem.Spec PyProof.Rows L2
section
variable {X : Cx} {a b : Expr} {ta tb : TE} {ma mb : ME} {pos : Pos}
end
section
variable {st : Sto} {Q : U → Sto → Prop}
end
end NW
namespace NW
open PySem PySem.Spec PyProof.Rows L2
def fIsB (neg : Bool) : U → U → Sto → Res U := fun a b st => match a, b with
  | .d (.bool x), .d (.bool y) => .ok (.d (.bool (if neg then !decide (x = y) else decide (x = y)))) st
  | _, _ => .no
section
variable {X : Cx} {a b : Expr} {ta tb : TE} {ma mb : ME} {pos : Pos}
end
@[simp] theorem to_isB {st : Sto} {Q : U → Sto → Prop} {x y neg : Bool} : (fIsB neg (.d (.bool x)) (.d (.bool y)) st).To Q ↔ Q (.d (.bool (if neg then !decide (x = y) else decide (x = y)))) st := Iff.rfl
end NW
namespace NW
open PySem PySem.Spec PyProof.Rows L2
def lookI (es : List (Int × PyData)) (k : Int) : Option PyData := (es.find? fun e => decide (e.1 = k)).map (·.2)
def rDGet : R2 := fun x y H Q => ∃ a v, x = .ref a ∧ DGet H a y (some v) ∧ Q v H
def fDGet : U → U → Sto → Res U := fun a b st => match a, b with
  | .dct es, .d (.int k) => (match lookI es k with
    | some d => .ok (.d d) st
    | none => .no)
  | _, _ => .no
theorem look_r {K : PySem.W.Frag} {B : Addr → Prop} {H : Hp} {k : Int} {d : PyData} : ∀ {es : List (Int × PyData)} {kvs : List (Key × V)}, kvs.map (·.1) = es.map (fun e => Sum.inl e.1) → RTs K B H (kvs.map (·.2)) (es.map (·.2)) → lookI es k = some d → ∃ v, valV kvs (.inl k) = some v ∧ RT K B H v d
  | [], _, _, _, e => by cases e
  | (k', d') :: es, [], h, _, _ => by cases h
  | (k', d') :: es, (q, v) :: kvs, h1, h2, e => by
    rw [List.map_cons, List.map_cons] at h1 h2
    obtain ⟨hq, h1'⟩ := List.cons.inj h1
    cases h2 with
    | cons r1 r2 =>
      have hq : q = .inl k' := hq
      subst hq
      unfold lookI at e
      rw [List.find?_cons] at e
      by_cases hk : k' = k
      · subst hk
        simp at e
        subst e
        exact ⟨v, valV_pos rfl, r1⟩
      · have : decide (k' = k) = false := decide_eq_false hk
        simp only [this] at e
        obtain ⟨w, w1, w2⟩ := look_r h1' r2 e
        exact ⟨w, by rw [valV_neg (fun z => hk (by cases z; rfl))]; exact w1, w2⟩
theorem r_dget {G : Gx} : SimR G rDGet fDGet := fun β H σ l st re x y a b Q hx hy h => by
  unfold fDGet at h
  split at h
  · rename_i es k
    split at h
    · rename_i d e
      obtain ⟨p, o, kvs, rfl, ⟨hH, _⟩, h3, h4⟩ := hx
      cases hy
      obtain ⟨v, hv, rv⟩ := look_r h3 h4 e
      refine ⟨p, v, rfl, ?_, wpR_d re.rl rv h⟩
      exact .inl ⟨kvs, .inl k, .inr ⟨o, hH⟩, rfl, hv.symm⟩
    · exact h.elim
  · exact h.elim
section
variable {X : Cx} {a b e : Expr} {ta tb : TE} {ma mb : ME} {pos p : Pos} {tA : TA} {mA : MA}
theorem q_dget {k : Nat} (hr : Room k X.A) (ha : QE X a ta ma) (hb : QE X b tb mb) (hs : NoSl b := by exact fun _ _ => rfl) : QE X (.Subscript a b pos) (tOp rDGet ta tb) (eOp fDGet ma mb) := ⟨pe_dget (by have := hr.units; omega) ha.pe hb.pe hs, fun G h => s_op r_dget (ha.sim G h) (hb.sim G h)⟩
end
section
variable {st : Sto} {Q : U → Sto → Prop}
@[simp] theorem to_dget {es : List (Int × PyData)} {k : Int} : (fDGet (.dct es) (.d (.int k)) st).To Q ↔ ∃ d, lookI es k = some d ∧ Q (.d d) st := by
  show (match lookI es k with
    | some d => Res.ok (U.d d) st
    | none => .no).To Q ↔ _
  cases lookI es k <;> simp
end
end NW
namespace NW
open PySem PySem.Spec PyProof.Rows L2
def SqK (K : PySem.W.Frag) (b : Bool) (H : Hp) (a : Addr) (xs : List V) : Prop := match b with | true => SqL K H a xs | false => SqT K H a xs
def ItK (b : Bool) (h : Heap) (it l : Addr) (i : Nat) : Prop := match b with | true => h.IsListIter it l i | false => h.IsTupleIter it l i
def ArK (b : Bool) (h : Heap) (l : Addr) (its : Array Value) : Prop := match b with | true => h.IsList l its | false => h.IsTuple l its
def itObj (b : Bool) (l : Addr) : Obj := match b with | true => { cls := .type "list_iterator", data := .fields #[.ref l, .int 0 0] } | false => { cls := .type "tuple_iterator", data := .fields #[.ref l, .int 0 0] }
theorem ItK.at {b : Bool} {h h' : Heap} {it l : Addr} {i : Nat} (x : ItK b h it l i) (k : ∀ o, h.get? it = some o → h'.get? it = some o) : ItK b h' it l i := by
  cases b
  · exact Heap.IsTupleIter.at (show h.IsTupleIter it l i from x) k
  · exact Heap.IsListIter.at (show h.IsListIter it l i from x) k
theorem ItK.obj {b : Bool} {h : Heap} {it l : Addr} {i : Nat} (x : ItK b h it l i) : ∃ o vs, h.get? it = some o ∧ o.data = .fields vs := by
  cases b
  · obtain ⟨o, e, _, d⟩ := x; exact ⟨o, _, e, d⟩
  · obtain ⟨o, e, _, d⟩ := x; exact ⟨o, _, e, d⟩
theorem ItK.first {b : Bool} {h : Heap} {it l : Addr} (e : h.get? it = some (itObj b l)) : ItK b h it l 0 := by
  cases b
  · exact ⟨_, e, rfl, rfl⟩
  · exact ⟨_, e, rfl, rfl⟩
theorem begins_k {b : Bool} {l : Addr} {its : Array Value} : Begins (.ref l) (itObj b l) (fun h => ArK b h l its) := by
  cases b
  · exact begins_tuple l its
  · exact begins_list l its
theorem draws_k {prog : Program} {w : World} {A : Around} (hh : A.handled = none) {b : Bool} {h : Heap} {it l : Addr} {i : Nat} {its : Array Value} (hne : l ≠ it) (hi : ItK b h it l i) (ha : ArK b h l its) :
    ∃ n P St, Draws prog w A it [it, l] n P St ∧ St i h ∧ i ≤ n ∧ (its.size ≤ i → i = n) ∧ (i < its.size → i < n) ∧ (∀ x, P i x → its[i]? = some x) ∧ (∀ h', St (i + 1) h' → i < its.size → ItK b h' it l (i + 1)) := by
  by_cases hlt : i < its.size
  · cases b
    · exact ⟨its.size, _, _, Draws.tuple hh it l hne its, ⟨hi, ha⟩, Nat.le_of_lt hlt, fun z => absurd hlt (Nat.not_lt.mpr z), id, fun x e => e, fun h' st _ => st.1⟩
    · exact ⟨its.size, _, _, Draws.list hh it l hne its, ⟨hi, ha⟩, Nat.le_of_lt hlt, fun z => absurd hlt (Nat.not_lt.mpr z), id, fun x e => e, fun h' st _ => st.1⟩
  · have hn : its[i]? = none := by simp; omega
    cases b
    · exact ⟨i, _, _, Draws.tupEnd hh it l hne its i hn, ⟨rfl, hi, ha⟩, Nat.le_refl _, fun _ => rfl, fun z => absurd z hlt, fun x e => e.elim, fun h' st z => absurd z hlt⟩
    · refine ⟨i, fun _ _ => False, fun j h => j = i ∧ h.IsListIter it l i ∧ h.IsList l its, ?_, ⟨rfl, hi, ha⟩, Nat.le_refl _, fun _ => rfl, fun z => absurd z hlt, fun x e => e.elim, fun h' st z => absurd z hlt⟩
      exact {
        live := fun _ _ st => let ⟨o, ho, _⟩ := st.2.1; ⟨o, ho⟩
        frame := fun _ _ _ st hk => ⟨st.1, st.2.1.at fun o e => hk it (by simp) o e, st.2.2.at fun o e => hk l (by simp) o e⟩
        item := fun i s Q E hi st hQ => by have := st.1; omega
        done := fun s Q E st hE => wpAny_nextOf_list_end hh st.2.1 st.2.2 hn hE }
theorem seq_k {X : Cx} {pins : List (Addr × Obj)} {σ : L2.St} {H : Hp} {s : Shared} (I : L2.Inv X pins σ H s) {b : Bool} {a : Addr} {xs : List V} (h : SqK X.K b H a xs) :
    ∃ its : List Value, Vals xs its ∧ ArK b s.heap a its.toArray ∧ a < s.heap.objs.size := by
  cases b
  · obtain ⟨its, rv, p, _⟩ := I.tuple h
    exact ⟨its, rv, p, by obtain ⟨o, ho, _⟩ := id p; exact Heap.lt_size ho⟩
  · obtain ⟨its, rv, p, _⟩ := I.list h
    exact ⟨its, rv, p.isList, p.lt⟩
theorem seq_inj {X : Cx} {pins : List (Addr × Obj)} {σ : L2.St} {H : Hp} {s : Shared} (I : L2.Inv X pins σ H s) {b : Bool} {a : Addr} {xs ys : List V} (h : SqK X.K b H a xs) (h2 : SqK X.K b H a ys) : xs = ys := by
  cases b
  · exact I.tuple_inj h h2
  · exact I.list_inj h h2
def ItzK (K : PySem.W.Frag) (b1 b2 : Bool) (a b : Addr) : It :=
  ⟨fun i H => ∃ (xs ys : List V) (x y : V), SqK K b1 H a xs ∧ SqK K b2 H b ys ∧ xs[i]? = some x ∧ ys[i]? = some y,
    fun i H v H' => ∃ T x y, v = .ref T ∧ H T = none ∧ H' = upd H T (.tup [x, y]) ∧ (∀ xs, SqK K b1 H a xs → xs[i]? = some x) ∧ ∀ ys, SqK K b2 H b ys → ys[i]? = some y,
    fun i H => ∃ xs ys : List V, SqK K b1 H a xs ∧ SqK K b2 H b ys ∧ (xs.length ≤ i ∨ ys.length ≤ i)⟩
theorem turn_zipK {P : Program} {w : World} {K : PySem.W.Frag} {elts : List Expr} {kk : Nat} {tpos : Pos} {b1 b2 : Bool} {a b z TI TO i1 i2 : Addr} (S : ZipSep2 z TI TO i1 i2 [i1, a] [i2, b]) (ha : a ≠ i1) (hb : b ≠ i2) :
    Turn P w K (.Tuple elts kk tpos) (ItzK K b1 b2 a b) [z, TI, TO, i1, i2] z (fun i h => IsZip h z TI TO .none ∧ IsTupOf2 h TI (.ref i1) (.ref i2) ∧ (∃ x y, IsTupOf2 h TO x y) ∧ ItK b1 h i1 a i ∧ ItK b2 h i2 b i) where
  mem := by simp
  obj := fun i h st c hc => by
    obtain ⟨hz, hTI, ⟨x, y, hTO⟩, h1, h2⟩ := st
    obtain ⟨o1, v1, e1, d1⟩ := h1.obj
    obtain ⟨o2, v2, e2, d2⟩ := h2.obj
    have e' : c = z ∨ c = TI ∨ c = TO ∨ c = i1 ∨ c = i2 := by simpa using hc
    rcases e' with q | q | q | q | q
    · rw [q]; exact ⟨_, hz, fun v q => nomatch q⟩
    · rw [q]; exact ⟨_, hTI, fun v q => nomatch q⟩
    · rw [q]; exact ⟨_, hTO, fun v q => nomatch q⟩
    · rw [q]; exact ⟨o1, e1, fun v q => by rw [d1] at q; cases q⟩
    · rw [q]; exact ⟨o2, e2, fun v q => by rw [d2] at q; cases q⟩
  keep := fun i h h' st k => by
    obtain ⟨hz, hTI, ⟨x, y, hTO⟩, h1, h2⟩ := st
    exact ⟨k z (by simp) _ hz, k TI (by simp) _ hTI, ⟨x, y, k TO (by simp) _ hTO⟩, h1.at fun o q => k i1 (by simp) o q, h2.at fun o q => k i2 (by simp) o q⟩
  item := by
    intro X hP hw hK hc i pins s σ H E I hf st hg
    subst hP hw hK
    obtain ⟨hz, hTI, ⟨x0, y0, hTO⟩, h1, h2⟩ := st
    obtain ⟨xs, ys, x, y, hqx, hqy, hx, hy⟩ := hg
    obtain ⟨its, rv, p, la⟩ := seq_k I hqx
    obtain ⟨its2, rv2, p2, lb⟩ := seq_k I hqy
    obtain ⟨u, hu, ru⟩ := rv.get hx
    obtain ⟨u2, hu2, ru2⟩ := rv2.get hy
    have hzl : z < s.heap.objs.size := Heap.lt_size hz
    have hh : X.A.in1.handled = none := I.ok.hd hc
    have hu' : its.toArray[i]? = some u := by simpa using hu
    have hu2' : its2.toArray[i]? = some u2 := by simpa using hu2
    have hlt : i < its.toArray.size := by
      have := (List.getElem?_eq_some_iff.mp hu).1
      simpa using this
    have hlt2 : i < its2.toArray.size := by
      have := (List.getElem?_eq_some_iff.mp hu2).1
      simpa using this
    obtain ⟨n1, P1, St1, D1, s1, _, _, l1, k1, f1⟩ := draws_k (prog := X.prog) (w := X.w) hh ha h1 p
    obtain ⟨n2, P2, St2, D2, s2, _, _, l2, k2, f2⟩ := draws_k (prog := X.prog) (w := X.w) hh hb h2 p2
    refine wpAny_pyNext_zipD2_item S D1 D2 hz hTI hTO s1 s2 (l1 hlt) (l2 hlt2) fun x1 x2 h' tk y1 y2 z' TO' st1 st2 hT hsz hk => ?_
    have ex1 : u = x1 := Option.some.inj (hu'.symm.trans (k1 _ y1))
    have ex2 : u2 = x2 := Option.some.inj (hu2'.symm.trans (k2 _ y2))
    subst ex1 ex2
    have h1' := f1 h' st1 hlt
    have h2' := f2 h' st2 hlt2
    refine ⟨_, rfl, wpAny_letOwnedTupleGo_zip (s := { s with heap := h', toks := tk }) z' fun h'' z'' sb => ?_⟩
    have hT2 : h''.get? s.heap.objs.size = some { cls := .type "tuple", data := .seq #[u, u2] } := (sb.2 _ (Nat.ne_of_gt hzl)).trans hT
    have new : ObjOk X.prog X.w (upd H s.heap.objs.size (.tup [x, y])) h'' s.heap.objs.size (.tup [x, y]) :=
      ⟨by show 2 ≤ sizeLine; decide, [u, u2], .cons ru (.cons ru2 .nil), ⟨_, hT2, rfl, _, rfl⟩⟩
    have I1 : L2.Inv X pins σ (upd H s.heap.objs.size (.tup [x, y])) { s with heap := h'', toks := tk } :=
      I.turnedNew (t' := tk) (ch := [z, TI, TO, i1, i2]) (fun c o hb q => (sb.2 c (fun q' => hb (by simp [q']))).trans (hk c o (fun q' => hb (by simp [q'])) (fun q' => hb (by simp [q'])) (fun q' => hb (by simp [q'])) (fun q' => hb (by simp [q'])) q)) hf (Nat.le_refl _) new
    refine ⟨.ref s.heap.objs.size, _, I1, rfl, ⟨_, x, y, rfl, I.hok.fresh (Nat.le_refl _), rfl, fun l hl => by rw [seq_inj I hl hqx]; exact hx, fun l hl => by rw [seq_inj I hl hqy]; exact hy⟩, ⟨z'', ?_, ⟨u, u2, ?_⟩, ?_, ?_⟩, fun c hcm => ?_⟩
    · exact (sb.2 _ S.TIz).trans (hk _ _ S.TIz S.TITO S.TIi1 S.TIi2 hTI)
    · exact (sb.2 _ S.TOz).trans TO'
    · exact h1'.at fun o q => (sb.2 _ S.zi1.symm).trans q
    · exact h2'.at fun o q => (sb.2 _ S.zi2.symm).trans q
    · have hlt : c < s.heap.objs.size := by
        have e' : c = z ∨ c = TI ∨ c = TO ∨ c = i1 ∨ c = i2 := by simpa using hcm
        rcases e' with q | q | q | q | q
        · rw [q]; exact hzl
        · rw [q]; exact Heap.lt_size hTI
        · rw [q]; exact Heap.lt_size hTO
        · rw [q]; obtain ⟨_, _, e1, _⟩ := h1.obj; exact Heap.lt_size e1
        · rw [q]; obtain ⟨_, _, e2, _⟩ := h2.obj; exact Heap.lt_size e2
      rw [upd_ne (Nat.ne_of_lt hlt)]
      exact (hf c hcm).1
  done := by
    intro X hP hw hK hc i pins s σ H E I hf st hg
    subst hP hw hK
    obtain ⟨hz, hTI, ⟨x0, y0, hTO⟩, h1, h2⟩ := st
    obtain ⟨xs, ys, hqx, hqy, hend⟩ := hg
    obtain ⟨its, rv, p, la⟩ := seq_k I hqx
    obtain ⟨its2, rv2, p2, lb⟩ := seq_k I hqy
    have hl1 := rv.length
    have hl2 := rv2.length
    have hh : X.A.in1.handled = none := I.ok.hd hc
    obtain ⟨n1, P1, St1, D1, s1, g1, e1, _⟩ := draws_k (prog := X.prog) (w := X.w) hh ha h1 p
    obtain ⟨n2, P2, St2, D2, s2, g2, e2, _⟩ := draws_k (prog := X.prog) (w := X.w) hh hb h2 p2
    refine wpAny_pyNext_zipD2_end S D1 D2 hz hTI hTO s1 s2 g1 g2 ?_ fun h' tk hk => ?_
    · rcases hend with q | q
      · exact .inl (e1 (by simp; omega))
      · exact .inr (e2 (by simp; omega))
    · exact ⟨rfl, I.turnedL (t' := tk) (ch := [z, TI, TO, i1, i2]) (fun c o hb q =>
        hk c o (fun q' => hb (by simp [q'])) (fun q' => hb (by simp [q'])) (fun q' => hb (by simp [q'])) (fun q' => hb (by simp [q'])) q) hf⟩
  self := fun A i s Q E st h => wpAny_pyIter_zip st.1 h
def iZipX (K : PySem.W.Frag) (ta : TA) : TI := fun σ H R => ta σ H fun vs H1 => ∃ a b b1 b2 xs ys, vs = [.ref a, .ref b] ∧ SqK K b1 H1 a xs ∧ SqK K b2 H1 b ys ∧ R (ItzK K b1 b2 a b) H1
theorem pi_zipX {X : Cx} {e e2 : Expr} {ta : TA} {p pos tpos : Pos} {elts : List Expr} {kk : Nat} (hg : Gl X "zip") (hm : X.mg "zip" = none) (ha : PA X [e, e2] ta)
    (hs : starEach [e, e2] X.env = (false, eval e X.env) :: starEach [e2] X.env := by rfl) (hpl : (backTo pos (starEach [e2] X.env)).any (·.1) = false := by rfl) :
    PI X (.Tuple elts kk tpos) (.Call (.Name "zip" p) [e, e2] [] pos) (iZipX X.K ta) := by
  refine ⟨fun pins s σ H R I h => ?_⟩
  refine Call_ (ld_blt I hg hm PyProof.Rows.boot_zip (PyProof.Rows.callWith_type1 (thn (ha.run pos pins s σ H _ I h) fun us s1 ⟨vs, H1, I1, r1, q1⟩ => ?_) hs hpl))
  obtain ⟨a, b, b1, b2, xs, ys, ex, hqx, hqy, q⟩ := q1
  subst ex
  cases r1 with
  | cons r rr =>
    cases rr with
    | cons r' rr =>
      cases rr
      cases r
      cases r'
      have fresh5 : ∀ c, c ∈ [s1.heap.objs.size + 4, s1.heap.objs.size + 2, s1.heap.objs.size + 3, s1.heap.objs.size, s1.heap.objs.size + 1] → FpOk X pins H1 c := fun c hcm => by
        have e' : c = s1.heap.objs.size + 4 ∨ c = s1.heap.objs.size + 2 ∨ c = s1.heap.objs.size + 3 ∨ c = s1.heap.objs.size ∨ c = s1.heap.objs.size + 1 := by simpa using hcm
        have hle : s1.heap.objs.size ≤ c := by
          rcases e' with z | z | z | z | z
          · rw [z]; exact Nat.le_add_right _ _
          · rw [z]; exact Nat.le_add_right _ _
          · rw [z]; exact Nat.le_add_right _ _
          · rw [z]; exact Nat.le_refl _
          · rw [z]; exact Nat.le_add_right _ _
        exact I1.fpOk hle (I1.hok.fresh hle)
      obtain ⟨its, rv, p1, la⟩ := seq_k I1 hqx
      obtain ⟨its2, rv2, p2, lb⟩ := seq_k I1 hqy
      refine zip_begins2 begins_k begins_k p1 p2 fun h' hz hTI hTO h1 h2 hsz hk => wpAny_pyIter_zip hz ?_
      have I2 : L2.Inv X pins σ H1 { s1 with heap := h' } := I1.kept (t' := s1.toks) hk
      exact ⟨s1.heap.objs.size + 4, [s1.heap.objs.size + 4, s1.heap.objs.size + 2, s1.heap.objs.size + 3, s1.heap.objs.size, s1.heap.objs.size + 1], _, _, H1, rfl, I2, turn_zipK (zip_sep2 (by simpa using la) (by simpa using lb)) (Nat.ne_of_lt la) (Nat.ne_of_lt (Nat.lt_succ_of_lt lb)), ⟨hz, hTI, ⟨_, _, hTO⟩, ItK.first h1, ItK.first h2⟩, fresh5, q⟩
def zipD (xs ys : List PyData) : List PyData := (xs.zip ys).map fun p => .tuple [p.1, p.2]
theorem zipD_get {xs ys : List PyData} {i : Nat} {y : PyData} (h : (zipD xs ys)[i]? = some y) : ∃ a b, xs[i]? = some a ∧ ys[i]? = some b ∧ y = .tuple [a, b] := by
  unfold zipD at h
  rw [List.getElem?_map] at h
  cases e : (xs.zip ys)[i]? with
  | none => rw [e] at h; cases h
  | some p =>
    rw [e] at h
    obtain ⟨h1, h2⟩ := List.getElem?_zip_eq_some.mp e
    simp at h
    exact ⟨p.1, p.2, h1, h2, h.symm⟩
@[simp] theorem zipD_len {xs ys : List PyData} : (zipD xs ys).length = min xs.length ys.length := by simp [zipD]
section
variable {G : Gx} {β : List Addr} {st : Sto} {H : Hp}
def SrcK (G : Gx) (β : List Addr) (st : Sto) (H : Hp) (b : Bool) (p : Addr) (own : List (Nat × List PyData)) (xs : List PyData) : Prop := match b with
  | true => SrcL G β st H p own xs
  | false => own = [] ∧ SrcT G β st H p xs
theorem SrcK.go {b : Bool} {p : Addr} {own : List (Nat × List PyData)} {xs : List PyData} (s : SrcK G β st H b p own xs) {O1 : Addr → Prop} (hO : ∀ p, O1 p → G.O0 p ∨ H p = none) {β1 : List Addr} {H1 : Hp} {st1 : Sto} (f : Fut G β st H β1 st1 H1) (rl : Rl (G.o O1) β1 H1 st1)
    (hk : ∀ q ∈ own, st1.obs[q.1]? = some (Ob.lst q.2)) : ∃ vs, SqK G.K b H1 p vs ∧ RTs G.K (Ban (G.o O1) β1 st1) H1 vs xs := by
  cases b
  · exact s.2 O1 hO β1 H1 st1 f rl
  · exact (show SrcL G β st H p own xs from s) O1 hO β1 H1 st1 f rl hk
theorem src_k (rl : Rl G β H st) {v : V} {u : U} (h : RU G β (Ban G β st) H v u) {xs : List PyData} {own : List (Nat × List PyData)} (e : srcOf st u = some (xs, own)) :
    ∃ p b, v = .ref p ∧ SrcK G β st H b p own xs ∧ ∃ vs, SqK G.K b H p vs := by
  obtain ⟨p, rfl, ⟨s, vs, sq, _⟩ | ⟨rfl, s, vs, sq, _⟩⟩ := src_q rl h e
  · exact ⟨p, true, rfl, s, vs, sq⟩
  · exact ⟨p, false, rfl, ⟨rfl, s⟩, vs, sq⟩
theorem pair2_rt {T : Addr} {x x2 : V} {y y2 : PyData} (rl : Rl G β H st) (hT : H T = none) (r : RT G.K (Ban G β st) H x y) (r2 : RT G.K (Ban G β st) H x2 y2) :
    RT G.K (Ban G β st) (upd H T (.tup [x, x2])) (.ref T) (.tuple [y, y2]) := by
  have f : Fut G β st H β st (upd H T (.tup [x, x2])) := Fut.new hT
  exact .tup (.inl ⟨.inl upd_same, rl.notBan hT⟩) (.cons (f.rt r) (.cons (f.rt r2) .nil))
theorem itzK_r {p p2 : Addr} {b b2 : Bool} {own own2 : List (Nat × List PyData)} {xs ys : List PyData} (s : SrcK G β st H b p own xs) (s2 : SrcK G β st H b2 p2 own2 ys) :
    ItR G β st H (ItzK G.K b b2 p p2) ⟨zipD xs ys, own ++ own2⟩ := fun O1 hO β1 H1 st1 f rl1 hk i => by
  obtain ⟨vs, sq, r⟩ := s.go hO f rl1 fun q hq => hk q (by simp [hq])
  obtain ⟨vs2, sq2, r2⟩ := s2.go hO f rl1 fun q hq => hk q (by simp [hq])
  refine ⟨fun y hy => ?_, fun hi => ⟨vs, vs2, sq, sq2, by rw [r.len, r2.len]; simp at hi; omega⟩⟩
  obtain ⟨y1, y2, hy1, hy2, rfl⟩ := zipD_get hy
  obtain ⟨w, hw, rw1⟩ := r.get hy1
  obtain ⟨w2, hw2, rw2⟩ := r2.get hy2
  refine ⟨⟨vs, vs2, w, w2, sq, sq2, hw, hw2⟩, fun x H' hyl => ?_⟩
  obtain ⟨T, x', x2', rfl, hT, rfl, hx, hx2⟩ := hyl
  have e : w = x' := Option.some.inj (hw.symm.trans (hx vs sq))
  have e2 : w2 = x2' := Option.some.inj (hw2.symm.trans (hx2 vs2 sq2))
  subst e e2
  exact ⟨.inr ⟨T, _, hT, rfl⟩, pair2_rt rl1 hT rw1 rw2⟩
def mZip (a : MA) : MI := fun l st => (a l st).bind fun us st => match us with
  | [u, v] => (match srcOf st u, srcOf st v with
    | some (xs, own), some (ys, own2) => .ok ⟨zipD xs ys, own ++ own2⟩ st
    | _, _ => .no)
  | _ => .no
theorem i_zipX {ta : TA} {a : MA} (h : SimA G ta a) : SimI G (iZipX G.K ta) (mZip a) := fun β H σ l st re R q => by
  refine h β H σ l st re _ (wpR_bind q fun vs us H1 β1 st1 f1 rl1 p1 h1 => ?_)
  split at h1
  · rename_i u v
    split at h1
    · rename_i xs own ys own2 e e2
      have p' : Paired (fun v u => RU G β1 (Ban G β1 st1) H1 v u) vs [u, v] := p1
      cases p' with
      | cons r q =>
        cases q with
        | cons r2 q2 =>
          cases q2
          obtain ⟨p, b, rfl, s, vs, sq⟩ := src_k rl1 r e
          obtain ⟨p2, b2, rfl, s2, vs2, sq2⟩ := src_k rl1 r2 e2
          exact ⟨p, p2, b, b2, vs, vs2, rfl, sq, sq2, h1 _ H1 β1 Fut.refl rl1 (itzK_r s s2)⟩
    · exact h1.elim
  · exact h1.elim
end
theorem qi_zip {X : Cx} {e e2 : Expr} {tA : TA} {mA : MA} {p pos tpos : Pos} {elts : List Expr} {kk : Nat} (hm : X.mg "zip" = none) (h : QA X [e, e2] tA mA) (hg : Gl X "zip" := by rfl)
    (hs : starEach [e, e2] X.env = (false, eval e X.env) :: starEach [e2] X.env := by rfl) (hpl : (backTo pos (starEach [e2] X.env)).any (·.1) = false := by rfl) :
    QI X (.Tuple elts kk tpos) (.Call (.Name "zip" p) [e, e2] [] pos) (iZipX X.K tA) (mZip mA) := ⟨pi_zipX hg hm h.pa hs hpl, fun G hG => hG ▸ i_zipX (h.sim G hG)⟩
section
variable {l : Loc} {st : Sto}
@[simp] theorem to_mZip {a : MA} {Q : ItD → Sto → Prop} : (mZip a l st).To Q ↔ (a l st).To fun us s => ∃ u v xs own ys own2, us = [u, v] ∧ srcOf s u = some (xs, own) ∧ srcOf s v = some (ys, own2) ∧ Q ⟨zipD xs ys, own ++ own2⟩ s := by
  unfold mZip
  rw [to_bind]
  cases a l st with
  | ok us s =>
    simp only [to_ok]
    constructor
    · intro h
      split at h
      · rename_i u v
        split at h
        · rename_i xs own ys own2 e e2
          exact ⟨u, v, xs, own, ys, own2, rfl, e, e2, h⟩
        · exact h.elim
      · exact h.elim
    · rintro ⟨u, v, xs, own, ys, own2, rfl, e, e2, z⟩
      simp only [e, e2]
      exact z
  | _ => exact Iff.rfl
end
def fShl : U → U → Sto → Res U := oI (fun i j => decide (0 ≤ j ∧ j ≤ 1000000 ∧ i.natAbs < 2 ^ 64)) fun i j => .int (i * 2 ^ j.toNat)
@[simp] theorem to_shlI {i j : Int} {st : Sto} {Q : U → Sto → Prop} : (fShl (.d (.int i)) (.d (.int j)) st).To Q ↔ (0 ≤ j ∧ j ≤ 1000000 ∧ i.natAbs < 2 ^ 64) ∧ Q (.d (.int (i * 2 ^ j.toNat))) st := by unfold fShl oI; simp
end NW
namespace PySem.W
open PySem PySem.Calls PyProof.Rows
section
variable {prog : Program} {w : World} {A : Around} {E : Value → Shared → Prop} {s : Shared} {a kS : Addr} {vs : List Value} {e1 : Nat} {P : PySem.Fin → Shared → Prop} {kz : List PyData}
theorem freed_at (h : Heap) (k : Addr) : ∃ g : Heap, g.get? k = none ∧ Heap.SameBut k h g := by
  refine ⟨h.update k fun o => { o with data := .freed }, ?_, Heap.SameBut.update ..⟩
  cases h with
  | mk objs l =>
    show (match (objs.modify k fun o => { o with data := .freed })[k]? with | some ⟨_, _, .freed, _⟩ => none | o => o) = none
    rw [Array.getElem?_modify]
    simp only [if_true]
    cases objs[k]? <;> rfl
theorem keyJ_rest {f : Value} (J : Nat → Shared → List Value → Prop) (nk : s.heap.get? kS = some (seqObj "list" #[] 0)) (na : s.heap.get? a = some (seqObj "list" #[] e1)) (hka : kS ≠ a)
    (hlen : kz.length = vs.length) (hZ : vs.length ≤ sizeLine) (hal : AllAlike kz) (hsk : Sortable kz) (hu : ∀ d, d ∈ kz → A.units + d.depth < cLine) (j0 : J 0 s [])
    (turn : ∀ (i : Nat) (v : Value) (s1 : Shared) (kA : Array Value) (e : Nat), vs[i]? = some v → J i s1 kA.toList → s1.heap.get? kS = some (seqObj "list" kA e) → s1.heap.get? a = some (seqObj "list" #[] e1) →
      wpAny (model prog w) A (call f [v]) (fun u s2 => s2.heap.get? kS = some (seqObj "list" kA e) ∧ s2.heap.get? a = some (seqObj "list" #[] e1) ∧ ∀ h3, Heap.SameBut kS s2.heap h3 → J (i + 1) { s2 with heap := h3 } (kA.toList ++ [u])) (fun _ _ => False) s1)
    (fin : ∀ (s1 : Shared) (ks : List Value), J vs.length s1 ks → EachIs (fun v k => ∃ as, Reads s1.heap v k as) ks kz)
    (h : ∀ (s1 : Shared) (ks : List Value) (h' : Heap) (tk : Nat) (out : List Value) (c : Nat), J vs.length s1 ks → (∀ b o, b ≠ a → b ≠ kS → s1.heap.get? b = some o → h'.get? b = some o) → h'.get? a = some (seqObj "list" out.toArray c) → KeyedOut false kz vs out → P (.done (.ret .none)) { s1 with heap := h', toks := tk }) :
    wpAny (model prog w) A (ksk_rest a f false vs.toArray e1 (.ref kS)) P E s := by
  unfold ksk_rest
  refine wpAny_bind (wpAny_rule ?_)
  first
    | rw [List.forIn_toArray]
    | (rw [← Array.forIn_toList]; simp only [List.toList_toArray])
    | rw [← Array.forIn_toList]
  refine wpAny_bind (ksk_fold (fun i s' => ∃ kA e, s'.heap.get? kS = some (seqObj "list" kA e) ∧ s'.heap.get? a = some (seqObj "list" #[] e1) ∧ kA.size = i ∧ J i s' kA.toList) vs 0 s
    ⟨#[], 0, nk, na, rfl, j0⟩ ?step ?done)
  case step =>
    rintro j x s' hx ⟨kA, e, nk', na', hsz, hJ⟩
    simp only [Nat.zero_add] at hJ hsz ⊢
    have hj : j < vs.length := (List.getElem?_eq_some_iff.mp hx).1
    have hz : kA.size ≤ vs.length := by omega
    refine wpAny_bind (wpAny_attempt (wpAny_mono (turn j x s' kA e hx hJ nk' na') (fun v s'' he => ?_) fun _ _ hF => hF.elim))
    obtain ⟨nk2, na2, hn⟩ := he
    try dsimp only
    have s1 := Heap.SameBut.update s''.heap kS (Obj.mapSeq (·.push v))
    obtain ⟨c2, hc2⟩ : ∃ c2, (s''.heap.update kS (Obj.mapSeq (·.push v))).get? kS = some (seqObj "list" (kA.push v) c2) := ⟨_, get?_update_seq nk2 (·.push v)⟩
    refine wpAny_bind (listUpdate_at nk2 rfl ?_ (Nat.le_trans hz hZ) (Nat.le_trans (Nat.le_of_eq (Array.size_push ..)) (Nat.succ_le_succ (Nat.le_trans hz hZ))))
    have ea : (kA.push v).toList = kA.toList ++ [v] := by simp
    refine wpAny_pure ⟨rfl, kA.push v, c2, hc2, (s1.2 a hka.symm).trans na2, by rw [Array.size_push]; omega, ?_⟩
    rw [ea]
    exact hn _ s1
  case done =>
    rintro s' ⟨kA, e, nk', na', hsz, hJ⟩
    rw [Nat.zero_add] at hsz hJ
    have hk' := fin s' kA.toList hJ
    try dsimp only
    refine wpAny_bind (listItems_at nk' rfl ?_)
    obtain ⟨h₁, hn, sb⟩ := freed_at s'.heap kS
    have kp : KeepsBut a h₁ s'.heap := fun b o hb q => by
      by_cases hbk : b = kS
      · rw [hbk, hn] at q; cases q
      · exact (sb.2 b hbk).symm.trans q
    exact keyH_end (κ := dataKind s'.heap kz) (h₁ := h₁) kp hn nk' na' hka (SortsAt.data (s := s') hk' hal hsk hu) hsz hZ fun h3 tk3 c k3 n3 =>
      h s' kA.toList h3 tk3 _ c hJ (fun b o hb hbk q => k3 b o hb ((sb.2 b hbk).trans q)) n3 ⟨s'.heap, kA.toList, hal, rfl, hk'⟩
theorem sorted_J {l f : Addr} {Q : Value → Shared → Prop} (J : Addr → Nat → Shared → List Value → Prop) (hl : s.heap.IsList l vs.toArray)
    (hlen : kz.length = vs.length) (hZ : vs.length ≤ sizeLine) (hal : AllAlike kz) (hsk : Sortable kz) (hu : ∀ d, d ∈ kz → A.units + 2 + d.depth < cLine)
    (j0 : ∀ (kS : Addr) (h : Heap), s.heap.objs.size ≤ kS → (∀ b o, s.heap.get? b = some o → h.get? b = some o) → J kS 0 { s with heap := h } [])
    (turn : ∀ (kS : Addr) (e1 i : Nat) (v : Value) (s1 : Shared) (kA : Array Value) (e : Nat), kS ≠ s.heap.objs.size + 1 → vs[i]? = some v → J kS i s1 kA.toList → s1.heap.get? kS = some (seqObj "list" kA e) → s1.heap.get? (s.heap.objs.size + 1) = some (seqObj "list" #[] e1) →
      wpAny (model prog w) A.in1.in1 (call (.ref f) [v]) (fun u s2 => s2.heap.get? kS = some (seqObj "list" kA e) ∧ s2.heap.get? (s.heap.objs.size + 1) = some (seqObj "list" #[] e1) ∧ ∀ h3, Heap.SameBut kS s2.heap h3 → J kS (i + 1) { s2 with heap := h3 } (kA.toList ++ [u])) (fun _ _ => False) s1)
    (fin : ∀ (kS : Addr) (s1 : Shared) (ks : List Value), J kS vs.length s1 ks → EachIs (fun v k => ∃ as, Reads s1.heap v k as) ks kz)
    (h : ∀ (kS : Addr) (s1 : Shared) (ks : List Value) (h' : Heap) (tk : Nat) (out : List Value) (c : Nat), kS ≠ s.heap.objs.size + 1 → J kS vs.length s1 ks → (∀ b o, b ≠ s.heap.objs.size + 1 → b ≠ kS → s1.heap.get? b = some o → h'.get? b = some o) → h'.get? (s.heap.objs.size + 1) = some (seqObj "list" out.toArray c) → KeyedOut false kz vs out →
      Q (.ref (s.heap.objs.size + 1)) { s1 with heap := h', toks := tk }) :
    wpAny (model prog w) A (call (.builtin "sorted") [.ref l] [(Str.ofString "key", .ref f)]) Q E s := by
  refine sorted_of_sort hl hZ (ksk_s1 _ _) (fun _ => ksk_l1 _ _) fun E' => ?_
  rw [ksk_t1]
  have ho := copyHeap_at s.heap vs
  have ha : s.heap.objs.size + 1 < (copyHeap s.heap vs).objs.size := Heap.lt_size ho
  obtain ⟨e1, ho1⟩ : ∃ e1, ((copyHeap s.heap vs).update (s.heap.objs.size + 1) (Obj.mapSeq fun _ => (#[] : Array Value))).get? (s.heap.objs.size + 1) = some (seqObj "list" #[] e1) := ⟨_, get?_update_seq ho fun _ => #[]⟩
  have hkS : (((copyHeap s.heap vs).update (s.heap.objs.size + 1) (Obj.mapSeq fun _ => (#[] : Array Value))).push (seqObj "tuple" vs.toArray 0)).objs.size = (copyHeap s.heap vs).objs.size + 1 := by rw [size_push', Heap.size_update]
  unfold ksk_tree
  refine wpAny_bind (listItems_at ho rfl ?_)
  refine wpAny_bind (listUpdate_at ho rfl ?_ (by rw [List.size_toArray]; exact hZ) (Nat.zero_le _))
  refine wpAny_bind (seqEpoch_at ho1 rfl ?_)
  refine wpAny_bind (wpAny_newTuple ?_ (by show vs.length ≤ _; exact hZ))
  refine wpAny_bind (wpAny_newList ?_ (Nat.zero_le _))
  refine wpAny_holding ?_
  have up : ∀ b o, s.heap.get? b = some o → (sortingHeap (copyHeap s.heap vs) (s.heap.objs.size + 1) vs).get? b = some o := fun b o q =>
    sortingHeap_old (Nat.ne_of_lt (Nat.lt_succ_of_lt (Heap.lt_size q))) (copyHeap_old q)
  have hge : s.heap.objs.size ≤ (((copyHeap s.heap vs).update (s.heap.objs.size + 1) (Obj.mapSeq fun _ => (#[] : Array Value))).push (seqObj "tuple" vs.toArray 0)).objs.size := by rw [hkS]; omega
  have hne : (((copyHeap s.heap vs).update (s.heap.objs.size + 1) (Obj.mapSeq fun _ => (#[] : Array Value))).push (seqObj "tuple" vs.toArray 0)).objs.size ≠ s.heap.objs.size + 1 := by rw [hkS]; exact Nat.ne_of_gt (Nat.lt_succ_of_lt ha)
  exact keyJ_rest (A := A.in1.in1) (kz := kz) (s := { s with heap := (((copyHeap s.heap vs).update (s.heap.objs.size + 1) (Obj.mapSeq fun _ => (#[] : Array Value))).push (seqObj "tuple" vs.toArray 0)).push (seqObj "list" #[] 0) })
    (kS := (((copyHeap s.heap vs).update (s.heap.objs.size + 1) (Obj.mapSeq fun _ => (#[] : Array Value))).push (seqObj "tuple" vs.toArray 0)).objs.size) (J _)
    (Heap.get?_push_size _ rfl) (Heap.get?_push_of_some _ (Heap.get?_push_of_some _ ho1)) hne hlen hZ hal hsk hu (j0 _ _ hge up)
    (fun i v s1 kA e => turn _ e1 i v s1 kA e hne) (fun s1 ks => fin _ s1 ks) fun s1 ks h' tk out c hJ k2 n2 ko => ⟨rfl, h _ s1 ks h' tk out c hne hJ k2 n2 ko⟩
end
end PySem.W
namespace NW
open PySem PySem.Spec PyProof.Rows L2
open PySem.W (dataLe AllAlike Sortable EachIs sorted_J keyedOut_each)
def keysOf (m : List PyData → Rp) : List PyData → Option (List PyData)
  | [] => some []
  | x :: xs => match m [x], keysOf m xs with
    | .ok k _, some ks => some (k :: ks)
    | _, _ => none
theorem Vals.snoc {xs : List V} {us : List Value} {x : V} {u : Value} (h : Vals xs us) (r : RelV x u) : Vals (xs ++ [x]) (us ++ [u]) := h.append (.cons r .nil)
theorem RTs.snoc {K : PySem.W.Frag} {B : Addr → Prop} {H : Hp} {v : V} {d : PyData} : ∀ {ds : List PyData} {vs : List V}, RTs K B H vs ds → RT K B H v d → RTs K B H (vs ++ [v]) (ds ++ [d])
  | [], _, h, r => by cases h; exact .cons r .nil
  | x :: xs, _, h, r => by cases h with | cons h1 h2 => exact .cons h1 (RTs.snoc h2 r)
noncomputable def cSortK (m : List PyData → Rp) : List U → Sto → Res (List PyData) := fun us st => match us with
  | [u] => (match listOf st u with
    | some xs => (match keysOf m xs with
      | some ks => if sortOk ks = true then .ok (((xs.zip ks).mergeSort (dataLe false (·.2))).map (·.1)) st else .no
      | none => .no)
    | none => .no)
  | _ => .no
noncomputable def lSortK (m : List PyData → Rp) (a : MA) : ML := fun l st => (a l st).bind (cSortK m)
section
variable {l : Loc} {st : Sto}
@[simp] theorem to_lSortK {m : List PyData → Rp} {a : MA} {Q : List PyData → Sto → Prop} : (lSortK m a l st).To Q ↔ (a l st).To fun us s => ∃ u xs ks, us = [u] ∧ listOf s u = some xs ∧ keysOf m xs = some ks ∧ sortOk ks = true ∧ Q (((xs.zip ks).mergeSort (dataLe false (·.2))).map (·.1)) s := by
  unfold lSortK
  rw [to_bind]
  cases a l st with
  | ok us s =>
    simp only [to_ok]
    unfold cSortK
    constructor
    · intro h
      split at h
      · rename_i u
        split at h
        · rename_i xs e
          split at h
          · rename_i ks e2
            split at h
            · rename_i ok
              exact ⟨u, xs, ks, rfl, e, e2, ok, h⟩
            · exact h.elim
          · exact h.elim
        · exact h.elim
      · exact h.elim
    · rintro ⟨u, xs, ks, rfl, e, e2, ok, z⟩
      simp only [e, e2, ok, if_true]
      exact z
  | _ => exact Iff.rfl
end
end NW
namespace NW
open PySem PySem.Spec PyProof.Rows L2
section
variable {X : Cx} {o e : Expr} {to : TE} {mo : ME} {tA : TA} {mA : MA} {pos : Pos}
end
section
variable {st : Sto} {Q : U → Sto → Prop}
end
end NW
namespace NW
open PySem PySem.Spec PyProof.Rows L2
section
variable {G : Gx}
def eNewD : ME := fun _ st => .ok (.ref st.obs.length) (st.addO (.dct []))
theorem s_newD : SimE G tDNewK eNewD := fun β H σ l st re Q h p hp => by
  obtain ⟨f, rl⟩ := add_ownO (o := .dct []) (h0 := .dK []) re.rl (by intro z; cases z) hp ⟨[], rfl, rfl, .nil⟩
  exact h (.ref p) _ _ f rl ⟨p, by rw [← re.rl.len]; simp, rfl⟩
def sDPutM (o i v : ME) : MS := fun l st => (v l st).out l fun uv st => (o l st).out l fun uo st => (i l st).out l fun ui st => match uv, uo, ui with
  | .d x, .ref k, .d (.int n) => (match st.obs[k]? with
    | some (.dct es) => if (es.all fun e => !decide (e.1 = n)) = true ∧ es.length ≤ 1000 then .nx l (st.putO k (.dct (es ++ [(n, x)]))) else .no
    | _ => .no)
  | _, _, _ => .no
theorem keys_none {kvs : List (Key × V)} {es : List (Int × PyData)} {n : Int} (e : kvs.map (·.1) = es.map (fun e => Sum.inl e.1)) (h : (es.all fun e => !decide (e.1 = n)) = true) : valV kvs (Sum.inl n : Key) = none := by
  have hk : ∀ kv, kv ∈ kvs → ¬ kv.1 = Sum.inl n := fun kv hkv w => by
    have : kv.1 ∈ es.map (fun e => (Sum.inl e.1 : Key)) := by rw [← e]; exact List.mem_map.mpr ⟨kv, hkv, rfl⟩
    obtain ⟨z, hz, ez⟩ := List.mem_map.mp this
    rw [w] at ez
    have ez' : z.1 = n := by injection ez
    have := List.all_eq_true.mp h z hz
    rw [ez'] at this
    simp at this
  unfold valV
  have : kvs.find? (fun kv => decide (kv.1 = (Sum.inl n : Key))) = none := by
    rw [List.find?_eq_none]
    intro kv hkv
    simpa using hk kv hkv
  rw [this]
  rfl
theorem t_dput {to ti tv : TE} {o i v : ME} (ho : SimE G to o) (hi : SimE G ti i) (hv : SimE G tv v) : SimS G (sDPut to ti tv) (sDPutM o i v) := fun β H σ l st re D q =>
  hv β H σ l st re _ (wpS_res re q fun w uv H1 β1 st1 f1 rl1 p1 q1 =>
    ho β1 H1 σ l st1 (f1.re rl1 re) _ (wpS_res (f1.re rl1 re) q1 fun x uo H2 β2 st2 f2 rl2 p2 q2 =>
      hi β2 H2 σ l st2 (f2.re rl2 (f1.re rl1 re)) _ (wpS_res (f2.re rl2 (f1.re rl1 re)) q2 fun y ui H3 β3 st3 f3 rl3 p3 q3 => by
        split at q3
        · rename_i d k n
          split at q3
          · rename_i es he
            split at q3
            · rename_i hc
              obtain ⟨p, hp, rfl⟩ := f3.ru p2
              have ey := ru_int p3
              subst ey
              obtain ⟨p', kvs, a, b, c, r⟩ := rl3.od k es he
              rw [hp] at a
              cases a
              have rv : RT G.K (Ban G β3 st3) H3 w d := f3.ru (f2.ru p1)
              have nk := keys_none c hc.1
              have hl : kvs.length < sizeLine := by
                have e1 := congrArg List.length c
                rw [List.length_map, List.length_map] at e1
                rw [sizeLine_eq]
                omega
              obtain ⟨f4, rl4⟩ := put_ownO (o' := .dct (es ++ [(n, d)])) (h0 := .dK (kvs ++ [((Sum.inl n : Key), w)])) rl3 he (by intro z; cases z) (by intro z; cases z) hp ⟨_, rfl, by rw [List.map_append, List.map_append, c]; rfl, by
                rw [List.map_append, List.map_append]
                exact RTs.snoc r rv⟩
              refine ⟨p, _, rfl, DPut.k (k := Sum.inl n) (v := w) b hl, ?_⟩
              rw [putK_new w nk]
              exact q3 σ _ β3 f4 (f4.re rl4 (f3.re rl3 (f2.re rl2 (f1.re rl1 re))))
            · exact q3.elim
          · exact q3.elim
        · exact q3.elim)))
end
section
variable {X : Cx} {o i e value : Expr} {to ti tv : TE} {mo mi mv : ME} {pos pos' : Pos}
theorem q_newD : QE X (.Dict [] [] pos) tDNewK eNewD := ⟨pe_dnewK, fun _ _ => s_newD⟩
theorem qs_dput {k : Nat} (hr : Room k X.A) (ho : QE X o to mo) (hi : QE X i ti mi) (hv : QE X value tv mv) (hs : swapsWith value (some (.Subscript o i pos')) pos.line X.env = pure false := by rfl) : QS X (.Assign [.Subscript o i pos'] value pos) (sDPut to ti tv) (sDPutM mo mi mv) :=
  ⟨ps_dput (by have := hr.un; omega) ho.pe hi.pe hv.pe hs, fun G h => t_dput (ho.sim G h) (hi.sim G h) (hv.sim G h)⟩
end
inductive Rdc where
  | ok (es : List (Int × PyData)) | no
section
variable {P : Program} {w : World} {K : PySem.W.Frag} {mg : Str → Option Value} {base : Heap}
end
section
variable {K : PySem.W.Frag} {B : Addr → Prop} {H : Hp} {p : Addr} {kvs : List (Key × V)} {od : Obj}
theorem rd_lock {a : Addr} {xs : List V} (hp : H p = some (.dK kvs)) (h : Rd H a (.tup xs)) : Rd (upd H p (.frz od (.dK kvs))) a (.tup xs) := by
  have ne : a ≠ p := fun e => by
    subst e
    rcases h with h | ⟨o, h⟩ <;> · rw [hp] at h; cases h
  unfold Rd
  rw [upd_ne ne]
  exact h
mutual
theorem RT.lock (hp : H p = some (.dK kvs)) : ∀ (d : PyData) (v : V), RT K B H v d → RT K B (upd H p (.frz od (.dK kvs))) v d
  | .none, _, h => by cases h; exact .non
  | .bool b, _, h => by cases h; exact .bl b
  | .int i, _, h => by cases h; exact .int i
  | .str x, _, h => by cases h; exact .str x
  | .list ds, _, h => by
    cases h with
    | lst hs ha =>
      refine .lst ⟨?_, hs.2⟩ (RTs.lock hp ds _ ha)
      rw [upd_ne (fun e => by subst e; rw [hs.1] at hp; cases hp)]
      exact hs.1
  | .tuple ds, _, h => by
    cases h with
    | tup hs ha => exact .tup (hs.imp (fun z => ⟨rd_lock hp z.1, z.2⟩) id) (RTs.lock hp ds _ ha)
  | .dict _, _, h => by cases h
theorem RTs.lock (hp : H p = some (.dK kvs)) : ∀ (ds : List PyData) (vs : List V), RTs K B H vs ds → RTs K B (upd H p (.frz od (.dK kvs))) vs ds
  | [], _, h => by cases h; exact .nil
  | d :: ds, _, h => by
    cases h with
    | cons h1 h2 => exact .cons (RT.lock hp d _ h1) (RTs.lock hp ds _ h2)
end
end
def fCallDc (k : Nat) (m : List PyData → Rdc) (us : List U) (st : Sto) : Res U := match ctrees st us with
  | some ds => if ds.length = k ∧ us.any isRef = false then (match m ds with
    | .ok es => .ok (.dct es) st
    | .no => .no) else .no
  | none => .no
def eCallDc (k : Nat) (m : List PyData → Rdc) (a : MA) : ME := fun l st => (a l st).bind (fCallDc k m)
section
variable {G : Gx}
def cListDc : List U → Sto → Res (List PyData) := fun us st => match us with
  | [.dct es] => .ok (es.map fun e => .int e.1) st
  | _ => .no
end
section
variable {X : Cx} {e : Expr} {es : List Expr} {pos p : Pos} {tA : TA} {mA : MA}
end
def Rdc.To (r : Rdc) (P : List (Int × PyData) → Prop) : Prop := match r with
  | .ok es => P es
  | .no => False
theorem Rdc.To.mono {r : Rdc} {P Q : List (Int × PyData) → Prop} (h : r.To P) (k : ∀ es, P es → Q es) : r.To Q := by
  cases r with
  | ok es => exact k es h
  | no => exact h
def retDc (P : List (Int × PyData) → Prop) (u : U) (s : Sto) : Prop := match u with
  | .ref i => ∃ es, s.obs[i]? = some (Ob.dct es) ∧ P es
  | _ => False
@[simp] theorem retDc_ref {P : List (Int × PyData) → Prop} {s : Sto} {i : Nat} : retDc P (.ref i) s ↔ ∃ es, s.obs[i]? = some (Ob.dct es) ∧ P es := Iff.rfl
section
variable {st : Sto} {Q : U → Sto → Prop} {N : Loc → Sto → Prop} {R : U → Sto → Prop} {l : Loc}
theorem noRef_d : ∀ ds : List PyData, (ds.map U.d).any isRef = false
  | [] => rfl
  | d :: ds => by rw [List.map_cons, List.any_cons, noRef_d ds]; rfl
theorem fCallDc_d {k : Nat} {m : List PyData → Rdc} {ds : List PyData} (h : ds.length = k) : (fCallDc k m (ds.map U.d) st).To Q ↔ (m ds).To fun es => Q (.dct es) st := by
  unfold fCallDc
  rw [ctrees_d]
  dsimp only
  rw [if_pos ⟨h, noRef_d ds⟩]
  cases m ds with
  | ok es => exact Iff.rfl
  | no => exact Iff.rfl
@[simp] theorem callDc_1 {m : List PyData → Rdc} {x : PyData} : (fCallDc 1 m [.d x] st).To Q ↔ (m [x]).To fun es => Q (.dct es) st := fCallDc_d (ds := [x]) rfl
@[simp] theorem callDc_2 {m : List PyData → Rdc} {x y : PyData} : (fCallDc 2 m [.d x, .d y] st).To Q ↔ (m [x, y]).To fun es => Q (.dct es) st := fCallDc_d (ds := [x, y]) rfl
@[simp] theorem to_eCallDc {k : Nat} {m : List PyData → Rdc} {a : MA} : (eCallDc k m a l st).To Q ↔ (a l st).To fun us s => (fCallDc k m us s).To Q := by unfold eCallDc; simp
@[simp] theorem to_newD : (eNewD l st).To Q ↔ Q (.ref st.obs.length) (st.addO (.dct [])) := Iff.rfl
@[simp] theorem to_listDc {es : List (Int × PyData)} {P : List PyData → Sto → Prop} : (cListDc [.dct es] st).To P ↔ P (es.map fun e => .int e.1) st := Iff.rfl
@[simp] theorem to_sDPut {o i v : ME} : (sDPutM o i v l st).To N R ↔ (v l st).To fun uv st => (o l st).To fun uo st => (i l st).To fun ui st => ∃ (x : PyData) (k : Nat) (n : Int) (es : List (Int × PyData)), uv = .d x ∧ uo = .ref k ∧ ui = .d (.int n) ∧ st.obs[k]? = some (.dct es) ∧ ((es.all fun e => !decide (e.1 = n)) = true ∧ es.length ≤ 1000) ∧ N l (st.putO k (.dct (es ++ [(n, x)]))) := by
  unfold sDPutM
  simp only [to_out]
  have key : ∀ (uv uo ui : U) (st : Sto), (match uv, uo, ui with
    | .d x, .ref k, .d (.int n) => (match st.obs[k]? with
      | some (.dct es) => if (es.all fun e => !decide (e.1 = n)) = true ∧ es.length ≤ 1000 then Out.nx l (st.putO k (.dct (es ++ [(n, x)]))) else .no
      | _ => .no)
    | _, _, _ => .no).To N R ↔ ∃ (x : PyData) (k : Nat) (n : Int) (es : List (Int × PyData)), uv = .d x ∧ uo = .ref k ∧ ui = .d (.int n) ∧ st.obs[k]? = some (.dct es) ∧ ((es.all fun e => !decide (e.1 = n)) = true ∧ es.length ≤ 1000) ∧ N l (st.putO k (.dct (es ++ [(n, x)]))) := by
    intro uv uo ui st
    constructor
    · intro h
      split at h
      · rename_i x k n
        split at h
        · rename_i es he
          split at h
          · rename_i hc
            exact ⟨x, k, n, es, rfl, rfl, rfl, he, hc, h⟩
          · exact h.elim
        · exact h.elim
      · exact h.elim
    · rintro ⟨x, k, n, es, rfl, rfl, rfl, he, hc, h⟩
      dsimp only
      rw [he]
      dsimp only
      rw [if_pos hc]
      exact h
  refine ⟨fun h => ?_, fun h => ?_⟩
  · exact h.mono fun uv s h => h.mono fun uo s h => h.mono fun ui s h => (key uv uo ui s).mp h
  · exact h.mono fun uv s h => h.mono fun uo s h => h.mono fun ui s h => (key uv uo ui s).mpr h
end
end NW
namespace NW
open PySem PySem.Spec PyProof.Rows L2
section
variable {G : Gx} {β : List Addr} {H : Hp} {st : Sto}
theorem itk_r {p : Addr} {o : Obj} {kvs : List (Key × V)} {es : List (Int × PyData)} (hH : H p = some (.frz o (.dK kvs))) (nb : ¬ Ban G β st p) (hk : kvs.map (·.1) = es.map (fun e => (Sum.inl e.1 : Key))) : ItR G β st H (Itk p o kvs) ⟨es.map fun e => .int e.1, []⟩ := fun O1 hO β1 H1 st1 f rl1 _ i => by
  have h1 : H1 p = some (.frz o (.dK kvs)) := (f.stay p _ hH (fun w => nb (.inr w))).1
  have hl : kvs.length = es.length := by
    have := congrArg List.length hk
    rwa [List.length_map, List.length_map] at this
  refine ⟨fun y hy => ?_, fun hi => ⟨h1, by rw [hl]; simpa using hi⟩⟩
  have hlt : i < es.length := by
    have := (List.getElem?_eq_some_iff.mp hy).1
    simpa using this
  refine ⟨⟨h1, by omega⟩, fun x H' hyl => ?_⟩
  obtain ⟨rfl, k, v, e1, rfl⟩ := hyl
  have e2 := congrArg (fun z => z[i]?) hk
  simp only [List.getElem?_map, e1, Option.map_some, List.getElem?_eq_getElem hlt] at e2
  simp only [List.getElem?_map, List.getElem?_eq_getElem hlt, Option.map_some, Option.some.injEq] at hy
  have e3 : k = Sum.inl es[i].1 := Option.some.inj e2
  subst e3
  subst hy
  exact ⟨.inl rfl, .int _⟩
def mDct (m : ME) : MI := fun l st => (m l st).bind fun u st => match u with
  | .dct es => .ok ⟨es.map fun e => .int e.1, []⟩ st
  | _ => .no
theorem i_dct {t : TE} {m : ME} (h : SimE G t m) : SimI G (iKeys t) (mDct m) := fun β H σ l st re R q => by
  refine h β H σ l st re _ (wpR_bind q fun v u H1 β1 st1 f1 rl1 p1 h1 => ?_)
  split at h1
  · rename_i es
    obtain ⟨p, o, kvs, rfl, ⟨hH, nb⟩, hk, hr⟩ := p1
    exact ⟨p, o, rfl, .inl ⟨kvs, hH, h1 _ H1 β1 Fut.refl rl1 (itk_r hH nb hk)⟩⟩
  · exact h1.elim
def fEqE : U → U → Sto → Res U := fun a b st => match a, b with
  | .dct es, .ref j => (match st.obs[j]? with
    | some (.dct []) => .ok (.d (.bool es.isEmpty)) st
    | _ => .no)
  | _, _ => .no
end
section
variable {X : Cx} {a b e tg : Expr} {ta tb te : TE} {ma mb me : ME} {pos : Pos}
theorem qi_dct (h : QE X e te me) : QI X tg e (iKeys te) (mDct me) := ⟨pi_keys h.pe, fun G hG => i_dct (h.sim G hG)⟩
end
section
variable {st : Sto} {Q : U → Sto → Prop} {l : Loc}
@[simp] theorem to_mDct {m : ME} {R : ItD → Sto → Prop} : (mDct m l st).To R ↔ (m l st).To fun u s => ∃ es, u = .dct es ∧ R ⟨es.map fun e => .int e.1, []⟩ s := by
  unfold mDct
  rw [to_bind]
  refine iff_of_eq (congrArg _ (funext fun u => funext fun s => propext ?_))
  cases u <;> simp
@[simp] theorem to_eqE {es : List (Int × PyData)} {j : Nat} : (fEqE (.dct es) (.ref j) st).To Q ↔ st.obs[j]? = some (.dct []) ∧ Q (.d (.bool es.isEmpty)) st := by
  show (match st.obs[j]? with
    | some (.dct []) => Res.ok (U.d (.bool es.isEmpty)) st
    | _ => .no).To Q ↔ _
  constructor
  · intro h
    split at h
    · rename_i he
      exact ⟨he, h⟩
    · exact h.elim
  · rintro ⟨he, h⟩
    rw [he]
    exact h
end
end NW
namespace NW
open PySem PySem.Spec PyProof.Rows L2
def lZip (a : MA) : ML := fun l st => (a l st).bind fun us st => match us with
  | [u, v] => (match listOf st u, listOf st v with
    | some xs, some ys => .ok (zipD xs ys) st
    | _, _ => .no)
  | _ => .no
section
variable {l : Loc} {st : Sto}
@[simp] theorem to_lZip {a : MA} {P : List PyData → Sto → Prop} : (lZip a l st).To P ↔ (a l st).To fun us s => ∃ u v xs ys, us = [u, v] ∧ listOf s u = some xs ∧ listOf s v = some ys ∧ P (zipD xs ys) s := by
  unfold lZip
  rw [to_bind]
  cases a l st with
  | ok us s =>
    simp only [to_ok]
    constructor
    · intro h
      split at h
      · rename_i u v
        split at h
        · rename_i xs ys e e2
          exact ⟨u, v, xs, ys, rfl, e, e2, h⟩
        · exact h.elim
      · exact h.elim
    · rintro ⟨u, v, xs, ys, rfl, e, e2, z⟩
      simp only [e, e2]
      exact z
  | _ => exact Iff.rfl
end
section
variable {prog : Program} {w : World} {A : Around} {E : Value → Shared → Prop} {s : Shared} {z TI TO i1 i2 l1 l2 d : Addr} {xs ys : Array Value}
structure ZOff (d z TI TO i1 i2 l1 l2 : Addr) : Prop where
  z : z ≠ d
  TI : TI ≠ d
  TO : TO ≠ d
  i1 : i1 ≠ d
  i2 : i2 ≠ d
  l1 : l1 ≠ d
  l2 : l2 ≠ d
end
section
variable {prog : Program} {w : World} {A : Around} {E : Value → Shared → Prop} {s : Shared} {z TI TO i1 i2 l1 l2 d : Addr} {xs ys : Array Value}
end
end NW
namespace NW
open PySem PySem.Spec PyProof.Rows L2 _root_.RT
section
variable {prog : Program} {w : World} {A : Around} {E : Value → Shared → Prop} {s : Shared}
end
def eTupRevT (m : ME) : ME := fun l st => (m l st).bind fun u st => match u with
  | .d (.tuple xs) => if xs.isEmpty = true then .no else .ok (.d (.tuple xs.reverse)) st
  | _ => .no
section
variable {l : Loc} {st : Sto} {Q : U → Sto → Prop}
@[simp] theorem to_eTupRevTV {i : Nat} : (eTupRevT (eVar i) l st).To Q ↔ ∃ xs, l[i]? = some (some (.d (.tuple xs))) ∧ xs ≠ [] ∧ Q (.d (.tuple xs.reverse)) st := by
  have key : (eTupRevT (eVar i) l st).To Q ↔ (eVar i l st).To fun u s => ∃ xs, u = .d (.tuple xs) ∧ xs ≠ [] ∧ Q (.d (.tuple xs.reverse)) s := by
    unfold eTupRevT
    rw [to_bind]
    refine iff_of_eq (congrArg _ (funext fun u => funext fun s => propext ?_))
    cases u with
    | d x =>
      cases x with
      | tuple xs =>
        show (if xs.isEmpty = true then Res.no else Res.ok (U.d (.tuple xs.reverse)) s).To Q ↔ _
        cases xs with
        | nil => simp
        | cons x xs => simp
      | _ => simp
    | _ => simp
  rw [key]
  simp
  constructor
  · rintro ⟨u, h1, xs, rfl, h2, h3⟩
    exact ⟨xs, h1, h2, h3⟩
  · rintro ⟨xs, h1, h2, h3⟩
    exact ⟨_, h1, xs, rfl, h2, h3⟩
end
end NW
namespace NW
open PySem PySem.Spec PyProof.Rows L2
def dctOf (st : Sto) : U → Option (List (Int × PyData))
  | .dct es => some es
  | .ref i => (match st.obs[i]? with
    | some (.dct es) => some es
    | _ => none)
  | _ => none
def rDNotIn : R2 := fun y x H Q => ∃ a o, x = .ref a ∧ DGet H a y o ∧ Q (.bl (!o.isSome)) H
theorem op_dnotin {X : Cx} (hu : X.A.units + 1 < cLine) : OpR X (compareOp .NotIn) rDNotIn := by
  intro pins s σ H y x iv u Q I ry rx h
  obtain ⟨a, ov, rfl, g, q⟩ := h
  obtain rfl : u = Value.ref a := rx
  exact d_notIn hu I g ry fun s3 I3 => ⟨.bl (!ov.isSome), H, I3, rfl, q⟩
def fDIn (neg : Bool) : U → U → Sto → Res U := fun a b st => match a, dctOf st b with
  | .d (.int k), some es => .ok (.d (.bool (if neg then !(es.any fun e => decide (e.1 = k)) else es.any fun e => decide (e.1 = k)))) st
  | _, _ => .no
theorem valV_any {k : Int} : ∀ {es : List (Int × PyData)} {kvs : List (Key × V)}, kvs.map (·.1) = es.map (fun e => Sum.inl e.1) → (valV kvs (Sum.inl k : Key)).isSome = es.any fun e => decide (e.1 = k)
  | [], [], _ => rfl
  | [], _ :: _, h => by simp at h
  | _ :: _, [], h => by simp at h
  | (k', d') :: es, (q, v) :: kvs, h => by
    rw [List.map_cons, List.map_cons] at h
    obtain ⟨hq, h'⟩ := List.cons.inj h
    have hq : q = .inl k' := hq
    subst hq
    rw [List.any_cons]
    by_cases hk : k' = k
    · subst hk
      rw [valV_pos rfl]
      simp
    · rw [valV_neg (fun z => hk (by cases z; rfl)), valV_any h']
      simp [hk]
theorem dct_rd {G : Gx} {β : List Addr} {H : Hp} {st : Sto} {v : V} {u : U} (rl : Rl G β H st) (h : RU G β (Ban G β st) H v u) {es : List (Int × PyData)} (e : dctOf st u = some es) :
    ∃ (p : Addr) (kvs : List (Key × V)), v = .ref p ∧ Rd H p (.dK kvs) ∧ kvs.map (·.1) = es.map (fun e => Sum.inl e.1) := by
  unfold dctOf at e
  split at e
  · cases e
    obtain ⟨p, o, kvs, rfl, ⟨hH, _⟩, h3, h4⟩ := h
    exact ⟨p, kvs, rfl, .inr ⟨o, hH⟩, h3⟩
  · split at e
    · rename_i he
      cases e
      obtain ⟨p, hp, rfl⟩ := h
      obtain ⟨p', kvs, a, b, c, _⟩ := rl.od _ _ he
      rw [hp] at a
      cases a
      exact ⟨p, kvs, rfl, .inl b, c⟩
    · cases e
  · cases e
theorem r_dnotin {G : Gx} : SimR G rDNotIn (fDIn true) := fun β H σ l st re x y a b Q hx hy h => by
  unfold fDIn at h
  split at h
  · rename_i k es e
    cases ru_int hx
    obtain ⟨p, kvs, rfl, hr, hk⟩ := dct_rd re.rl hy e
    refine ⟨p, valV kvs (Sum.inl k), rfl, .inl ⟨kvs, Sum.inl k, hr, rfl, rfl⟩, ?_⟩
    rw [valV_any hk]
    exact wpR_d re.rl (.bl _) h
  · exact h.elim
section
variable {X : Cx} {a b : Expr} {ta tb : TE} {ma mb : ME} {pos : Pos}
theorem qt_dnotin {k : Nat} (hr : Room k X.A) (ha : QE X a ta ma) (hb : QE X b tb mb) (hm : behindInMarks .NotIn b = false := by rfl) : QT X (.Compare a [.NotIn] [b] pos) (tTest (tOp rDNotIn ta tb)) (bTest (eOp (fDIn true) ma mb)) := ⟨pt_cmpR (op_dnotin (by have := hr.un; omega)) ha.pe hb.pe hm, fun G h => s_test (s_op r_dnotin (ha.sim G h) (hb.sim G h))⟩
end
section
variable {G : Gx} {β β' : List Addr} {H H' : Hp} {σ : L2.St} {l : Loc} {st st' : Sto} {i j : Nat} {p : Addr} {es : List (Int × PyData)} {kvs : List (Key × V)} {od : Obj}
theorem own_dead {q : Addr} (h : Own G β (st.putO j .dead) q) : Own G β st q := by
  rcases h with ⟨h1, h2⟩ | ⟨i', o, h1, h2, h3⟩
  · exact .inl ⟨h1, h2⟩
  · by_cases e : i' = j
    · subst e
      unfold Sto.putO at h1
      by_cases hi : i' < st.obs.length
      · simp [hi] at h1
        exact absurd h1.symm h2
      · simp [hi] at h1
    · exact .inr ⟨i', o, by simpa [Sto.putO, List.getElem?_set_ne (Ne.symm e)] using h1, h2, h3⟩
theorem not_own_dead (rl : Rl G β H st) (hp : β[j]? = some p) : ¬ Own G β (st.putO j .dead) p := fun h => by
  rcases h with ⟨h1, h2⟩ | ⟨i', o, h1, h2, h3⟩
  · have h1' : st.fl.isSome = true := h1
    cases e : st.fl with
    | none => rw [e] at h1'; cases h1'
    | some f => exact (rl.flo f e).2 (h2 ▸ List.mem_of_getElem? hp)
  · have e := ix_inj rl.nodup h3 hp
    subst e
    unfold Sto.putO at h1
    by_cases hi : i' < st.obs.length
    · simp [hi] at h1
      exact h2 h1.symm
    · simp [hi] at h1
theorem lock_re (re : Re G β H σ l st) (hl : l[i]? = some (some (.ref j))) (hj : st.obs[j]? = some (.dct es)) : ∃ (p : Addr) (kvs : List (Key × V)), H p = some (.dK kvs) ∧ β[j]? = some p ∧ kvs.map (·.1) = es.map (fun e => Sum.inl e.1) ∧ RTs G.K (Ban G β st) H (kvs.map (·.2)) (es.map (·.2)) ∧
    ∀ od, Fut G β st H β (st.putO j .dead) (upd H p (.frz od (.dK kvs))) ∧ Re G β (upd H p (.frz od (.dK kvs))) σ (l.set i (some (.dct es))) (st.putO j .dead) := by
  have rl := re.rl
  obtain ⟨p, kvs, hp, hH, hk, hr⟩ := rl.od j es hj
  have op : Own G β st p := .inr ⟨j, _, hj, (by intro z; cases z), hp⟩
  refine ⟨p, kvs, hH, hp, hk, hr, fun od => ?_⟩
  have fO : Fut G β st H β (st.putO j .dead) (upd H p (.frz od (.dK kvs))) := by
    refine ⟨⟨[], by simp, by simp⟩, fun b hb => ?_, fun b o' h' n1 => ?_⟩
    · by_cases e : b = p
      · rw [e, upd_same]; simp
      · rw [upd_ne e]; exact hb
    · have e : b ≠ p := fun e => n1 (e ▸ op)
      exact ⟨by rw [upd_ne e]; exact h', fun w => n1 (own_dead w)⟩
  have rl1 : Rl G β (upd H p (.frz od (.dK kvs))) (st.putO j .dead) := by
    refine ⟨by simp [Sto.putO, rl.len], rl.nodup, fun q hq => fO.there q (rl.trk q hq), fun i' zs h' nd => ?_, fun g hg => ?_, fun q hq => rl.o0_fut fO q hq fun w => (rl.o0 q hq).2.1 (own_dead w)⟩
    · by_cases e : i' = j
      · subst e
        have hi := (List.getElem?_eq_some_iff.mp hj).1
        simp [Sto.putO, hi] at h'
        exact absurd h'.symm nd
      · obtain ⟨q, ws, a, b, c⟩ := rl.oo i' zs (by simpa [Sto.putO, List.getElem?_set_ne (Ne.symm e)] using h') nd
        have ne : q ≠ p := fun z => e (ix_inj rl.nodup a (z ▸ hp))
        exact ⟨q, ws, a, by rw [upd_ne ne]; exact b, fO.obr c⟩
    · obtain ⟨⟨a, b⟩, c⟩ := rl.flo g hg
      have ne : G.fa ≠ p := fun z => c (z ▸ List.mem_of_getElem? hp)
      exact ⟨⟨by rw [upd_ne ne]; exact a, b.fut fO⟩, c⟩
  refine ⟨fO, rl1, by rw [List.length_set]; exact re.lo.len, fun i' u e => ?_⟩
  by_cases hi : i' = i
  · subst hi
    have hlt := (List.getElem?_eq_some_iff.mp hl).1
    rw [List.getElem?_set_self hlt] at e
    cases e
    obtain ⟨v, h1, p', h2, rfl⟩ := re.lo.at_ i' _ hl
    rw [hp] at h2
    cases h2
    exact ⟨_, h1, p, od, kvs, rfl, ⟨upd_same, fun w => w.elim (fun w => (rl.o0 p w).2.1 op) (not_own_dead rl hp)⟩, hk, fO.rts hr⟩
  · rw [List.getElem?_set_ne (Ne.symm hi)] at e
    obtain ⟨v, h1, h2⟩ := re.lo.at_ i' u e
    exact ⟨v, h1, fO.ru h2⟩
def mLkS (i : Nat) (m : MS) : MS := fun l st => match l[i]? with
  | some (some (.ref j)) => (match st.obs[j]? with
    | some (.dct es) => m (l.set i (some (.dct es))) (st.putO j .dead)
    | _ => .no)
  | _ => .no
def tLkS (t : TS) : TS := fun D σ H => ∃ d u, H d = some u ∧ Mut (some u) ∧ ∀ od : Obj, t D σ (upd H d (.frz od u))
theorem ps_lkS {X : Cx} {s : Stmt} {t : TS} (h : PS X s t) : PS X s (tLkS t) := by
  refine ⟨fun pins s σ H D I hw => ?_⟩
  obtain ⟨d, u, hd, mu, hw⟩ := hw
  obtain ⟨od, I1⟩ := I.lock hd mu
  exact h.run pins s σ _ _ I1 (hw od)
theorem s_lkS {t : TS} {m : MS} (h : SimS G t m) : SimS G (tLkS t) (mLkS i m) := fun β H σ l st re D q => by
  unfold mLkS at q
  split at q
  · rename_i j hl
    split at q
    · rename_i es hj
      obtain ⟨p, kvs, hH, hp, hk, hr, go⟩ := lock_re re hl hj
      refine ⟨p, .dK kvs, hH, trivial, fun od => ?_⟩
      obtain ⟨f, re1⟩ := go od
      exact h β _ σ _ _ re1 D (wpS_fut f q)
    · exact q.elim
  · exact q.elim
mutual
theorem RT.unlock {K : PySem.W.Frag} {B B' : Addr → Prop} (hp : H p = some (.frz od (.dK kvs))) (hB : ∀ a, B' a → B a ∨ a = p) : ∀ (d : PyData) (v : V), RT K B H v d → RT K B' (upd H p (.dK kvs)) v d
  | .none, _, h => by cases h; exact .non
  | .bool b, _, h => by cases h; exact .bl b
  | .int i, _, h => by cases h; exact .int i
  | .str x, _, h => by cases h; exact .str x
  | .list ds, _, h => by
    cases h with
    | lst hs ha =>
      have ne : ∀ {a xs}, H a = some (.lst xs) → a ≠ p := fun h1 e => by rw [e, hp] at h1; cases h1
      refine .lst ⟨by rw [upd_ne (ne hs.1)]; exact hs.1, fun w => (hB _ w).elim hs.2 (ne hs.1)⟩ (RTs.unlock hp hB ds _ ha)
  | .tuple ds, _, h => by
    cases h with
    | tup hs ha =>
      refine .tup (hs.imp (fun z => ?_) id) (RTs.unlock hp hB ds _ ha)
      have ne : ∀ {a xs}, Rd H a (.tup xs) → a ≠ p := fun h1 e => by
        rw [e] at h1
        rcases h1 with h1 | ⟨o, h1⟩ <;> · rw [hp] at h1; cases h1
      refine ⟨?_, fun w => (hB _ w).elim z.2 (ne z.1)⟩
      have := ne z.1
      unfold Rd
      rw [upd_ne this]
      exact z.1
  | .dict _, _, h => by cases h
theorem RTs.unlock {K : PySem.W.Frag} {B B' : Addr → Prop} (hp : H p = some (.frz od (.dK kvs))) (hB : ∀ a, B' a → B a ∨ a = p) : ∀ (ds : List PyData) (vs : List V), RTs K B H vs ds → RTs K B' (upd H p (.dK kvs)) vs ds
  | [], _, h => by cases h; exact .nil
  | d :: ds, _, h => by
    cases h with
    | cons h1 h2 => exact .cons (RT.unlock hp hB d _ h1) (RTs.unlock hp hB ds _ h2)
end
theorem unlock_re (rl : Rl G β H st) (hj : st.obs[j]? = some (.dct es)) (hp : β[j]? = some p) (hH : H p = some (.dK kvs)) (hk : kvs.map (·.1) = es.map (fun e => Sum.inl e.1)) (hr : RTs G.K (Ban G β st) H (kvs.map (·.2)) (es.map (·.2)))
    (f : Fut G β (st.putO j .dead) (upd H p (.frz od (.dK kvs))) β' st' H') (rl' : Rl G β' H' st') (hd : st'.obs[j]? = some .dead) :
    H' p = some (.frz od (.dK kvs)) ∧ Fut G β st H β' (st'.putO j (.dct es)) (upd H' p (.dK kvs)) ∧ Rl G β' (upd H' p (.dK kvs)) (st'.putO j (.dct es)) ∧ ∀ v y, RT G.K (Ban G β' st') H' v y → RT G.K (Ban G β' (st'.putO j (.dct es))) (upd H' p (.dK kvs)) v y := by
  have op : Own G β st p := .inr ⟨j, _, hj, (by intro z; cases z), hp⟩
  obtain ⟨hH', no'⟩ := f.stay p _ upd_same (not_own_dead rl hp)
  have hp' := f.get hp
  have hi := (List.getElem?_eq_some_iff.mp hd).1
  have ow : ∀ q, Own G β' (st'.putO j (.dct es)) q → Own G β' st' q ∨ q = p := fun q h => by
    rcases h with ⟨h1, h2⟩ | ⟨i', o, h1, h2, h3⟩
    · exact .inl (.inl ⟨h1, h2⟩)
    · by_cases e : i' = j
      · subst e
        rw [hp'] at h3
        cases h3
        exact .inr rfl
      · exact .inl (.inr ⟨i', o, by simpa [Sto.putO, List.getElem?_set_ne (Ne.symm e)] using h1, h2, h3⟩)
  have ba : ∀ q, Ban G β' (st'.putO j (.dct es)) q → Ban G β' st' q ∨ q = p := fun q h => h.elim (fun h => .inl (.inl h)) fun h => (ow q h).imp .inr id
  have fO : Fut G β st H β' (st'.putO j (.dct es)) (upd H' p (.dK kvs)) := by
    refine ⟨?_, fun b hb => ?_, fun b o h n1 => ?_⟩
    · obtain ⟨γ, e, hγ⟩ := f.ext
      refine ⟨γ, e, fun q hq => ?_⟩
      have := hγ q hq
      by_cases e2 : q = p
      · rw [e2, upd_same] at this; cases this
      · rwa [upd_ne e2] at this
    · by_cases e : b = p
      · rw [e, upd_same]; simp
      · rw [upd_ne e]
        exact f.there b (by rw [upd_ne e]; exact hb)
    · have e : b ≠ p := fun e => n1 (e ▸ op)
      obtain ⟨h1, h2⟩ := f.stay b o (by rw [upd_ne e]; exact h) (fun w => n1 (own_dead w))
      exact ⟨by rw [upd_ne e]; exact h1, fun w => (ow b w).elim h2 e⟩
  refine ⟨hH', fO, ⟨by simp [Sto.putO, rl'.len], rl'.nodup, fun q hq => ?_, fun i' zs h' nd => ?_, fun g hg => ?_, fun q hq => ?_⟩, fun v y h => RT.unlock hH' ba y v h⟩
  · by_cases e : q = p
    · rw [e, upd_same]; simp
    · rw [upd_ne e]; exact rl'.trk q hq
  · by_cases e : i' = j
    · subst e
      simp [Sto.putO, hi] at h'
      subst h'
      exact ⟨p, .dK kvs, hp', upd_same, kvs, rfl, hk, fO.rts hr⟩
    · obtain ⟨q, ws, a, b, c⟩ := rl'.oo i' zs (by simpa [Sto.putO, List.getElem?_set_ne (Ne.symm e)] using h') nd
      have ne : q ≠ p := fun z => e (ix_inj rl'.nodup a (z ▸ hp'))
      exact ⟨q, ws, a, by rw [upd_ne ne]; exact b, c.imp fun ds vs r => RTs.unlock hH' ba ds vs r⟩
  · obtain ⟨⟨a, b⟩, c⟩ := rl'.flo g hg
    have ne : G.fa ≠ p := fun z => c (z ▸ List.mem_of_getElem? hp')
    have nb : G.fb ≠ p := fun z => by rw [← z, b.1] at hH'; cases hH'
    exact ⟨⟨by rw [upd_ne ne]; exact a, ⟨by rw [upd_ne nb]; exact b.1, fun w => (ba _ w).elim b.2 nb⟩⟩, c⟩
  · have ne : q ≠ p := fun z => (rl.o0 q hq).2.1 (z ▸ op)
    obtain ⟨h1, h2, h3⟩ := rl'.o0 q hq
    refine ⟨by rw [upd_ne ne]; exact h1, fun w => (ow q w).elim h2 ne, fun vs w => h3 vs ?_⟩
    unfold Rd at w ⊢
    rwa [upd_ne ne] at w
def eWith (i : Nat) (m : ME) : ME := fun l st => match l[i]? with
  | some (some (.ref j)) => (match st.obs[j]? with
    | some (.dct es) => (match m (l.set i (some (.dct es))) (st.putO j .dead) with
      | .ok (.d y) st' => (match st'.obs[j]? with
        | some .dead => .ok (.d y) (st'.putO j (.dct es))
        | _ => .no)
      | _ => .no)
    | _ => .no)
  | _ => .no
theorem s_with {t : TE} {m : ME} (h : SimE G t m) : SimE G (tLockE t) (eWith i m) := fun β H σ l st re Q q => by
  unfold eWith at q
  split at q
  · rename_i j hl
    split at q
    · rename_i es hj
      obtain ⟨p, kvs, hH, hp, hk, hr, go⟩ := lock_re re hl hj
      refine ⟨p, .dK kvs, hH, trivial, fun od => ?_⟩
      obtain ⟨f, re1⟩ := go od
      refine h β _ σ _ _ re1 _ ?_
      split at q
      · rename_i y st' e
        rw [e]
        split at q
        · rename_i hd
          intro v H' β' f' rl' p1
          obtain ⟨h1, h2, h3, h4⟩ := unlock_re re.rl hj hp hH hk hr f' rl' hd
          exact ⟨h1, q v _ β' h2 h3 (h4 v y p1)⟩
        · exact q.elim
      · exact q.elim
    · exact q.elim
  · exact q.elim
end
def isArg : U → Bool
  | .d _ => true
  | .dct _ => true
  | _ => false
def pureU (n : Nat) (b : MS) (us : List U) : Rp := outP (b (startL n us) ⟨none, []⟩)
def GU (K : PySem.W.Frag) (O0 : Addr → Prop) : Gx := ⟨K, 0, 0, O0, fun _ => none, fun _ _ _ _ => False⟩
def spU (K : PySem.W.Frag) (k : Nat) (m : List U → Rp) : Sp := fun vs H Q _ => ∃ (O0 : Addr → Prop) (us : List U) (d : PyData) (fr : Bool), NoTup H O0 ∧ Paired (fun v u => RU (GU K O0) [] O0 H v u) vs us ∧ us.all isArg = true ∧ us.length = k ∧ m us = .ok d fr ∧
  ∀ v H', (∀ b o, H b = some o → H' b = some o) → RT K O0 H' v d → (fr = true → Fresh K O0 H H' v d) → Q v H'
theorem Paired.getR {α β : Type} {R : α → β → Prop} : ∀ {xs : List α} {ys : List β} {i : Nat} {y : β}, Paired R xs ys → ys[i]? = some y → ∃ x, xs[i]? = some x ∧ R x y
  | _, _, i, y, .nil, e => by simp at e
  | _, _, 0, y, .cons (a := a) h1 h2, e => by simp at e; subst e; exact ⟨_, rfl, h1⟩
  | _, _, i + 1, y, .cons h1 h2, e => by
    obtain ⟨x, a, b⟩ := Paired.getR (i := i) h2 (by simpa using e)
    exact ⟨x, by simpa using a, b⟩
theorem Paired.lenR {α β : Type} {R : α → β → Prop} : ∀ {xs : List α} {ys : List β}, Paired R xs ys → xs.length = ys.length
  | _, _, .nil => rfl
  | _, _, .cons h1 h2 => by rw [List.length_cons, List.length_cons, Paired.lenR h2]
theorem ru_arg {G G' : Gx} {β β' : List Addr} {B B' : Addr → Prop} {H : Hp} {v : V} {u : U} (hK : G.K = G'.K) (ha : isArg u = true) (k : ∀ a, B' a → B a) (h : RU G β B H v u) : RU G' β' B' H v u := by
  cases u with
  | d x =>
    show RT G'.K B' H v x
    rw [← hK]
    exact RT.weak k x v h
  | dct es =>
    obtain ⟨p, o, kvs, h1, h2, h3, h4⟩ := h
    exact ⟨p, o, kvs, h1, ⟨h2.1, fun w => h2.2 (k _ w)⟩, h3, by rw [← hK]; exact RTs.weak k _ _ h4⟩
  | _ => cases ha
section
variable {P : Program} {w : World} {K : PySem.W.Frag} {mg : Str → Option Value} {base : Heap}
theorem okU {x qual : Str} {st : Stmt} {f : Addr} {fd : FuncData} {N ps : List Str} {k : Nat} {b : MS} (F : Fun K x qual st f fd) (S : FnScope N ps (defScope st)) (hN : ps.length ≤ N.length)
    (hb : ∀ (cdv : Value) (A : Around) (outer : List Env) (s : Shared) (H : Hp) (E : XK), Room k (A.deeper (envOfC qual (defScope st) s.heap.objs.size f cdv)) →
      ∃ t, PSs (cxOf CX0 P w K mg base N qual (defScope st) f cdv A outer s H E).nox (defBody st) t ∧ ∀ G : Gx, G.K = K → SimS G t b) :
    FnOk P w K mg base CX0 (k + 1) f fd ps (spU K ps.length (pureU N.length b)) := by
  refine F.ok S (fun vs H Q E h => ?_) (fun cdv A outer s H vs Q E hr h => ?_)
  · obtain ⟨O0, us, d, fr, _, r, _, hl, _⟩ := h
    rw [Paired.lenR r, hl]
  · obtain ⟨O0, us, d, fr, hO, r, ha, hl, e, q⟩ := h
    obtain ⟨t, ht, hs⟩ := hb cdv A outer s H E hr
    refine ⟨t, ht, ?_⟩
    have own0 : ∀ b, ¬ Own (GU K O0) [] ⟨none, []⟩ b := fun b h => by
      rcases h with ⟨h, _⟩ | ⟨i, xs, h, _⟩
      · cases h
      · simp at h
    have re : Re (GU K O0) [] H (L2.start N vs) (startL N.length us) ⟨none, []⟩ := by
      refine ⟨⟨rfl, .nil, fun p hp => by simp at hp, fun i xs h => by simp at h, fun f h => (by cases h), fun p hp => ⟨(hO p hp).1, own0 p, (hO p hp).2⟩⟩, ⟨start_len N (Paired.lenR r) (by omega), fun i u e => ?_⟩⟩
      have e1 := start_get N (vs := vs) e
      obtain ⟨v, h1, h2⟩ := Paired.getR r e1
      have au : isArg u = true := List.all_eq_true.mp ha u (List.mem_of_getElem? e1)
      exact ⟨v, start_getV N h1, ru_arg rfl au (fun a h => h.elim id fun z => (own0 a z).elim) h2⟩
    exact hs (GU K O0) rfl [] H _ _ _ re _ (rp_end (K := K) rfl e q)
theorem calU {N ps : List Str} {x : Str} {st : Stmt} {k : Nat} {b : MS} (D : DefIn K mg x st ps) (S : FnScope N ps (defScope st)) (hN : ps.length ≤ N.length)
    (hb : ∀ (f : Addr) (cdv : Value) (A : Around) (outer : List Env) (s : Shared) (H : Hp) (E : XK), Room k (A.deeper (envOfC x (defScope st) s.heap.objs.size f cdv)) →
      ∃ t, QSs (cxOf CX0 P w K mg base N x (defScope st) f cdv A outer s H E).nox (defBody st) t b) : Cal P w K mg base (k + 1) x ps (spU K ps.length (pureU N.length b)) := by
  obtain ⟨f, fd, F, hm, hb'⟩ := D.ex
  refine ⟨f, fd, okU F S hN (fun cdv A outer s H E hr => ?_), hm, F.kp, hb'⟩
  obtain ⟨t, h⟩ := hb f cdv A outer s H E hr
  exact ⟨t, h.pss, fun G hG => h.sim G hG⟩
end
def fCallU (k : Nat) (m : List U → Rp) (us : List U) (st : Sto) : Res U := if us.all isArg = true ∧ us.length = k then (match m us with
  | .ok d _ => .ok (.d d) st
  | _ => .no) else .no
def eCallU (k : Nat) (m : List U → Rp) (a : MA) : ME := fun l st => (a l st).bind (fCallU k m)
theorem paired_arg {G G' : Gx} {β β' : List Addr} {B : Addr → Prop} {H : Hp} (hK : G.K = G'.K) : ∀ {vs : List V} {us : List U}, Paired (fun v u => RU G β B H v u) vs us → us.all isArg = true → Paired (fun v u => RU G' β' B H v u) vs us
  | _, _, .nil, _ => .nil
  | _, _, .cons h1 h2, e => by
    rw [List.all_cons, Bool.and_eq_true] at e
    exact .cons (ru_arg hK e.1 (fun a h => h) h1) (paired_arg hK h2 e.2)
theorem s_callU {G : Gx} {k : Nat} {m : List U → Rp} {ta : TA} {a : MA} {E : XK} (ha : SimA G ta a) : SimE G (tCall (spU G.K k m) [] E ta) (eCallU k m a) := fun β H σ l st re Q h => by
  refine ha β H σ l st re _ (wpR_bind h fun vs us H1 β1 st1 f1 rl1 p1 h1 => ?_)
  show spU G.K k m (vs ++ []) H1 Q E
  rw [List.append_nil]
  unfold fCallU at h1
  split at h1
  · rename_i hc
    split at h1
    · rename_i d fr e2
      have p1' : Paired (fun v u => RU G β1 (Ban G β1 st1) H1 v u) vs us := p1
      refine ⟨Ban G β1 st1, us, d, fr, rl1.noTupB, paired_arg (G := G) (G' := GU G.K (Ban G β1 st1)) rfl p1' hc.1, hc.1, hc.2, e2, fun v H' kk rt _ => ?_⟩
      obtain ⟨f2, rl2⟩ := rl1.grown kk
      exact h1 v H' β1 f2 rl2 rt
    · exact h1.elim
  · exact h1.elim
section
variable {X : Cx} {e : Expr} {es : List Expr} {pos p : Pos} {tA : TA} {mA : MA} {t : TE} {m : ME} {s : Stmt} {ts : TS} {ms : MS}
theorem q_with (i : Nat) (h : QE X e t m) : QE X e (tLockE t) (eWith i m) := ⟨pe_lock h.pe, fun G hG => s_with (h.sim G hG)⟩
theorem qs_lkS (i : Nat) (h : QS X s ts ms) : QS X s (tLkS ts) (mLkS i ms) := ⟨ps_lkS h.ps, fun G hG => s_lkS (h.sim G hG)⟩
theorem q_calU {k j n : Nat} {ps : List Str} {m : List U → Rp} {x : Str} (C : Cal X.prog X.w X.K X.mg X.base k x ps (spU X.K n m)) (hr : Room j X.A) (hkj : k ≤ j) (ha : QA X (e :: es) tA mA) (hg : Gl X x := by rfl) (hdb : (x == ("__debug__" : Str)) = false := by decide)
    (he : starEach (e :: es) X.env = (false, eval e X.env) :: starEach es X.env := by rfl) (hpl : (backTo pos (starEach es X.env)).any (·.1) = false := by rfl) :
    QE X (.Call (.Name x p) (e :: es) [] pos) (tCall (spU X.K n m) [] E0 tA) (eCallU n m mA) := by
  obtain ⟨f, fd, F, hm, hk, hb⟩ := C.ex
  exact ⟨pe_call F (hr.mono hkj) hg hm hk hb .nil pass0 ha.pa hdb he hpl, fun G hG => hG ▸ s_callU (ha.sim G hG)⟩
end
section
variable {G : Gx}
end
section
variable {X : Cx} {o e e2 : Expr} {to : TE} {mo : ME} {tA : TA} {mA : MA} {pos : Pos}
end
section
variable {st : Sto} {Q : U → Sto → Prop} {N : Loc → Sto → Prop} {R : U → Sto → Prop} {l : Loc}
@[simp] theorem to_dinD {neg : Bool} {es : List (Int × PyData)} {k : Int} : (fDIn neg (.d (.int k)) (.dct es) st).To Q ↔ Q (.d (.bool (if neg then !(es.any fun e => decide (e.1 = k)) else es.any fun e => decide (e.1 = k)))) st := Iff.rfl
theorem to_dinR {neg : Bool} {es : List (Int × PyData)} {k : Int} {j : Nat} (h : st.obs[j]? = some (.dct es)) : (fDIn neg (.d (.int k)) (.ref j) st).To Q ↔ Q (.d (.bool (if neg then !(es.any fun e => decide (e.1 = k)) else es.any fun e => decide (e.1 = k)))) st := by
  unfold fDIn dctOf
  dsimp only
  rw [h]
  exact Iff.rfl
theorem to_lkS {i j : Nat} {es : List (Int × PyData)} {m : MS} (h1 : l[i]? = some (some (.ref j))) (h2 : st.obs[j]? = some (.dct es)) : (mLkS i m l st).To N R ↔ (m (l.set i (some (.dct es))) (st.putO j .dead)).To N R := by
  unfold mLkS
  rw [h1]
  dsimp only
  rw [h2]
theorem to_with {i j : Nat} {es : List (Int × PyData)} {m : ME} (h1 : l[i]? = some (some (.ref j))) (h2 : st.obs[j]? = some (.dct es)) (h : (m (l.set i (some (.dct es))) (st.putO j .dead)).To fun u s => ∃ y, u = .d y ∧ s.obs[j]? = some .dead ∧ Q (.d y) (s.putO j (.dct es))) : (eWith i m l st).To Q := by
  unfold eWith
  rw [h1]
  dsimp only
  rw [h2]
  dsimp only
  cases e : m (l.set i (some (.dct es))) (st.putO j .dead) with
  | ok u s =>
    rw [e] at h
    obtain ⟨y, rfl, a, b⟩ := (show ∃ y, u = .d y ∧ s.obs[j]? = some .dead ∧ Q (.d y) (s.putO j (.dct es)) from h)
    dsimp only
    rw [a]
    exact b
  | ex _ _ => rw [e] at h; exact h.elim
  | no => rw [e] at h; exact h.elim
@[simp] theorem to_eCallU {k : Nat} {m : List U → Rp} {a : MA} : (eCallU k m a l st).To Q ↔ (a l st).To fun us s => (fCallU k m us s).To Q := by unfold eCallU; simp
theorem callU_to {k : Nat} {m : List U → Rp} {us : List U} (h1 : us.all isArg = true) (h2 : us.length = k) (h : (m us).To fun d => Q (.d d) st) : (fCallU k m us st).To Q := by
  unfold fCallU
  rw [if_pos ⟨h1, h2⟩]
  cases e : m us with
  | ok d fr => rw [e] at h; exact h
  | ex _ => rw [e] at h; exact h.elim
  | no => rw [e] at h; exact h.elim
end
end NW
namespace NW
open PySem PySem.Spec PyProof.Rows L2
noncomputable def b_common_part : MS :=
    (sSeq (sWhile (bTest (eOp (opEq true) (eVar 1) (eC (.int 0))))
    (sPar 0 1 (aCons (eVar 1) (aCons (eOp fMod (eVar 0) (eVar 1)) aNil))))
    (sRet (eCB cAbs (aCons (eVar 0) aNil))))
@[irreducible] noncomputable def m_common_part : List PyData → Rp := pureOf 2 b_common_part
noncomputable def b_fraction : MS :=
    (sSeq (sAsg 2 (eCallP 2 m_common_part (aCons (eVar 0) (aCons (eVar 1) aNil))))
    (sSeq (sIf (bTest (eOp fLt (eVar 1) (eC (.int 0))))
    (sAsg 2 (eOp fSub (eC (.int 0)) (eVar 2)))
    sNext)
    (sRet (eTup (aCons (eOp fDiv (eVar 0) (eVar 2)) (aCons (eOp fDiv (eVar 1) (eVar 2)) aNil))))))
@[irreducible] noncomputable def m_fraction : List PyData → Rp := pureOf 3 b_fraction
noncomputable def b_L_flow : MS :=
    (sRet (eOwn (lDisp (aCons (eFrz (lCB cListOf (aCons (eVar 0) aNil))) (aCons (eC (.int 0)) (aCons (eC (.int 0)) (aCons (eC (.int 1)) (aCons (eC (.int 0)) aNil))))))))
noncomputable def b_L_pick : MS :=
    (sSeq (sIf (bAnd (bTest (eOp (opEq false) (eOp fIx (eVar 0) (eC (.int 2))) (eC (.int 0)))) (bTest (eOp fLt (eOp fIx (eVar 0) (eC (.int 1))) (eCB cLen (aCons (eOp fIx (eVar 0) (eC (.int 0))) aNil)))))
    (sSeq (sAsg 2 (eOp fIx (eOp fIx (eVar 0) (eC (.int 0))) (eOp fIx (eVar 0) (eC (.int 1)))))
    (sSeq (sAsgG (eOp fAddA (eOp fIx (eVar 0) (eC (.int 1))) (eC (.int 1))) (gSubM (eVar 0) (eC (.int 1))))
    (sIf (bTest (eOp fGe (eVar 2) (eOp fPow (eC (.int 10)) (eC (.int 18)))))
    (sAsgG (eVar 2) (gSubM (eVar 0) (eC (.int 2))))
    (sAsgG (eOp fMod (eOp fAddA (eOp fAddA (eOp fMulA (eOp fIx (eVar 0) (eC (.int 3))) (eC (.int 40013))) (eOp fMod (eVar 2) (eC (.int 1000003)))) (eC (.int 1))) (eC (.int 2147483647))) (gSubM (eVar 0) (eC (.int 3)))))))
    sNext)
    (sSeq (sIf (bTest (eOp fGt (eOp fIx (eVar 0) (eC (.int 2))) (eC (.int 0))))
    (sSeq (sAsg 3 (eOp fMod (eOp fIx (eVar 0) (eC (.int 2))) (eVar 1)))
    (sSeq (sAsgG (eOp fDiv (eOp fIx (eVar 0) (eC (.int 2))) (eVar 1)) (gSubM (eVar 0) (eC (.int 2))))
    (sRet (eVar 3))))
    sNext)
    (sSeq (sAsgG (eOp fAddA (eOp fIx (eVar 0) (eC (.int 4))) (eC (.int 1))) (gSubM (eVar 0) (eC (.int 4))))
    (sSeq (sAsgG (eOp fMod (eOp fAddA (eOp fAddA (eOp fMulA (eOp fIx (eVar 0) (eC (.int 3))) (eC (.int 48271))) (eC (.int 12820163))) (eOp fIx (eVar 0) (eC (.int 4)))) (eC (.int 2147483647))) (gSubM (eVar 0) (eC (.int 3))))
    (sRet (eOp fMod (eOp fDiv (eOp fMod (eOp fMulA (eOp fAddA (eOp fMod (eOp fIx (eVar 0) (eC (.int 3))) (eC (.int 65521))) (eC (.int 1))) (eOp fAddA (eOp fDiv (eOp fIx (eVar 0) (eC (.int 3))) (eC (.int 65521))) (eC (.int 7919)))) (eC (.int 1000003))) (eC (.int 7))) (eVar 1)))))))
@[irreducible] noncomputable def m_L_pick : List PyData → Fl → Rf := flowOf 4 b_L_pick
noncomputable def b_L_common : MS :=
    (sSeq (sWhile (bTest (eOp (opEq true) (eVar 1) (eC (.int 0))))
    (sPar 0 1 (aCons (eVar 1) (aCons (eOp fMod (eVar 0) (eVar 1)) aNil))))
    (sRet (eCB cAbs (aCons (eVar 0) aNil))))
@[irreducible] noncomputable def m_L_common : List PyData → Rp := pureOf 2 b_L_common
noncomputable def b_added : MS :=
    (sRet (eCallP 2 m_fraction (aCons (eOp fAddA (eOp fMulA (eOp fIx (eVar 0) (eC (.int 0))) (eOp fIx (eVar 1) (eC (.int 1)))) (eOp fMulA (eOp fIx (eVar 1) (eC (.int 0))) (eOp fIx (eVar 0) (eC (.int 1))))) (aCons (eOp fMulA (eOp fIx (eVar 0) (eC (.int 1))) (eOp fIx (eVar 1) (eC (.int 1)))) aNil))))
@[irreducible] noncomputable def m_added : List PyData → Rp := pureOf 2 b_added
noncomputable def b_taken : MS :=
    (sRet (eCallP 2 m_fraction (aCons (eOp fSub (eOp fMulA (eOp fIx (eVar 0) (eC (.int 0))) (eOp fIx (eVar 1) (eC (.int 1)))) (eOp fMulA (eOp fIx (eVar 1) (eC (.int 0))) (eOp fIx (eVar 0) (eC (.int 1))))) (aCons (eOp fMulA (eOp fIx (eVar 0) (eC (.int 1))) (eOp fIx (eVar 1) (eC (.int 1)))) aNil))))
@[irreducible] noncomputable def m_taken : List PyData → Rp := pureOf 2 b_taken
noncomputable def b_multiplied : MS :=
    (sRet (eCallP 2 m_fraction (aCons (eOp fMulA (eOp fIx (eVar 0) (eC (.int 0))) (eOp fIx (eVar 1) (eC (.int 0)))) (aCons (eOp fMulA (eOp fIx (eVar 0) (eC (.int 1))) (eOp fIx (eVar 1) (eC (.int 1)))) aNil))))
@[irreducible] noncomputable def m_multiplied : List PyData → Rp := pureOf 2 b_multiplied
noncomputable def b_divided : MS :=
    (sRet (eCallP 2 m_fraction (aCons (eOp fMulA (eOp fIx (eVar 0) (eC (.int 0))) (eOp fIx (eVar 1) (eC (.int 1)))) (aCons (eOp fMulA (eOp fIx (eVar 0) (eC (.int 1))) (eOp fIx (eVar 1) (eC (.int 0)))) aNil))))
@[irreducible] noncomputable def m_divided : List PyData → Rp := pureOf 2 b_divided
noncomputable def b_L_fraction : MS :=
    (sSeq (sAsg 2 (eCallP 2 m_L_common (aCons (eVar 0) (aCons (eVar 1) aNil))))
    (sSeq (sIf (bTest (eOp fLt (eVar 1) (eC (.int 0))))
    (sAsg 2 (eOp fSub (eC (.int 0)) (eVar 2)))
    sNext)
    (sRet (eTup (aCons (eOp fDiv (eVar 0) (eVar 2)) (aCons (eOp fDiv (eVar 1) (eVar 2)) aNil))))))
@[irreducible] noncomputable def m_L_fraction : List PyData → Rp := pureOf 3 b_L_fraction
noncomputable def b_over : MS :=
    (sSeq (sAsg 2 (eCB cLen (aCons (eVar 0) aNil)))
    (sSeq (sWhile (bAnd (bTest (eOp fGt (eVar 2) (eC (.int 0)))) (bTest (eOp (opEq false) (eOp fIx (eVar 0) (eOp fSub (eVar 2) (eC (.int 1)))) (eC (.int 0)))))
    (sAsg 2 (eOp fSub (eVar 2) (eC (.int 1)))))
    (sSeq (sAsg 3 (eVar 1))
    (sSeq (sFor (mAny (eSlAny (eVar 0) oNone (oSome (eVar 2)))) (gNameM 4)
    (sAsg 3 (eCallP 2 m_common_part (aCons (eVar 3) (aCons (eVar 4) aNil)))))
    (sRet (eTup (aCons (eCB cTupOf (aCons (eFrz (lLc (mAny (eSlAny (eVar 0) oNone (oSome (eVar 2)))) (([(("top" : Str), 4)] : List (Str × Nat)).map (·.2)) (gNameM 4) bYes (eOp fDiv (eVar 4) (eVar 3)))) aNil)) (aCons (eOp fDiv (eVar 1) (eVar 3)) aNil))))))))
@[irreducible] noncomputable def m_over : List PyData → Rp := pureOf 5 b_over
noncomputable def b_poly : MS :=
    (sSeq (sAsg 1 (eC (.int 1)))
    (sSeq (sFor (mAny (eVar 0)) (gTupM 2 (gConsM (gNameM 2) (gConsM (gNameM 3) gNilM)))
    (sAsg 1 (eOp fDiv (eOp fMulA (eVar 1) (eVar 3)) (eCallP 2 m_common_part (aCons (eVar 1) (aCons (eVar 3) aNil))))))
    (sRet (eCallP 2 m_over (aCons (eFrz (lLc (mAny (eVar 0)) (([(("top" : Str), 2), (("own" : Str), 3)] : List (Str × Nat)).map (·.2)) (gTupM 2 (gConsM (gNameM 2) (gConsM (gNameM 3) gNilM))) bYes (eOp fMulA (eVar 2) (eOp fDiv (eVar 1) (eVar 3))))) (aCons (eVar 1) aNil))))))
@[irreducible] noncomputable def m_poly : List PyData → Rp := pureOf 4 b_poly
noncomputable def b_fraction_at : MS :=
    (sSeq (sIf (bTest (eOp fGe (eVar 1) (eCB cLen (aCons (eOp fIx (eVar 0) (eC (.int 0))) aNil))))
    (sRet (eTup (aCons (eC (.int 0)) (aCons (eC (.int 1)) aNil))))
    sNext)
    (sRet (eCallP 2 m_fraction (aCons (eOp fIx (eOp fIx (eVar 0) (eC (.int 0))) (eVar 1)) (aCons (eOp fIx (eVar 0) (eC (.int 1))) aNil)))))
@[irreducible] noncomputable def m_fraction_at : List PyData → Rp := pureOf 2 b_fraction_at
noncomputable def b_degree : MS :=
    (sRet (eOp fSub (eCB cLen (aCons (eOp fIx (eVar 0) (eC (.int 0))) aNil)) (eC (.int 1))))
@[irreducible] noncomputable def m_degree : List PyData → Rp := pureOf 1 b_degree
noncomputable def b_lead : MS :=
    (sSeq (sIf (bTest (eOp (opEq false) (eCB cLen (aCons (eOp fIx (eVar 0) (eC (.int 0))) aNil)) (eC (.int 0))))
    (sRet (eTup (aCons (eC (.int 0)) (aCons (eC (.int 1)) aNil))))
    sNext)
    (sRet (eCallP 2 m_fraction_at (aCons (eVar 0) (aCons (eCallP 1 m_degree (aCons (eVar 0) aNil)) aNil)))))
@[irreducible] noncomputable def m_lead : List PyData → Rp := pureOf 1 b_lead
noncomputable def b_plus : MS :=
    (sSeq (sAsg 2 (eOwn (lOp fRep (eFrz (lDisp (aCons (eC (.int 0)) aNil))) (eCB cMax2 (aCons (eCB cLen (aCons (eOp fIx (eVar 0) (eC (.int 0))) aNil)) (aCons (eCB cLen (aCons (eOp fIx (eVar 1) (eC (.int 0))) aNil)) aNil))))))
    (sSeq (sFor (mEnum (aCons (eOp fIx (eVar 0) (eC (.int 0))) aNil)) (gTupM 2 (gConsM (gNameM 3) (gConsM (gNameM 4) gNilM)))
    (sAsgG (eOp fMulA (eVar 4) (eOp fIx (eVar 1) (eC (.int 1)))) (gSubM (eVar 2) (eVar 3))))
    (sSeq (sFor (mEnum (aCons (eOp fIx (eVar 1) (eC (.int 0))) aNil)) (gTupM 2 (gConsM (gNameM 3) (gConsM (gNameM 4) gNilM)))
    (sAsgG (eOp fAddA (eOp fIx (eVar 2) (eVar 3)) (eOp fMulA (eVar 4) (eOp fIx (eVar 0) (eC (.int 1))))) (gSubM (eVar 2) (eVar 3))))
    (sRet (eCallP 2 m_over (aCons (eVar 2) (aCons (eOp fMulA (eOp fIx (eVar 0) (eC (.int 1))) (eOp fIx (eVar 1) (eC (.int 1)))) aNil)))))))
@[irreducible] noncomputable def m_plus : List PyData → Rp := pureOf 5 b_plus
noncomputable def b_scaled : MS :=
    (sRet (eCallP 2 m_over (aCons (eFrz (lLc (mAny (eOp fIx (eVar 0) (eC (.int 0)))) (([(("top" : Str), 2)] : List (Str × Nat)).map (·.2)) (gNameM 2) bYes (eOp fMulA (eVar 2) (eOp fIx (eVar 1) (eC (.int 0)))))) (aCons (eOp fMulA (eOp fIx (eVar 0) (eC (.int 1))) (eOp fIx (eVar 1) (eC (.int 1)))) aNil))))
@[irreducible] noncomputable def m_scaled : List PyData → Rp := pureOf 3 b_scaled
noncomputable def b_minus : MS :=
    (sRet (eCallP 2 m_plus (aCons (eVar 0) (aCons (eCallP 2 m_scaled (aCons (eVar 1) (aCons (eTup (aCons (eC (.int (-1))) (aCons (eC (.int 1)) aNil))) aNil))) aNil))))
@[irreducible] noncomputable def m_minus : List PyData → Rp := pureOf 2 b_minus
noncomputable def b_L_poly : MS :=
    (sSeq (sAsg 0 (eOwn (lCB cListOf (aCons (eVar 0) aNil))))
    (sSeq (sWhile (bAnd (bTest (eOp fGt (eCB cLen (aCons (eVar 0) aNil)) (eC (.int 0)))) (bTest (eOp (opEq false) (eOp fIx (eVar 0) (eC (.int (-1)))) (eC (.int 0)))))
    (sDrop (eMethL mPop (eVar 0) aNil)))
    (sSeq (sAsg 2 (eVar 1))
    (sSeq (sFor (mAny (eVar 0)) (gNameM 3)
    (sAsg 2 (eCallP 2 m_L_common (aCons (eVar 2) (aCons (eVar 3) aNil)))))
    (sRet (eTup (aCons (eCB cTupOf (aCons (eFrz (lLc (mAny (eVar 0)) (([(("_law_top" : Str), 3)] : List (Str × Nat)).map (·.2)) (gNameM 3) bYes (eOp fDiv (eVar 3) (eVar 2)))) aNil)) (aCons (eOp fDiv (eVar 1) (eVar 2)) aNil))))))))
@[irreducible] noncomputable def m_L_poly : List PyData → Rp := pureOf 4 b_L_poly
noncomputable def b_times : MS :=
    (sSeq (sAsg 2 (eOwn (lOp fRep (eFrz (lDisp (aCons (eC (.int 0)) aNil))) (eOp fAddA (eCB cLen (aCons (eOp fIx (eVar 0) (eC (.int 0))) aNil)) (eCB cLen (aCons (eOp fIx (eVar 1) (eC (.int 0))) aNil))))))
    (sSeq (sFor (mEnum (aCons (eOp fIx (eVar 0) (eC (.int 0))) aNil)) (gTupM 2 (gConsM (gNameM 3) (gConsM (gNameM 4) gNilM)))
    (sFor (mEnum (aCons (eOp fIx (eVar 1) (eC (.int 0))) aNil)) (gTupM 2 (gConsM (gNameM 5) (gConsM (gNameM 6) gNilM)))
    (sAsgG (eOp fAddA (eOp fIx (eVar 2) (eOp fAddA (eVar 3) (eVar 5))) (eOp fMulA (eVar 4) (eVar 6))) (gSubM (eVar 2) (eOp fAddA (eVar 3) (eVar 5))))))
    (sRet (eCallP 2 m_over (aCons (eVar 2) (aCons (eOp fMulA (eOp fIx (eVar 0) (eC (.int 1))) (eOp fIx (eVar 1) (eC (.int 1)))) aNil))))))
@[irreducible] noncomputable def m_times : List PyData → Rp := pureOf 7 b_times
def c_ONE : PyData := .tuple [.tuple [.int 1], .int 1]
noncomputable def b_power : MS :=
    (sSeq (sAsg 2 (eC c_ONE))
    (sSeq (sFor (mR1 (aCons (eVar 1) aNil)) (gNameM 3)
    (sAsg 2 (eCallP 2 m_times (aCons (eVar 2) (aCons (eVar 0) aNil)))))
    (sRet (eVar 2))))
@[irreducible] noncomputable def m_power : List PyData → Rp := pureOf 4 b_power
noncomputable def b_L_added : MS :=
    (sRet (eCallP 2 m_L_fraction (aCons (eOp fAddA (eOp fMulA (eOp fIx (eVar 0) (eC (.int 0))) (eOp fIx (eVar 1) (eC (.int 1)))) (eOp fMulA (eOp fIx (eVar 1) (eC (.int 0))) (eOp fIx (eVar 0) (eC (.int 1))))) (aCons (eOp fMulA (eOp fIx (eVar 0) (eC (.int 1))) (eOp fIx (eVar 1) (eC (.int 1)))) aNil))))
@[irreducible] noncomputable def m_L_added : List PyData → Rp := pureOf 2 b_L_added
noncomputable def b_L_product : MS :=
    (sRet (eCallP 2 m_L_fraction (aCons (eOp fMulA (eOp fIx (eVar 0) (eC (.int 0))) (eOp fIx (eVar 1) (eC (.int 0)))) (aCons (eOp fMulA (eOp fIx (eVar 0) (eC (.int 1))) (eOp fIx (eVar 1) (eC (.int 1)))) aNil))))
@[irreducible] noncomputable def m_L_product : List PyData → Rp := pureOf 2 b_L_product
def c_NOUGHT : PyData := .tuple [.tuple [], .int 1]
noncomputable def b_L_sum : MS :=
    (sSeq (sAsg 2 (eCB cMax2 (aCons (eCB cLen (aCons (eOp fIx (eVar 0) (eC (.int 0))) aNil)) (aCons (eCB cLen (aCons (eOp fIx (eVar 1) (eC (.int 0))) aNil)) aNil))))
    (sSeq (sAsg 3 (eOwn (lOp fRep (eFrz (lDisp (aCons (eC (.int 0)) aNil))) (eVar 2))))
    (sSeq (sFor (mEnum (aCons (eOp fIx (eVar 0) (eC (.int 0))) aNil)) (gTupM 2 (gConsM (gNameM 4) (gConsM (gNameM 5) gNilM)))
    (sAsgG (eOp fAddA (eOp fIx (eVar 3) (eVar 4)) (eOp fMulA (eVar 5) (eOp fIx (eVar 1) (eC (.int 1))))) (gSubM (eVar 3) (eVar 4))))
    (sSeq (sFor (mEnum (aCons (eOp fIx (eVar 1) (eC (.int 0))) aNil)) (gTupM 2 (gConsM (gNameM 4) (gConsM (gNameM 5) gNilM)))
    (sAsgG (eOp fAddA (eOp fIx (eVar 3) (eVar 4)) (eOp fMulA (eVar 5) (eOp fIx (eVar 0) (eC (.int 1))))) (gSubM (eVar 3) (eVar 4))))
    (sRet (eCallP 2 m_L_poly (aCons (eVar 3) (aCons (eOp fMulA (eOp fIx (eVar 0) (eC (.int 1))) (eOp fIx (eVar 1) (eC (.int 1)))) aNil))))))))
@[irreducible] noncomputable def m_L_sum : List PyData → Rp := pureOf 6 b_L_sum
noncomputable def b_L_times : MS :=
    (sSeq (sAsg 2 (eOwn (lOp fRep (eFrz (lDisp (aCons (eC (.int 0)) aNil))) (eOp fAddA (eCB cLen (aCons (eOp fIx (eVar 0) (eC (.int 0))) aNil)) (eCB cLen (aCons (eOp fIx (eVar 1) (eC (.int 0))) aNil))))))
    (sSeq (sFor (mEnum (aCons (eOp fIx (eVar 0) (eC (.int 0))) aNil)) (gTupM 2 (gConsM (gNameM 3) (gConsM (gNameM 4) gNilM)))
    (sFor (mEnum (aCons (eOp fIx (eVar 1) (eC (.int 0))) aNil)) (gTupM 2 (gConsM (gNameM 5) (gConsM (gNameM 6) gNilM)))
    (sAsgG (eOp fAddA (eOp fIx (eVar 2) (eOp fAddA (eVar 3) (eVar 5))) (eOp fMulA (eVar 4) (eVar 6))) (gSubM (eVar 2) (eOp fAddA (eVar 3) (eVar 5))))))
    (sRet (eCallP 2 m_L_poly (aCons (eVar 2) (aCons (eOp fMulA (eOp fIx (eVar 0) (eC (.int 1))) (eOp fIx (eVar 1) (eC (.int 1)))) aNil))))))
@[irreducible] noncomputable def m_L_times : List PyData → Rp := pureOf 7 b_L_times
noncomputable def b_L_of : MS :=
    (sSeq (sAsg 2 (eTup (aCons (eTup aNil) (aCons (eC (.int 1)) aNil))))
    (sSeq (sFor (mRev (eOp fIx (eVar 0) (eC (.int 0)))) (gNameM 3)
    (sAsg 2 (eCallP 2 m_L_sum (aCons (eCallP 2 m_L_times (aCons (eVar 2) (aCons (eVar 1) aNil))) (aCons (eCallP 2 m_L_poly (aCons (eFrz (lDisp (aCons (eVar 3) aNil))) (aCons (eOp fIx (eVar 0) (eC (.int 1))) aNil))) aNil)))))
    (sRet (eVar 2))))
@[irreducible] noncomputable def m_L_of : List PyData → Rp := pureOf 4 b_L_of
noncomputable def b_L_straight : MS :=
    (sRet (eCallP 2 m_L_poly (aCons (eFrz (lDisp (aCons (eOp fMulA (eOp fIx (eVar 1) (eC (.int 0))) (eOp fIx (eVar 0) (eC (.int 1)))) (aCons (eOp fMulA (eOp fIx (eVar 0) (eC (.int 0))) (eOp fIx (eVar 1) (eC (.int 1)))) aNil)))) (aCons (eOp fMulA (eOp fIx (eVar 0) (eC (.int 1))) (eOp fIx (eVar 1) (eC (.int 1)))) aNil))))
@[irreducible] noncomputable def m_L_straight : List PyData → Rp := pureOf 2 b_L_straight
noncomputable def b_L_number : MS :=
    (sRet (eOp fSub (eCallF 2 m_L_pick (aCons (eVar 0) (aCons (eOp fAddA (eOp fMulA (eC (.int 2)) (eVar 1)) (eC (.int 1))) aNil))) (eVar 1)))
@[irreducible] noncomputable def m_L_number : List PyData → Fl → Rf := flowOf 2 b_L_number
def c_ONCE : PyData := .tuple [.int 1, .int 1]
noncomputable def b_L_any_fraction : MS :=
    (sRet (eCallP 2 m_L_fraction (aCons (eCallF 2 m_L_number (aCons (eVar 0) (aCons (eVar 1) aNil))) (aCons (eOp fAddA (eC (.int 1)) (eCallF 2 m_L_pick (aCons (eVar 0) (aCons (eOp fIx (eFrz (lDisp (aCons (eC (.int 1)) (aCons (eC (.int 1)) (aCons (eC (.int 3)) (aCons (eVar 1) aNil)))))) (eCallF 2 m_L_pick (aCons (eVar 0) (aCons (eC (.int 4)) aNil)))) aNil)))) aNil))))
@[irreducible] noncomputable def m_L_any_fraction : List PyData → Fl → Rf := flowOf 2 b_L_any_fraction
noncomputable def b_L_any_poly : MS :=
    (sSeq (sAsg 3 (if true = true then eFrz (lLc (mR1 (aCons (eVar 1) aNil)) (([(("_law_k" : Str), 5)] : List (Str × Nat)).map (·.2)) (gNameM 5) bYes (eOp fMulA (eCallF 2 m_L_number (aCons (eVar 0) (aCons (eVar 2) aNil))) (eCB cInt (aCons (eOp fGt (eCallF 2 m_L_pick (aCons (eVar 0) (aCons (eC (.int 4)) aNil))) (eC (.int 0))) aNil)))) else eOwn (lLc (mR1 (aCons (eVar 1) aNil)) (([(("_law_k" : Str), 5)] : List (Str × Nat)).map (·.2)) (gNameM 5) bYes (eOp fMulA (eCallF 2 m_L_number (aCons (eVar 0) (aCons (eVar 2) aNil))) (eCB cInt (aCons (eOp fGt (eCallF 2 m_L_pick (aCons (eVar 0) (aCons (eC (.int 4)) aNil))) (eC (.int 0))) aNil))))))
    (sSeq (sAsg 4 (eOp fIx (eFrz (lDisp (aCons (eC (.int 1)) (aCons (eOp fSub (eC (.int 0)) (eC (.int 1))) (aCons (eOp fAddA (eC (.int 1)) (eCallF 2 m_L_pick (aCons (eVar 0) (aCons (eVar 2) aNil)))) (aCons (eOp fSub (eOp fSub (eC (.int 0)) (eC (.int 1))) (eCallF 2 m_L_pick (aCons (eVar 0) (aCons (eVar 2) aNil)))) aNil)))))) (eCallF 2 m_L_pick (aCons (eVar 0) (aCons (eC (.int 4)) aNil)))))
    (sRet (eCallP 2 m_L_poly (aCons (eOp fAddA (eVar 3) (eFrz (lDisp (aCons (eVar 4) aNil)))) (aCons (eOp fAddA (eC (.int 1)) (eCallF 2 m_L_pick (aCons (eVar 0) (aCons (eOp fIx (eFrz (lDisp (aCons (eC (.int 1)) (aCons (eC (.int 1)) (aCons (eC (.int 2)) (aCons (eC (.int 6)) aNil)))))) (eCallF 2 m_L_pick (aCons (eVar 0) (aCons (eC (.int 4)) aNil)))) aNil)))) aNil))))))
@[irreducible] noncomputable def m_L_any_poly : List PyData → Fl → Rf := flowOf 6 b_L_any_poly
noncomputable def b_L_any_straight : MS :=
    (sSeq (sAsg 2 (eOp fIx (eFrz (lDisp (aCons (eTup (aCons (eC (.int 1)) (aCons (eC (.int 1)) aNil))) (aCons (eTup (aCons (eOp fSub (eC (.int 0)) (eC (.int 1))) (aCons (eC (.int 1)) aNil))) (aCons (eCallP 2 m_L_fraction (aCons (eOp fAddA (eC (.int 1)) (eCallF 2 m_L_pick (aCons (eVar 0) (aCons (eVar 1) aNil)))) (aCons (eOp fAddA (eC (.int 1)) (eCallF 2 m_L_pick (aCons (eVar 0) (aCons (eC (.int 3)) aNil)))) aNil))) aNil))))) (eCallF 2 m_L_pick (aCons (eVar 0) (aCons (eC (.int 3)) aNil)))))
    (sRet (eCallP 2 m_L_straight (aCons (eVar 2) (aCons (eCallF 2 m_L_any_fraction (aCons (eVar 0) (aCons (eVar 1) aNil))) aNil)))))
@[irreducible] noncomputable def m_L_any_straight : List PyData → Fl → Rf := flowOf 3 b_L_any_straight
noncomputable def b_one_power : MS :=
    (sRet (eCallP 1 m_poly (aCons (eOp fAddA (eOp fMulA (eFrz (lDisp (aCons (eTup (aCons (eC (.int 0)) (aCons (eC (.int 1)) aNil))) aNil))) (eVar 1)) (eFrz (lDisp (aCons (eVar 0) aNil)))) aNil)))
@[irreducible] noncomputable def m_one_power : List PyData → Rp := pureOf 2 b_one_power
noncomputable def b_candidate : MS :=
    (sSeq (sAsg 2 (eCallP 1 m_degree (aCons (eVar 0) aNil)))
    (sSeq (sAsg 3 (eCallP 2 m_one_power (aCons (eTup (aCons (eC (.int 1)) (aCons (eC (.int 1)) aNil))) (aCons (eVar 1) aNil))))
    (sSeq (sFor (mR2 (aCons (eC (.int 1)) (aCons (eVar 1) aNil))) (gNameM 4)
    (sSeq (sAsg 5 (eCallP 2 m_divided (aCons (eCallP 2 m_fraction_at (aCons (eVar 0) (aCons (eOp fSub (eVar 2) (eVar 4)) aNil))) (aCons (eCallP 1 m_lead (aCons (eVar 0) aNil)) aNil))))
    (sSeq (sAsg 6 (eCallP 2 m_taken (aCons (eVar 5) (aCons (eCallP 2 m_fraction_at (aCons (eCallP 2 m_power (aCons (eVar 3) (aCons (eOp fDiv (eVar 2) (eVar 1)) aNil))) (aCons (eOp fSub (eVar 2) (eVar 4)) aNil))) aNil))))
    (sAsg 3 (eCallP 2 m_plus (aCons (eVar 3) (aCons (eCallP 2 m_one_power (aCons (eCallP 2 m_divided (aCons (eVar 6) (aCons (eTup (aCons (eOp fDiv (eVar 2) (eVar 1)) (aCons (eC (.int 1)) aNil))) aNil))) (aCons (eOp fSub (eVar 1) (eVar 4)) aNil))) aNil)))))))
    (sRet (eVar 3)))))
@[irreducible] noncomputable def m_candidate : List PyData → Rp := pureOf 7 b_candidate
noncomputable def b_L_turning : MS :=
    (sSeq (sAsg 2 (eOwn (lDisp (aCons (eTup (aCons (eTup (aCons (eC (.int 2)) aNil)) (aCons (eC (.int 1)) aNil))) (aCons (eTup (aCons (eTup (aCons (eC (.int 0)) (aCons (eC (.int 1)) aNil))) (aCons (eC (.int 1)) aNil))) aNil)))))
    (sSeq (sFor (mR1 (aCons (eOp fSub (eVar 0) (eC (.int 1))) aNil)) (gNameM 3)
    (sSeq (sAsg 4 (eCallP 2 m_L_times (aCons (eOp fIx (eVar 2) (eC (.int (-2)))) (aCons (eCallP 2 m_L_poly (aCons (eFrz (lDisp (aCons (eOp fSub (eC (.int 0)) (eOp fIx (eVar 1) (eC (.int 0)))) aNil))) (aCons (eOp fIx (eVar 1) (eC (.int 1))) aNil))) aNil))))
    (sDrop (eMethL mAppend (eVar 2) (aCons (eCallP 2 m_L_sum (aCons (eCallP 2 m_L_times (aCons (eTup (aCons (eTup (aCons (eC (.int 0)) (aCons (eC (.int 1)) aNil))) (aCons (eC (.int 1)) aNil))) (aCons (eOp fIx (eVar 2) (eC (.int (-1)))) aNil))) (aCons (eVar 4) aNil))) aNil)))))
    (sRet (eOp fIx (eVar 2) (eVar 0)))))
@[irreducible] noncomputable def m_L_turning : List PyData → Rp := pureOf 5 b_L_turning
noncomputable def b_L_power : MS :=
    (sSeq (sAsg 2 (eTup (aCons (eTup (aCons (eC (.int 1)) aNil)) (aCons (eC (.int 1)) aNil))))
    (sSeq (sFor (mR1 (aCons (eVar 1) aNil)) (gNameM 3)
    (sAsg 2 (eCallP 2 m_L_times (aCons (eVar 2) (aCons (eVar 0) aNil)))))
    (sRet (eVar 2))))
@[irreducible] noncomputable def m_L_power : List PyData → Rp := pureOf 4 b_L_power
noncomputable def b_parted_2 : MS :=
    (sSeq (sAsg 2 (eC c_NOUGHT))
    (sSeq (sAsg 3 (eVar 0))
    (sSeq (sWhile (bTest (eOp fGe (eCallP 1 m_degree (aCons (eVar 3) aNil)) (eCallP 1 m_degree (aCons (eVar 1) aNil))))
    (sSeq (sAsg 4 (eCallP 2 m_one_power (aCons (eCallP 2 m_divided (aCons (eCallP 1 m_lead (aCons (eVar 3) aNil)) (aCons (eCallP 1 m_lead (aCons (eVar 1) aNil)) aNil))) (aCons (eOp fSub (eCallP 1 m_degree (aCons (eVar 3) aNil)) (eCallP 1 m_degree (aCons (eVar 1) aNil))) aNil))))
    (sSeq (sAsg 2 (eCallP 2 m_plus (aCons (eVar 2) (aCons (eVar 4) aNil))))
    (sAsg 3 (eCallP 2 m_minus (aCons (eVar 3) (aCons (eCallP 2 m_times (aCons (eVar 4) (aCons (eVar 1) aNil))) aNil)))))))
    (sRet (eTup (aCons (eVar 2) (aCons (eVar 3) aNil)))))))
@[irreducible] noncomputable def m_parted_2 : List PyData → Rp := pureOf 5 b_parted_2
noncomputable def b_digits : MS :=
    (sSeq (sAsg 2 (eOwn (lDisp aNil)))
    (sSeq (sAsg 3 (eVar 0))
    (sSeq (sWhile (bTest (eOp fGe (eCallP 1 m_degree (aCons (eVar 3) aNil)) (eC (.int 0))))
    (sSeq (sAsgG (eCallP 2 m_parted_2 (aCons (eVar 3) (aCons (eVar 1) aNil))) (gTupM 2 (gConsM (gNameM 3) (gConsM (gNameM 4) gNilM))))
    (sDrop (eMethL mAppend (eVar 2) (aCons (eVar 4) aNil)))))
    (sRet (eCB cTupOf (aCons (eVar 2) aNil))))))
@[irreducible] noncomputable def m_digits : List PyData → Rp := pureOf 5 b_digits
noncomputable def b_apart : MS :=
    (sSeq (sAsg 2 (eCallP 2 m_candidate (aCons (eVar 0) (aCons (eVar 1) aNil))))
    (sSeq (sAsg 3 (eCallP 2 m_digits (aCons (eVar 0) (aCons (eVar 2) aNil))))
    (sSeq (sFor (mEnum (aCons (eVar 3) aNil)) (gTupM 2 (gConsM (gNameM 4) (gConsM (gNameM 5) gNilM)))
    (sIf (bTest (eOp fGe (eCallP 1 m_degree (aCons (eVar 5) aNil)) (eC (.int 1))))
    (sRet (eTup (aCons (eC (.str ("barred" : Str))) (aCons (eVar 2) (aCons (eVar 4) aNil)))))
    sNext))
    (sRet (eTup (aCons (eC (.str ("made" : Str))) (aCons (eCallP 1 m_poly (aCons (eFrz (lLc (mAny (eVar 3)) (([(("one" : Str), 5)] : List (Str × Nat)).map (·.2)) (gNameM 5) bYes (eCallP 2 m_fraction_at (aCons (eVar 5) (aCons (eC (.int 0)) aNil))))) aNil)) (aCons (eVar 2) aNil))))))))
@[irreducible] noncomputable def m_apart : List PyData → Rp := pureOf 6 b_apart
noncomputable def b_inner_one : MS :=
    (sRet (eCallP 2 m_candidate (aCons (eVar 0) (aCons (eVar 1) aNil))))
@[irreducible] noncomputable def m_inner_one : List PyData → Rp := pureOf 2 b_inner_one
noncomputable def b_L_fits : MS :=
    (sSeq (sFor (mAny (eVar 0)) (gNameM 1)
    (sIf (bTest (eOp fGe (eCB cMaxL (aCons (eOp fAddA (eFrz (lLc (mAny (eOp fIx (eVar 1) (eC (.int 0)))) (([(("_law_top" : Str), 2)] : List (Str × Nat)).map (·.2)) (gNameM 2) bYes (eCB cAbs (aCons (eVar 2) aNil)))) (eFrz (lDisp (aCons (eOp fIx (eVar 1) (eC (.int 1))) aNil)))) aNil)) (eOp fPow (eC (.int 10)) (eC (.int 40)))))
    (sRet (eC (.bool false)))
    sNext))
    (sRet (eC (.bool true))))
@[irreducible] noncomputable def m_L_fits : List PyData → Rp := pureOf 3 b_L_fits
def c_NONE_AT_ALL : PyData := .tuple [.int 0, .int 1]
noncomputable def b_less_times : MS :=
    (sRet (eFrz (lLc (mZip (aCons (eVar 0) (aCons (eVar 1) aNil))) (([(("a" : Str), 3), (("b" : Str), 4)] : List (Str × Nat)).map (·.2)) (gTupM 2 (gConsM (gNameM 3) (gConsM (gNameM 4) gNilM))) bYes (eCallP 2 m_taken (aCons (eVar 3) (aCons (eCallP 2 m_multiplied (aCons (eVar 2) (aCons (eVar 4) aNil))) aNil))))))
@[irreducible] noncomputable def m_less_times : List PyData → Rp := pureOf 5 b_less_times
noncomputable def b_with_weights : MS :=
    (sSeq (sAsg 1 (eOwn (lDisp aNil)))
    (sSeq (sFor (mEnum (aCons (eVar 0) aNil)) (gTupM 2 (gConsM (gNameM 2) (gConsM (gTupM 2 (gConsM (gNameM 3) (gConsM (gNameM 4) gNilM))) gNilM)))
    (sSeq (sAsg 5 (eOwn (lOp fRep (eFrz (lDisp (aCons (eC c_NONE_AT_ALL) aNil))) (eCB cLen (aCons (eVar 0) aNil)))))
    (sSeq (sAsgG (eC c_ONCE) (gSubM (eVar 5) (eVar 2)))
    (sDrop (eMethL mAppend (eVar 1) (aCons (eOp fAddA (eOp fAddA (eFrz (lCB cListOf (aCons (eVar 3) aNil))) (eFrz (lDisp (aCons (eVar 4) aNil)))) (eVar 5)) aNil))))))
    (sRet (eVar 1))))
@[irreducible] noncomputable def m_with_weights : List PyData → Rp := pureOf 6 b_with_weights
noncomputable def b_pivot : MS :=
    (sSeq (sFor (mR1 (aCons (eCB cLen (aCons (eVar 0) aNil)) aNil)) (gNameM 3)
    (sIf (bAnd (bTest (eOp (fDIn true) (eVar 3) (eVar 1))) (bTest (eOp (opEq true) (eOp fIx (eOp fIx (eVar 0) (eVar 3)) (eVar 2)) (eC c_NONE_AT_ALL))))
    (sRet (eVar 3))
    sNext))
    (sRet (eC .none)))
@[irreducible] noncomputable def m_pivot : List U → Rp := pureU 4 b_pivot
noncomputable def b_cleared : MS :=
    (sSeq (sAsg 3 (if true = true then eFrz (lLc (mAny (eOp fIx (eVar 0) (eVar 1))) (([(("one" : Str), 7)] : List (Str × Nat)).map (·.2)) (gNameM 7) bYes (eCallP 2 m_divided (aCons (eVar 7) (aCons (eOp fIx (eOp fIx (eVar 0) (eVar 1)) (eVar 2)) aNil)))) else eOwn (lLc (mAny (eOp fIx (eVar 0) (eVar 1))) (([(("one" : Str), 7)] : List (Str × Nat)).map (·.2)) (gNameM 7) bYes (eCallP 2 m_divided (aCons (eVar 7) (aCons (eOp fIx (eOp fIx (eVar 0) (eVar 1)) (eVar 2)) aNil))))))
    (sSeq (sAsg 4 (eOwn (lDisp aNil)))
    (sSeq (sFor (mEnum (aCons (eVar 0) aNil)) (gTupM 2 (gConsM (gNameM 5) (gConsM (gNameM 6) gNilM)))
    (sIf (bTest (eOp (opEq false) (eVar 5) (eVar 1)))
    (sDrop (eMethL mAppend (eVar 4) (aCons (eVar 3) aNil)))
    (sDrop (eMethL mAppend (eVar 4) (aCons (eCallP 3 m_less_times (aCons (eVar 6) (aCons (eVar 3) (aCons (eOp fIx (eVar 6) (eVar 2)) aNil)))) aNil)))))
    (sRet (eVar 4)))))
@[irreducible] noncomputable def m_cleared : List PyData → Rp := pureOf 8 b_cleared
noncomputable def b_solved : MS :=
    (sSeq (sAsg 1 (eCB cLen (aCons (eOp fIx (eOp fIx (eVar 0) (eC (.int 0))) (eC (.int 0))) aNil)))
    (sSeq (sAsg 2 (eCallP 1 m_with_weights (aCons (eVar 0) aNil)))
    (sSeq (sAsg 3 eNewD)
    (sSeq (sFor (mR1 (aCons (eVar 1) aNil)) (gNameM 4)
    (sSeq (sAsg 5 (eWith 3 (eCallU 3 m_pivot (aCons (eVar 2) (aCons (eVar 3) (aCons (eVar 4) aNil))))))
    (sIf (bTest (eOp (fIsN true) (eVar 5) (eC .none)))
    (sSeq (sAsg 2 (eCallP 3 m_cleared (aCons (eVar 2) (aCons (eVar 5) (aCons (eVar 4) aNil)))))
    (sDPutM (eVar 3) (eVar 5) (eVar 4)))
    sNext)))
    (sSeq (sFor (mEnum (aCons (eVar 2) aNil)) (gTupM 2 (gConsM (gNameM 5) (gConsM (gNameM 6) gNilM)))
    (sIf (bAnd (bTest (eOp (fDIn true) (eVar 5) (eVar 3))) (bTest (eOp (opEq true) (eOp fIx (eVar 6) (eVar 1)) (eC c_NONE_AT_ALL))))
    (sRet (eTup (aCons (eC (.str ("weights" : Str))) (aCons (eCB cTupOf (aCons (eSlAny (eVar 6) (oSome (eOp fAddA (eVar 1) (eC (.int 1)))) oNone) aNil)) aNil))))
    sNext))
    (sSeq (sAsg 7 (eOwn (lOp fRep (eFrz (lDisp (aCons (eC c_NONE_AT_ALL) aNil))) (eVar 1))))
    (sSeq (mLkS 3 (sFor (mDct (eVar 3)) (gNameM 5)
    (sAsgG (eOp fIx (eOp fIx (eVar 2) (eVar 5)) (eVar 1)) (gSubM (eVar 7) (eOp fDGet (eVar 3) (eVar 5))))))
    (sRet (eTup (aCons (eC (.str ("numbers" : Str))) (aCons (eCB cTupOf (aCons (eVar 7) aNil)) aNil)))))))))))
@[irreducible] noncomputable def m_solved : List PyData → Rp := pureOf 8 b_solved
noncomputable def b_L_is_fraction : MS :=
    (sSeq (sIf (bOr (bNot (bTru (eIsi (eVar 0) "tuple"))) (bOr (bTest (eOp (opEq true) (eCB cLen (aCons (eVar 0) aNil)) (eC (.int 2)))) (bNot (bTru (eCB cAll (aCons (eFrz (lLc (mAny (eVar 0)) (([(("_law_n" : Str), 1)] : List (Str × Nat)).map (·.2)) (gNameM 1) bYes (eAndV (eIsi (eVar 1) "int") (eNotV (eIsi (eVar 1) "bool"))))) aNil))))))
    (sRet (eC (.bool false)))
    sNext)
    (sRet (eAndV (eOp fGt (eOp fIx (eVar 0) (eC (.int 1))) (eC (.int 0))) (eOp (opEq false) (eCallP 2 m_L_common (aCons (eOp fIx (eVar 0) (eC (.int 0))) (aCons (eOp fIx (eVar 0) (eC (.int 1))) aNil))) (eC (.int 1))))))
@[irreducible] noncomputable def m_L_is_fraction : List PyData → Rp := pureOf 2 b_L_is_fraction
noncomputable def b_least_multiple : MS :=
    (sSeq (sPar 2 3 (aCons (eVar 0) (aCons (eVar 1) aNil)))
    (sSeq (sWhile (bTest (eOp fGt (eVar 3) (eC (.int 0))))
    (sPar 2 3 (aCons (eVar 3) (aCons (eOp fMod (eVar 2) (eVar 3)) aNil))))
    (sRet (eOp fMulA (eOp fDiv (eVar 0) (eVar 2)) (eVar 1)))))
@[irreducible] noncomputable def m_least_multiple : List PyData → Rp := pureOf 4 b_least_multiple
noncomputable def b_shape : MS :=
    (sSeq (sAsg 2 (eCallP 2 m_least_multiple (aCons (eCallP 1 m_degree (aCons (eVar 0) aNil)) (aCons (eCallP 1 m_degree (aCons (eVar 1) aNil)) aNil))))
    (sRet (eTup (aCons (eVar 2) (aCons (eOp fDiv (eVar 2) (eCallP 1 m_degree (aCons (eVar 0) aNil))) (aCons (eOp fDiv (eVar 2) (eCallP 1 m_degree (aCons (eVar 1) aNil))) aNil))))))
@[irreducible] noncomputable def m_shape : List PyData → Rp := pureOf 3 b_shape
noncomputable def b_columns : MS :=
    (sSeq (sAsgG (eCallP 2 m_shape (aCons (eVar 0) (aCons (eVar 1) aNil))) (gTupM 3 (gConsM (gNameM 2) (gConsM (gNameM 3) (gConsM (gNameM 4) gNilM)))))
    (sSeq (sAsg 5 (eOp fAddA (eFrz (lLc (mR1 (aCons (eVar 3) aNil)) (([(("i" : Str), 6)] : List (Str × Nat)).map (·.2)) (gNameM 6) bYes (eCallP 2 m_power (aCons (eVar 0) (aCons (eVar 6) aNil))))) (eFrz (lLc (mR2 (aCons (eC (.int 1)) (aCons (eOp fAddA (eVar 4) (eC (.int 1))) aNil))) (([(("j" : Str), 7)] : List (Str × Nat)).map (·.2)) (gNameM 7) bYes (eCallP 2 m_power (aCons (eVar 1) (aCons (eVar 7) aNil)))))))
    (sRet (eTup (aCons (eVar 5) (aCons (eCallP 2 m_power (aCons (eVar 0) (aCons (eVar 3) aNil))) aNil))))))
@[irreducible] noncomputable def m_columns : List PyData → Rp := pureOf 8 b_columns
noncomputable def b_common_outer : MS :=
    (sSeq (sAsgG (eCallP 2 m_shape (aCons (eVar 0) (aCons (eVar 1) aNil))) (gTupM 3 (gConsM (gNameM 2) (gConsM (gNameM 3) (gConsM (gNameM 4) gNilM)))))
    (sSeq (sAsgG (eCallP 2 m_columns (aCons (eVar 0) (aCons (eVar 1) aNil))) (gTupM 2 (gConsM (gNameM 5) (gConsM (gNameM 6) gNilM))))
    (sSeq (sAsg 7 (eOwn (lDisp aNil)))
    (sSeq (sFor (mR1 (aCons (eOp fAddA (eVar 2) (eC (.int 1))) aNil)) (gNameM 8)
    (sDrop (eMethL mAppend (eVar 7) (aCons (eTup (aCons (eCB cTupOf (aCons (eFrz (lLc (mAny (eVar 5)) (([(("p" : Str), 13)] : List (Str × Nat)).map (·.2)) (gNameM 13) bYes (eCallP 2 m_fraction_at (aCons (eVar 13) (aCons (eVar 8) aNil))))) aNil)) (aCons (eCallP 2 m_fraction_at (aCons (eVar 6) (aCons (eVar 8) aNil))) aNil))) aNil))))
    (sSeq (sAsgG (eCallP 1 m_solved (aCons (eCB cTupOf (aCons (eVar 7) aNil)) aNil)) (gTupM 2 (gConsM (gNameM 9) (gConsM (gNameM 10) gNilM))))
    (sSeq (sIf (bTest (eOp (opEq false) (eVar 9) (eC (.str ("weights" : Str)))))
    (sRet (eTup (aCons (eC (.str ("none" : Str))) (aCons (eVar 10) aNil))))
    sNext)
    (sSeq (sAsg 11 (eOp fAddA (eFrz (lLc (mAny (eSlAny (eVar 10) oNone (oSome (eVar 3)))) (([(("one" : Str), 12)] : List (Str × Nat)).map (·.2)) (gNameM 12) bYes (eCallP 2 m_multiplied (aCons (eTup (aCons (eC (.int (-1))) (aCons (eC (.int 1)) aNil))) (aCons (eVar 12) aNil))))) (eFrz (lDisp (aCons (eC c_ONCE) aNil)))))
    (sRet (eTup (aCons (eC (.str ("outer" : Str))) (aCons (eCallP 1 m_poly (aCons (eVar 11) aNil)) (aCons (eCallP 1 m_poly (aCons (eOp fAddA (eFrz (lDisp (aCons (eC c_NONE_AT_ALL) aNil))) (eFrz (lCB cListOf (aCons (eSlAny (eVar 10) (oSome (eVar 3)) oNone) aNil)))) aNil)) aNil))))))))))))
@[irreducible] noncomputable def m_common_outer : List PyData → Rp := pureOf 14 b_common_outer
noncomputable def b_L_shape : MS :=
    (sSeq (sPar 2 3 (aCons (eOp fSub (eCB cLen (aCons (eOp fIx (eVar 0) (eC (.int 0))) aNil)) (eC (.int 1))) (aCons (eOp fSub (eCB cLen (aCons (eOp fIx (eVar 1) (eC (.int 0))) aNil)) (eC (.int 1))) aNil)))
    (sSeq (sAsg 4 (eOp fDiv (eOp fMulA (eVar 2) (eVar 3)) (eCallP 2 m_L_common (aCons (eVar 2) (aCons (eVar 3) aNil)))))
    (sRet (eTup (aCons (eVar 4) (aCons (eOp fDiv (eVar 4) (eVar 2)) (aCons (eOp fDiv (eVar 4) (eVar 3)) aNil)))))))
@[irreducible] noncomputable def m_L_shape : List PyData → Rp := pureOf 5 b_L_shape
noncomputable def b_L_left : MS :=
    (sSeq (sAsg 2 (eTup (aCons (eC (.int 0)) (aCons (eC (.int 1)) aNil))))
    (sSeq (sFor (mZip (aCons (eOp fIx (eVar 0) (eC (.int 0))) (aCons (eVar 1) aNil))) (gTupM 2 (gConsM (gNameM 3) (gConsM (gNameM 4) gNilM)))
    (sAsg 2 (eCallP 2 m_L_added (aCons (eVar 2) (aCons (eCallP 2 m_L_product (aCons (eTup (aCons (eVar 3) (aCons (eOp fIx (eVar 0) (eC (.int 1))) aNil))) (aCons (eVar 4) aNil))) aNil)))))
    (sRet (eVar 2))))
@[irreducible] noncomputable def m_L_left : List PyData → Rp := pureOf 5 b_L_left
noncomputable def b_L_outer_shown : MS :=
    (sSeq (sAsgG (eCallP 2 m_L_shape (aCons (eVar 0) (aCons (eVar 1) aNil))) (gTupM 3 (gConsM (gNameM 4) (gConsM (gNameM 5) (gConsM (gNameM 6) gNilM)))))
    (sSeq (sIf (bOr (bTest (eOp (opEq true) (eCB cLen (aCons (eOp fIx (eVar 2) (eC (.int 0))) aNil)) (eOp fAddA (eVar 5) (eC (.int 1))))) (bOr (bTest (eOp (opEq true) (eCB cLen (aCons (eOp fIx (eVar 3) (eC (.int 0))) aNil)) (eOp fAddA (eVar 6) (eC (.int 1))))) (bOr (bTest (eOp (opEq true) (eOp fIx (eOp fIx (eVar 2) (eC (.int 0))) (eC (.int (-1)))) (eOp fIx (eVar 2) (eC (.int 1))))) (bTest (eOp (opEq true) (eOp fIx (eOp fIx (eVar 3) (eC (.int 0))) (eC (.int 0))) (eC (.int 0)))))))
    (sRet (eC (.bool false)))
    sNext)
    (sRet (eOp (opEq false) (eCallP 2 m_L_of (aCons (eVar 2) (aCons (eVar 0) aNil))) (eCallP 2 m_L_of (aCons (eVar 3) (aCons (eVar 1) aNil)))))))
@[irreducible] noncomputable def m_L_outer_shown : List PyData → Rp := pureOf 7 b_L_outer_shown
noncomputable def b_L_barred : MS :=
    (sSeq (sAsgG (eCallP 2 m_L_shape (aCons (eVar 0) (aCons (eVar 1) aNil))) (gTupM 3 (gConsM (gNameM 3) (gConsM (gNameM 4) (gConsM (gNameM 5) gNilM)))))
    (sSeq (sIf (bTest (eOp (opEq true) (eCB cLen (aCons (eVar 2) aNil)) (eOp fAddA (eVar 3) (eC (.int 1)))))
    (sRet (eC (.bool false)))
    sNext)
    (sSeq (sAsg 6 (eOp fAddA (eFrz (lLc (mR1 (aCons (eVar 4) aNil)) (([(("_law_k" : Str), 7)] : List (Str × Nat)).map (·.2)) (gNameM 7) bYes (eCallP 2 m_L_power (aCons (eVar 0) (aCons (eVar 7) aNil))))) (eFrz (lLc (mR2 (aCons (eC (.int 1)) (aCons (eOp fAddA (eVar 5) (eC (.int 1))) aNil))) (([(("_law_k" : Str), 7)] : List (Str × Nat)).map (·.2)) (gNameM 7) bYes (eCallP 2 m_L_power (aCons (eVar 1) (aCons (eVar 7) aNil)))))))
    (sRet (eAndV (eCB cAll (aCons (eFrz (lLc (mAny (eVar 6)) (([(("_law_p" : Str), 8)] : List (Str × Nat)).map (·.2)) (gNameM 8) bYes (eOp (opEq false) (eCallP 2 m_L_left (aCons (eVar 8) (aCons (eVar 2) aNil))) (eTup (aCons (eC (.int 0)) (aCons (eC (.int 1)) aNil)))))) aNil)) (eOp (opEq true) (eCallP 2 m_L_left (aCons (eCallP 2 m_L_power (aCons (eVar 0) (aCons (eVar 4) aNil))) (aCons (eVar 2) aNil))) (eTup (aCons (eC (.int 0)) (aCons (eC (.int 1)) aNil)))))))))
@[irreducible] noncomputable def m_L_barred : List PyData → Rp := pureOf 9 b_L_barred
noncomputable def b_L_degrees : MS :=
    (sSeq (sIf (bTest (eOp (opEq false) (eCallF 2 m_L_pick (aCons (eVar 0) (aCons (eC (.int 8)) aNil))) (eC (.int 0))))
    (sRet (eOp fIx (eFrz (lDisp (aCons (eTup (aCons (eC (.int 3)) (aCons (eC (.int 4)) aNil))) (aCons (eTup (aCons (eC (.int 4)) (aCons (eC (.int 3)) aNil))) (aCons (eTup (aCons (eC (.int 2)) (aCons (eC (.int 5)) aNil))) (aCons (eTup (aCons (eC (.int 5)) (aCons (eC (.int 2)) aNil))) (aCons (eTup (aCons (eC (.int 4)) (aCons (eC (.int 6)) aNil))) (aCons (eTup (aCons (eC (.int 6)) (aCons (eC (.int 4)) aNil))) aNil)))))))) (eCallF 2 m_L_pick (aCons (eVar 0) (aCons (eC (.int 6)) aNil)))))
    sNext)
    (sSeq (sAsg 1 (eFrz (lDisp (aCons (eTup (aCons (eC (.int 2)) (aCons (eC (.int 3)) aNil))) (aCons (eTup (aCons (eC (.int 3)) (aCons (eC (.int 2)) aNil))) (aCons (eTup (aCons (eC (.int 2)) (aCons (eC (.int 4)) aNil))) (aCons (eTup (aCons (eC (.int 4)) (aCons (eC (.int 2)) aNil))) (aCons (eTup (aCons (eC (.int 3)) (aCons (eC (.int 6)) aNil))) (aCons (eTup (aCons (eC (.int 6)) (aCons (eC (.int 3)) aNil))) (aCons (eTup (aCons (eC (.int 2)) (aCons (eC (.int 6)) aNil))) (aCons (eTup (aCons (eC (.int 6)) (aCons (eC (.int 2)) aNil))) (aCons (eTup (aCons (eC (.int 1)) (aCons (eC (.int 6)) aNil))) (aCons (eTup (aCons (eC (.int 5)) (aCons (eC (.int 1)) aNil))) (aCons (eTup (aCons (eC (.int 1)) (aCons (eC (.int 1)) aNil))) (aCons (eTup (aCons (eC (.int 2)) (aCons (eC (.int 2)) aNil))) (aCons (eTup (aCons (eC (.int 3)) (aCons (eC (.int 3)) aNil))) aNil))))))))))))))))
    (sSeq (sAsg 1 (eOp fAddA (eVar 1) (eFrz (lDisp (aCons (eTup (aCons (eC (.int 4)) (aCons (eC (.int 4)) aNil))) (aCons (eTup (aCons (eC (.int 6)) (aCons (eC (.int 6)) aNil))) (aCons (eTup (aCons (eC (.int 1)) (aCons (eC (.int 3)) aNil))) (aCons (eTup (aCons (eC (.int 5)) (aCons (eC (.int 5)) aNil))) (aCons (eTup (aCons (eC (.int 2)) (aCons (eC (.int 3)) aNil))) (aCons (eTup (aCons (eC (.int 3)) (aCons (eC (.int 2)) aNil))) (aCons (eTup (aCons (eC (.int 1)) (aCons (eC (.int 4)) aNil))) aNil)))))))))))
    (sRet (eOp fIx (eVar 1) (eCallF 2 m_L_pick (aCons (eVar 0) (aCons (eC (.int 20)) aNil))))))))
@[irreducible] noncomputable def m_L_degrees : List PyData → Fl → Rf := flowOf 2 b_L_degrees
noncomputable def b_L_multiple (mm : List PyData → Fl → Rf) : MS :=
    (sSeq (sIf (bTest (eOp (opEq false) (eOp fMod (eVar 1) (eVar 2)) (eC (.int 0))))
    (sSeq (sAsg 3 (eCallF 3 m_L_any_poly (aCons (eVar 0) (aCons (eVar 2) (aCons (eC (.int 3)) aNil)))))
    (sRet (eTup (aCons (eCallP 2 m_L_of (aCons (eCallF 3 m_L_any_poly (aCons (eVar 0) (aCons (eOp fDiv (eVar 1) (eVar 2)) (aCons (eC (.int 2)) aNil)))) (aCons (eVar 3) aNil))) (aCons (eVar 3) aNil)))))
    sNext)
    (sSeq (sIf (bTest (eOp (opEq false) (eOp fMod (eVar 2) (eVar 1)) (eC (.int 0))))
    (sSeq (sAsgG (eCallF 3 mm (aCons (eVar 0) (aCons (eVar 2) (aCons (eVar 1) aNil)))) (gTupM 2 (gConsM (gNameM 3) (gConsM (gNameM 4) gNilM))))
    (sRet (eTup (aCons (eVar 4) (aCons (eVar 3) aNil)))))
    sNext)
    (sRet (eTup (aCons (eCallP 2 m_L_poly (aCons (eOp fAddA (eOp fMulA (eFrz (lDisp (aCons (eC (.int 0)) aNil))) (eVar 1)) (eFrz (lDisp (aCons (eC (.int 1)) aNil)))) (aCons (eC (.int 1)) aNil))) (aCons (eCallP 2 m_L_poly (aCons (eOp fAddA (eOp fMulA (eFrz (lDisp (aCons (eC (.int 0)) aNil))) (eVar 2)) (eFrz (lDisp (aCons (eC (.int 1)) aNil)))) (aCons (eC (.int 1)) aNil))) aNil))))))
noncomputable def r_L_multiple : Nat → List PyData → Fl → Rf
  | 0 => fun _ _ => .no
  | n + 1 => flowOf 5 (b_L_multiple (r_L_multiple n))
@[irreducible] noncomputable def m_L_multiple (n : Nat) : List PyData → Fl → Rf := r_L_multiple n
theorem z_L_multiple : m_L_multiple 0 = fun _ _ => .no := by unfold m_L_multiple; rfl
theorem s_L_multiple {n : Nat} : m_L_multiple (n + 1) = flowOf 5 (b_L_multiple (m_L_multiple n)) := by unfold m_L_multiple; rfl
noncomputable def b_L_bent (mm : List PyData → Fl → Rf) : MS :=
    (sSeq (sAsg 3 (eCallP 2 m_L_common (aCons (eVar 1) (aCons (eVar 2) aNil))))
    (sSeq (sPar 1 2 (aCons (eOp fDiv (eVar 1) (eVar 3)) (aCons (eOp fDiv (eVar 2) (eVar 3)) aNil)))
    (sSeq (sIf (bTest (eOp fLt (eVar 1) (eVar 2)))
    (sAsgG (eCallF 3 mm (aCons (eVar 0) (aCons (eVar 2) (aCons (eVar 1) aNil)))) (gTupM 2 (gConsM (gNameM 4) (gConsM (gNameM 5) gNilM))))
    (sSeq (sAsg 5 (eCallP 2 m_L_poly (aCons (eOp fAddA (eOp fMulA (eFrz (lDisp (aCons (eC (.int 0)) aNil))) (eOp fMod (eVar 1) (eVar 2))) (eFrz (lDisp (aCons (eC (.int 1)) aNil)))) (aCons (eC (.int 1)) aNil))))
    (sSeq (sFor (mR1 (aCons (eOp fDiv (eVar 1) (eVar 2)) aNil)) (gNameM 6)
    (sAsg 5 (eCallP 2 m_L_times (aCons (eVar 5) (aCons (eCallP 2 m_L_poly (aCons (eOp fAddA (eOp fAddA (eFrz (lDisp (aCons (eCallF 2 m_L_number (aCons (eVar 0) (aCons (eC (.int 3)) aNil))) aNil))) (eOp fMulA (eFrz (lDisp (aCons (eC (.int 0)) aNil))) (eOp fSub (eVar 2) (eC (.int 1))))) (eFrz (lDisp (aCons (eC (.int 1)) aNil)))) (aCons (eC (.int 1)) aNil))) aNil)))))
    (sAsg 4 (eCallP 2 m_L_poly (aCons (eOp fAddA (eOp fMulA (eFrz (lDisp (aCons (eC (.int 0)) aNil))) (eVar 2)) (eFrz (lDisp (aCons (eC (.int 1)) aNil)))) (aCons (eC (.int 1)) aNil)))))))
    (sSeq (sAsg 7 (eCallP 2 m_L_poly (aCons (eOp fAddA (eOp fMulA (eFrz (lDisp (aCons (eC (.int 0)) aNil))) (eVar 3)) (eFrz (lDisp (aCons (eC (.int 1)) aNil)))) (aCons (eC (.int 1)) aNil))))
    (sRet (eTup (aCons (eCallP 2 m_L_of (aCons (eVar 5) (aCons (eVar 7) aNil))) (aCons (eCallP 2 m_L_of (aCons (eVar 4) (aCons (eVar 7) aNil))) aNil))))))))
noncomputable def r_L_bent : Nat → List PyData → Fl → Rf
  | 0 => fun _ _ => .no
  | n + 1 => flowOf 8 (b_L_bent (r_L_bent n))
@[irreducible] noncomputable def m_L_bent (n : Nat) : List PyData → Fl → Rf := r_L_bent n
theorem z_L_bent : m_L_bent 0 = fun _ _ => .no := by unfold m_L_bent; rfl
theorem s_L_bent {n : Nat} : m_L_bent (n + 1) = flowOf 8 (b_L_bent (m_L_bent n)) := by unfold m_L_bent; rfl
noncomputable def b_L_outer_pair : MS :=
    (sSeq (sAsgG (eCallF 1 m_L_degrees (aCons (eVar 0) aNil)) (gTupM 2 (gConsM (gNameM 1) (gConsM (gNameM 2) gNilM))))
    (sSeq (sAsg 3 (eCallF 2 m_L_pick (aCons (eVar 0) (aCons (eC (.int 6)) aNil))))
    (sSeq (sIf (bTest (eOp (opEq false) (eVar 3) (eC (.int 0))))
    (sRet (eTup (aCons (eCallF 3 m_L_any_poly (aCons (eVar 0) (aCons (eVar 1) (aCons (eC (.int 4)) aNil)))) (aCons (eCallF 3 m_L_any_poly (aCons (eVar 0) (aCons (eVar 2) (aCons (eC (.int 4)) aNil)))) aNil))))
    sNext)
    (sSeq (sIf (bTest (eOp (opEq false) (eVar 3) (eC (.int 1))))
    (sPar 4 5 (aCons (eCallP 2 m_L_poly (aCons (eOp fAddA (eOp fMulA (eFrz (lDisp (aCons (eC (.int 0)) aNil))) (eVar 1)) (eFrz (lDisp (aCons (eC (.int 1)) aNil)))) (aCons (eC (.int 1)) aNil))) (aCons (eCallP 2 m_L_poly (aCons (eOp fAddA (eOp fMulA (eFrz (lDisp (aCons (eC (.int 0)) aNil))) (eVar 2)) (eFrz (lDisp (aCons (eC (.int 1)) aNil)))) (aCons (eC (.int 1)) aNil))) aNil)))
    (sIf (bTest (eOp (opEq false) (eVar 3) (eC (.int 2))))
    (sSeq (sAsg 6 (eCallF 2 m_L_any_fraction (aCons (eVar 0) (aCons (eC (.int 3)) aNil))))
    (sPar 4 5 (aCons (eCallP 2 m_L_turning (aCons (eVar 1) (aCons (eVar 6) aNil))) (aCons (eCallP 2 m_L_turning (aCons (eVar 2) (aCons (eVar 6) aNil))) aNil))))
    (sIf (bTest (eOp fLt (eVar 3) (eC (.int 5))))
    (sAsgG (eCallF 3 (m_L_bent 10) (aCons (eVar 0) (aCons (eVar 1) (aCons (eVar 2) aNil)))) (gTupM 2 (gConsM (gNameM 4) (gConsM (gNameM 5) gNilM))))
    (sAsgG (eCallF 3 (m_L_multiple 10) (aCons (eVar 0) (aCons (eVar 1) (aCons (eVar 2) aNil)))) (gTupM 2 (gConsM (gNameM 4) (gConsM (gNameM 5) gNilM)))))))
    (sSeq (sAsg 7 (eCallF 2 m_L_any_straight (aCons (eVar 0) (aCons (eC (.int 2)) aNil))))
    (sSeq (sAsg 4 (eCallP 2 m_L_of (aCons (eCallP 2 m_L_of (aCons (eCallF 2 m_L_any_straight (aCons (eVar 0) (aCons (eC (.int 3)) aNil))) (aCons (eVar 4) aNil))) (aCons (eVar 7) aNil))))
    (sSeq (sAsg 5 (eCallP 2 m_L_of (aCons (eCallP 2 m_L_of (aCons (eCallF 2 m_L_any_straight (aCons (eVar 0) (aCons (eC (.int 3)) aNil))) (aCons (eVar 5) aNil))) (aCons (eVar 7) aNil))))
    (sSeq (sIf (bTest (eOp (opEq false) (eCallF 2 m_L_pick (aCons (eVar 0) (aCons (eC (.int 4)) aNil))) (eC (.int 0))))
    (sAsg 4 (eCallP 2 m_L_sum (aCons (eVar 4) (aCons (eCallP 2 m_L_poly (aCons (eOp fAddA (eOp fMulA (eFrz (lDisp (aCons (eC (.int 0)) aNil))) (eCallF 2 m_L_pick (aCons (eVar 0) (aCons (eOp fSub (eCB cLen (aCons (eOp fIx (eVar 4) (eC (.int 0))) aNil)) (eC (.int 1))) aNil)))) (eFrz (lDisp (aCons (eC (.int 1)) aNil)))) (aCons (eOp fAddA (eC (.int 1)) (eCallF 2 m_L_pick (aCons (eVar 0) (aCons (eC (.int 3)) aNil)))) aNil))) aNil))))
    sNext)
    (sRet (eTup (aCons (eVar 4) (aCons (eVar 5) aNil))))))))))))
@[irreducible] noncomputable def m_L_outer_pair : List PyData → Fl → Rf := flowOf 8 b_L_outer_pair
noncomputable def b_L_is_poly_2 : MS :=
    (sSeq (sIf (bOr (bNot (bTru (eIsi (eVar 0) "tuple"))) (bOr (bTest (eOp (opEq true) (eCB cLen (aCons (eVar 0) aNil)) (eC (.int 2)))) (bOr (bNot (bTru (eIsi (eOp fIx (eVar 0) (eC (.int 0))) "tuple"))) (bTest (eOp (opEq false) (eCB cLen (aCons (eOp fIx (eVar 0) (eC (.int 0))) aNil)) (eC (.int 0)))))))
    (sRet (eC (.bool false)))
    sNext)
    (sSeq (sIf (bNot (bTru (eCB cAll (aCons (eFrz (lLc (mAny (eOp fAddA (eOp fIx (eVar 0) (eC (.int 0))) (eSlAny (eVar 0) (oSome (eC (.int 1))) oNone))) (([(("_law_n" : Str), 1)] : List (Str × Nat)).map (·.2)) (gNameM 1) bYes (eAndV (eIsi (eVar 1) "int") (eNotV (eIsi (eVar 1) "bool"))))) aNil))))
    (sRet (eC (.bool false)))
    sNext)
    (sRet (eAndV (eOp fGt (eOp fIx (eVar 0) (eC (.int 1))) (eC (.int 0))) (eOp (opEq false) (eCallP 2 m_L_poly (aCons (eOp fIx (eVar 0) (eC (.int 0))) (aCons (eOp fIx (eVar 0) (eC (.int 1))) aNil))) (eVar 0))))))
@[irreducible] noncomputable def m_L_is_poly_2 : List PyData → Rp := pureOf 2 b_L_is_poly_2
noncomputable def b_L_right_32 : MS :=
    (sSeq (sIf (bOr (bNot (bTru (eIsi (eVar 2) "tuple"))) (bOr (bTest (eOp (fIn true) (eOp fIx (eVar 2) (eC (.int 0))) (eTup (aCons (eC (.str ("outer" : Str))) (aCons (eC (.str ("none" : Str))) aNil))))) (bTest (eOp (opEq true) (eCB cLen (aCons (eVar 2) aNil)) (eOp fAddA (eC (.int 2)) (eCB cInt (aCons (eOp (opEq false) (eOp fIx (eVar 2) (eC (.int 0))) (eC (.str ("outer" : Str)))) aNil)))))))
    (sRet (eC (.bool false)))
    sNext)
    (sSeq (sIf (bTest (eOp (opEq false) (eOp fIx (eVar 2) (eC (.int 0))) (eC (.str ("outer" : Str)))))
    (sRet (eAndV (eCallP 1 m_L_is_poly_2 (aCons (eOp fIx (eVar 2) (eC (.int 1))) aNil)) (eAndV (eCallP 1 m_L_is_poly_2 (aCons (eOp fIx (eVar 2) (eC (.int 2))) aNil)) (eCallP 4 m_L_outer_shown (aCons (eVar 0) (aCons (eVar 1) (aCons (eOp fIx (eVar 2) (eC (.int 1))) (aCons (eOp fIx (eVar 2) (eC (.int 2))) aNil))))))))
    sNext)
    (sSeq (sIf (bOr (bNot (bTru (eIsi (eOp fIx (eVar 2) (eC (.int 1))) "tuple"))) (bNot (bTru (eCB cAll (aCons (eFrz (lLc (mAny (eOp fIx (eVar 2) (eC (.int 1)))) (([(("_law_one" : Str), 3)] : List (Str × Nat)).map (·.2)) (gNameM 3) bYes (eCallP 1 m_L_is_fraction (aCons (eVar 3) aNil)))) aNil)))))
    (sRet (eC (.bool false)))
    sNext)
    (sRet (eCallP 3 m_L_barred (aCons (eVar 0) (aCons (eVar 1) (aCons (eOp fIx (eVar 2) (eC (.int 1))) aNil))))))))
@[irreducible] noncomputable def m_L_right_32 : List PyData → Rp := pureOf 4 b_L_right_32
noncomputable def b_law_k58 : MS :=
    (sSeq (sAsgG (eCallF 1 m_L_outer_pair (aCons (eVar 1) aNil)) (gTupM 2 (gConsM (gNameM 2) (gConsM (gNameM 3) gNilM))))
    (sSeq (sIf (bNot (bTru (eCallP 1 m_L_fits (aCons (eFrz (lDisp (aCons (eVar 2) (aCons (eVar 3) aNil)))) aNil))))
    (sRet (eC (.bool true)))
    sNext)
    (sSeq (sAsg 4 (eCallP 2 m_common_outer (aCons (eVar 2) (aCons (eVar 3) aNil))))
    (sSeq (sIf (bNot (bTru (eCallP 3 m_L_right_32 (aCons (eVar 2) (aCons (eVar 3) (aCons (eVar 4) aNil))))))
    (sRet (eC (.bool false)))
    sNext)
    (sSeq (sIf (bTest (eOp fGt (eOp fIx (eCallP 2 m_L_shape (aCons (eVar 2) (aCons (eVar 3) aNil))) (eC (.int 0))) (eC (.int 6))))
    (sRet (eC (.bool true)))
    sNext)
    (sSeq (sAsg 5 (eCallP 2 m_common_outer (aCons (eVar 3) (aCons (eVar 2) aNil))))
    (sSeq (sIf (bOr (bNot (bTru (eCallP 3 m_L_right_32 (aCons (eVar 3) (aCons (eVar 2) (aCons (eVar 5) aNil)))))) (bOr (bTest (eOp (opEq true) (eOp fIx (eVar 5) (eC (.int 0))) (eOp fIx (eVar 4) (eC (.int 0))))) (bNot (bTru (eCallP 3 m_L_right_32 (aCons (eVar 2) (aCons (eVar 2) (aCons (eCallP 2 m_common_outer (aCons (eVar 2) (aCons (eVar 2) aNil))) aNil))))))))
    (sRet (eC (.bool false)))
    sNext)
    (sSeq (sAsgG (eCallF 1 m_L_outer_pair (aCons (eVar 1) aNil)) (gTupM 2 (gConsM (gNameM 6) (gConsM (gNameM 7) gNilM))))
    (sSeq (sIf (bAnd (bTest (eOp fLt (eOp fIx (eCallP 2 m_L_shape (aCons (eVar 6) (aCons (eVar 7) aNil))) (eC (.int 0))) (eC (.int 7)))) (bTru (eCallP 1 m_L_fits (aCons (eFrz (lDisp (aCons (eVar 6) (aCons (eVar 7) aNil)))) aNil))))
    (sIf (bNot (bTru (eCallP 3 m_L_right_32 (aCons (eVar 6) (aCons (eVar 7) (aCons (eCallP 2 m_common_outer (aCons (eVar 6) (aCons (eVar 7) aNil))) aNil))))))
    (sRet (eC (.bool false)))
    sNext)
    sNext)
    (sRet (eOp (opEq false) (eCallP 2 m_common_outer (aCons (eVar 2) (aCons (eVar 3) aNil))) (eVar 4))))))))))))
end NW
namespace NW
open PySem PySem.Spec PyProof.Rows L2
def FlOk (f : Fl) : Prop := 0 ≤ f.held ∧ 0 ≤ f.seed ∧ f.seed < 2147483647 ∧ 0 ≤ f.place
theorem fl0_ok (ns : List Int) : FlOk (fl0 ns) := by unfold FlOk fl0; simp
theorem log2_lt {i : Int} {n : Nat} (h : i.natAbs < 2 ^ n) (h0 : 0 < n) : i.natAbs.log2 < n := by
  by_cases e : i.natAbs = 0
  · rw [e]; simp; exact h0
  · exact (Nat.log2_lt e).mpr h
theorem mulC_of {i j : Int} {a b : Nat} (ha : i.natAbs < 2 ^ a) (hb : j.natAbs < 2 ^ b) (h0 : 0 < a) (h1 : 0 < b) (h : a + b ≤ 1000000) : mulC i j = true := by
  have x := log2_lt ha h0
  have y := log2_lt hb h1
  unfold mulC
  exact decide_eq_true (by omega)
theorem divC_of {i j : Int} {b : Nat} (h : j ≠ 0) (hb : j.natAbs < 2 ^ b) (h0 : 0 < b) (h9 : b ≤ 9000) : divC i j = true := decide_eq_true h
theorem divU {i j : Int} (h : j ≠ 0) : divC i j = true := decide_eq_true h
theorem fmod_lt {a b : Int} (h : 0 < b) : 0 ≤ a.fmod b ∧ a.fmod b < b := by
  rw [Int.fmod_eq_emod_of_nonneg a (by omega)]
  exact ⟨Int.emod_nonneg a (by omega), Int.emod_lt_of_pos a h⟩
theorem fdiv_nn {a b : Int} (h0 : 0 ≤ a) (h : 0 < b) : 0 ≤ a.fdiv b := by
  rw [Int.fdiv_eq_ediv_of_nonneg a (by omega)]
  exact Int.ediv_nonneg h0 (by omega)
theorem fdiv_le {a b : Int} (h0 : 0 ≤ a) (h : 0 < b) : a.fdiv b ≤ a := by
  rw [Int.fdiv_eq_ediv_of_nonneg a (by omega)]
  exact Int.ediv_le_self b h0
theorem mulC_small {i j : Int} (h : -(2 ^ 64) < i ∧ i < 2 ^ 64) (h' : -(2 ^ 64) < j ∧ j < 2 ^ 64) : mulC i j = true := mulC_of (a := 64) (b := 64) (by omega) (by omega) (by omega) (by omega) (by omega)
theorem divC_small {i j : Int} (h : j ≠ 0) (h' : -(2 ^ 64) < j ∧ j < 2 ^ 64) : divC i j = true := divC_of (b := 64) h (by omega) (by omega) (by omega)
theorem pick_A {seed mny many : Int} {P : Int → Int → Prop} (h0 : 0 ≤ seed) (h1 : seed < 2147483647) (hm : 0 < many) (hP : ∀ i s, 0 ≤ i → i < many → 0 ≤ s → s < 2147483647 → P i s) : mulC seed 48271 = true ∧
    divC ((seed * 48271 + 12820163 + (mny + 1)).fmod 2147483647) 65521 = true ∧
    mulC (((seed * 48271 + 12820163 + (mny + 1)).fmod 2147483647).fmod 65521 + 1) (((seed * 48271 + 12820163 + (mny + 1)).fmod 2147483647).fdiv 65521 + 7919) = true ∧
    divC (((((seed * 48271 + 12820163 + (mny + 1)).fmod 2147483647).fmod 65521 + 1) * (((seed * 48271 + 12820163 + (mny + 1)).fmod 2147483647).fdiv 65521 + 7919)).fmod 1000003) 7 = true ∧ ¬many = 0 ∧
    P (((((((seed * 48271 + 12820163 + (mny + 1)).fmod 2147483647).fmod 65521 + 1) * (((seed * 48271 + 12820163 + (mny + 1)).fmod 2147483647).fdiv 65521 + 7919)).fmod 1000003).fdiv 7).fmod many) ((seed * 48271 + 12820163 + (mny + 1)).fmod 2147483647) := by
  have a := fmod_lt (a := seed * 48271 + 12820163 + (mny + 1)) (b := 2147483647) (by omega)
  generalize (seed * 48271 + 12820163 + (mny + 1)).fmod 2147483647 = s at a ⊢
  have b := fmod_lt (a := s) (b := 65521) (by omega)
  have c := fdiv_nn (a := s) (b := 65521) a.1 (by omega)
  have c' := fdiv_le (a := s) (b := 65521) a.1 (by omega)
  refine ⟨mulC_small (by omega) (by omega), divC_small (by omega) (by omega), mulC_small (by omega) (by omega), divC_small (by omega) (by omega), by omega, ?_⟩
  have d := fmod_lt (a := ((s.fmod 65521 + 1) * (s.fdiv 65521 + 7919)).fmod 1000003 |>.fdiv 7) (b := many) hm
  exact hP _ _ d.1 d.2 a.1 a.2
theorem pick_to {f : Fl} (hf : FlOk f) {many : Int} (h0 : 0 < many) (h1 : many.natAbs < 2 ^ 64) : (m_L_pick [.int many] f).To fun d f' => ∃ i, d = .int i ∧ 0 ≤ i ∧ i < many ∧ FlOk f' := by
  unfold m_L_pick
  rw [flow_to]
  obtain ⟨cells, place, held, seed, mny⟩ := f
  obtain ⟨a1, a2, a3, a4⟩ := hf
  simp only at a1 a2 a3 a4
  unfold b_L_pick
  simp only [startL, List.map_cons, List.map_nil, List.length_cons, List.length_nil, List.cons_append, List.nil_append, List.replicate]
  have tail : ∀ (cells : List Int) (place held seed mny : Int) (c : Option U), 0 ≤ held → 0 ≤ seed → seed < 2147483647 → 0 ≤ place →
      (held ≤ 0 ∧ mulC seed 48271 = true ∧ divC ((seed * 48271 + 12820163 + (mny + 1)).fmod 2147483647) 65521 = true ∧
    mulC (((seed * 48271 + 12820163 + (mny + 1)).fmod 2147483647).fmod 65521 + 1) (((seed * 48271 + 12820163 + (mny + 1)).fmod 2147483647).fdiv 65521 + 7919) = true ∧
    divC (((((seed * 48271 + 12820163 + (mny + 1)).fmod 2147483647).fmod 65521 + 1) * (((seed * 48271 + 12820163 + (mny + 1)).fmod 2147483647).fdiv 65521 + 7919)).fmod 1000003) 7 = true ∧ ¬many = 0 ∧
      0 ≤ (((((((seed * 48271 + 12820163 + (mny + 1)).fmod 2147483647).fmod 65521 + 1) * (((seed * 48271 + 12820163 + (mny + 1)).fmod 2147483647).fdiv 65521 + 7919)).fmod 1000003).fdiv 7).fmod many) ∧
      (((((((seed * 48271 + 12820163 + (mny + 1)).fmod 2147483647).fmod 65521 + 1) * (((seed * 48271 + 12820163 + (mny + 1)).fmod 2147483647).fdiv 65521 + 7919)).fmod 1000003).fdiv 7).fmod many) < many ∧
      FlOk { cells := cells, place := place, held := held, seed := (seed * 48271 + 12820163 + (mny + 1)).fmod 2147483647, many := mny + 1 }) ∨
      0 < held ∧ ¬many = 0 ∧ divC held many = true ∧ 0 ≤ held.fmod many ∧ held.fmod many < many ∧ FlOk { cells := cells, place := place, held := held.fdiv many, seed := seed, many := mny } := by
    intro cells place held seed mny c b1 b2 b3 b4
    by_cases hh : held ≤ 0
    · exact .inl ⟨hh, pick_A (P := fun i s => 0 ≤ i ∧ i < many ∧ FlOk ⟨cells, place, held, s, mny + 1⟩) b2 b3 h0 fun i s c1 c2 c3 c4 => ⟨c1, c2, b1, c3, c4, b4⟩⟩
    · have d := fmod_lt (a := held) h0
      exact .inr ⟨by omega, by omega, divC_of (b := 64) (by omega) h1 (by omega) (by omega), d.1, d.2, fdiv_nn b1 h0, b2, b3, b4⟩
  by_cases hh : held = 0
  · subst hh
    by_cases hp : place < cells.length
    · obtain ⟨n, rfl⟩ := Int.eq_ofNat_of_zero_le a4
      have hn : n < cells.length := by omega
      have hq : ¬ cells.length ≤ n := by omega
      have e1 : idxN cells.length ((n : Nat) : Int) = some n := idxN_nat hn
      have e2 : cells[n]? = some cells[n] := List.getElem?_eq_getElem hn
      by_cases hx : cells[n] < 1000000000000000000
      · have z := tail cells ((n : Int) + 1) 0 ((seed * 40013 + cells[n].fmod 1000003 + 1).fmod 2147483647) mny none a1 (fmod_lt (by omega)).1 (fmod_lt (by omega)).2 (by omega)
        have y := mulC_small (i := seed) (j := 40013) (by omega) (by omega)
        have hx1 : ¬ 1000000000000000000 ≤ cells[n] := by omega
        simp [hn, hq, e1, e2, hx, hx1, y] at z ⊢
        exact z
      · have hx' : ¬ cells[n] < 1000000000000000000 := hx
        have z := tail cells ((n : Int) + 1) cells[n] seed mny none (by omega) a2 a3 (by omega)
        have hx2 : 1000000000000000000 ≤ cells[n] := by omega
        have hx3 : 0 < cells[n] := by omega
        have hx4 : ¬ cells[n] ≤ 0 := by omega
        simp [hn, hq, e1, e2, hx, hx2, hx3, hx4] at z ⊢
        exact z
    · have hp' : (cells.length : Int) ≤ place := by omega
      have z := tail cells place 0 seed mny none a1 a2 a3 a4
      simp [hp, hp'] at z ⊢
      exact z
  · have z := tail cells place held seed mny none a1 a2 a3 a4
    simp [hh] at z ⊢
    exact z
end NW
namespace NW
open PySem PySem.Spec PyProof.Rows L2
theorem gcd_step (a b : Int) : Int.gcd b (a.fmod b) = Int.gcd a b := by
  rw [Int.fmod_def a b, Int.gcd_sub_mul_left_right, Int.gcd_comm]
theorem fmod_natAbs {a b : Int} (h : b ≠ 0) : (a.fmod b).natAbs < b.natAbs := by
  by_cases hb : 0 < b
  · have := fmod_lt (a := a) hb
    omega
  · have h1 : a.fmod b = -((-a).fmod (-b)) := by
      rw [Int.fmod_def, Int.fmod_def, Int.neg_fdiv_neg]
      rw [Int.neg_mul, Int.sub_eq_add_neg, Int.sub_eq_add_neg, Int.neg_add]
      simp
    have := fmod_lt (a := -a) (b := -b) (by omega)
    omega
theorem common_part_to {a b : Int} {P : PyData → Prop} (h : P (.int (Int.gcd a b : Nat))) : (m_common_part [.int a, .int b]).To P := by
  unfold m_common_part
  rw [pure_to]
  unfold b_common_part
  simp only [startL, List.map_cons, List.map_nil, List.length_cons, List.length_nil, List.cons_append, List.nil_append, List.replicate, to_sSeq]
  refine while_to (I := fun n l s => ∃ x y : Int, l = [some (.d (.int x)), some (.d (.int y))] ∧ s = ⟨none, []⟩ ∧ Int.gcd x y = Int.gcd a b ∧ y.natAbs = n) ?_ b.natAbs _ _ ⟨a, b, rfl, rfl, rfl, rfl⟩
  rintro n l s ⟨x, y, rfl, rfl, hg, rfl⟩
  by_cases hy : y = 0
  · subst hy
    rw [Int.gcd_zero_right] at hg
    have e : (if x < 0 then -x else x) = ((Int.gcd a b : Nat) : Int) := by rw [← hg]; split <;> omega
    simp [e]; exact h
  · simp [hy]
    exact ⟨_, fmod_natAbs hy, _, _, ⟨rfl, rfl⟩, (gcd_step x y).trans hg, rfl⟩
def fracD (q : Rat) : PyData := .tuple [.int q.num, .int q.den]
@[simp] theorem idx_0 {n : Nat} : idxN (n + 1) 0 = some 0 := by unfold idxN; simp
@[simp] theorem idx_1 {n : Nat} : idxN (n + 2) 1 = some 1 := by
  unfold idxN
  rw [if_pos (by decide), if_pos (by omega)]; rfl
theorem frac_parts {t b g : Int} (hb : b ≠ 0) (hg : g = ((Int.gcd t b : Nat) : Int)) : (0 < b → t.fdiv g = (Rat.divInt t b).num ∧ b.fdiv g = ((Rat.divInt t b).den : Int)) ∧ (b < 0 → t.fdiv (0 - g) = (Rat.divInt t b).num ∧ b.fdiv (0 - g) = ((Rat.divInt t b).den : Int)) := by
  have hgt : g ∣ t := by rw [hg]; exact Int.gcd_dvd_left t b
  have hgb : g ∣ b := by rw [hg]; exact Int.gcd_dvd_right t b
  have e1 := Rat.num_divInt t b
  have e2 := Rat.den_divInt t b
  rw [if_neg hb, Int.gcd_comm b t] at e2
  rw [Int.gcd_comm b t, ← hg] at e1
  refine ⟨fun h => ⟨?_, ?_⟩, fun h => ⟨?_, ?_⟩⟩
  · rw [Int.fdiv_eq_ediv_of_dvd hgt, e1, Int.sign_eq_one_of_pos h, Int.one_mul]
  · rw [Int.fdiv_eq_ediv_of_dvd hgb, e2, Int.natCast_ediv, ← hg]
    congr 1
    omega
  · rw [Int.zero_sub, Int.fdiv_eq_ediv_of_dvd ((Int.neg_dvd).mpr hgt), e1, Int.sign_eq_neg_one_of_neg h, Int.ediv_neg, Int.neg_mul, Int.one_mul, Int.neg_ediv_of_dvd hgt]
  · rw [Int.zero_sub, Int.fdiv_eq_ediv_of_dvd ((Int.neg_dvd).mpr hgb), e2, Int.ediv_neg, Int.natCast_ediv, ← hg, ← Int.neg_ediv_of_dvd hgb]
    congr 1
    omega
theorem gcd_lt {t b : Int} {n : Nat} (hb : b ≠ 0) (h : b.natAbs < 2 ^ n) : Int.gcd t b ≠ 0 ∧ Int.gcd t b < 2 ^ n := by
  have h1 : Int.gcd t b ∣ b.natAbs := Int.gcd_dvd_natAbs_right t b
  have h2 : 0 < b.natAbs := by omega
  have h3 := Nat.le_of_dvd h2 h1
  refine ⟨fun e => ?_, by omega⟩
  rw [e] at h1
  have := Nat.eq_zero_of_zero_dvd h1
  omega
theorem fraction_toU {t b : Int} {P : PyData → Prop} (hb : b ≠ 0) (h : P (fracD (Rat.divInt t b))) : (m_fraction [.int t, .int b]).To P := by
  unfold m_fraction
  rw [pure_to]
  unfold b_fraction
  obtain ⟨g0, _⟩ := gcd_lt (t := t) (n := b.natAbs) hb Nat.lt_two_pow_self
  have hp := frac_parts (t := t) hb rfl
  simp [startL]
  refine common_part_to ?_
  generalize hg : ((Int.gcd t b : Nat) : Int) = g at hp ⊢
  have c0 : g ≠ 0 := by omega
  by_cases h0 : b < 0
  · have d1 : divC t (0 - g) = true := divU (by omega)
    have d2 : divC b (0 - g) = true := divU (by omega)
    obtain ⟨e1, e2⟩ := hp.2 h0
    have h0' : ¬ 0 ≤ b := by omega
    simp only [Int.zero_sub] at d1 d2 e1 e2
    simp [h0, h0', d1, d2, e1, e2]
    exact h
  · have d1 : divC t g = true := divU (by omega)
    have d2 : divC b g = true := divU (by omega)
    obtain ⟨e1, e2⟩ := hp.1 (by omega)
    have h0' : 0 ≤ b := by omega
    simp [h0, h0', d1, d2, e1, e2]
    exact h
theorem fraction_to {t b : Int} {P : PyData → Prop} {q9 : Prop} (hb : b ≠ 0) (_ : q9) (h : P (fracD (Rat.divInt t b))) : (m_fraction [.int t, .int b]).To P := fraction_toU hb h
end NW
namespace NW
open PySem PySem.Spec PyProof.Rows L2
theorem L_common_eq : m_L_common = m_common_part := by unfold m_L_common m_common_part; rfl
theorem common_to {a b : Int} {P : PyData → Prop} (h : P (.int (Int.gcd a b : Nat))) : (m_L_common [.int a, .int b]).To P := by rw [L_common_eq]; exact common_part_to h
theorem rangeD_cons {s e : Int} {n : Nat} : rangeD s e (n + 1) = .int s :: rangeD (s + e) e n := by
  unfold rangeD
  rw [List.range_succ_eq_map, List.map_cons, List.map_map]
  refine congr (congrArg _ (by simp)) ?_
  refine List.map_congr_left fun i _ => ?_
  simp [Int.add_mul]
  omega
end NW
namespace NW
open PySem PySem.Spec PyProof.Rows L2
theorem num_le (t b : Int) (hb : b ≠ 0) : (Rat.divInt t b).num.natAbs ≤ t.natAbs := by
  rw [Rat.num_divInt]
  refine Nat.le_trans (Int.natAbs_ediv_le_natAbs _ _) ?_
  rw [Int.natAbs_mul, Int.natAbs_sign_of_ne_zero hb, Nat.one_mul]
  exact Nat.le_refl _
theorem den_le (t b : Int) (hb : b ≠ 0) : (Rat.divInt t b).den ≤ b.natAbs := by
  rw [Rat.den_divInt, if_neg hb]
  exact Nat.div_le_self _ _
theorem lc_map {its : List PyData} {vs : List Nat} {t : MT} {c : MB} {m : ME} {l : Loc} {st : Sto} {g : PyData → PyData} {P : List PyData → Sto → Prop} {xs : List PyData}
    (h : ∀ x, x ∈ xs → (t (.d x) (wipeL l vs) st).To fun l1 s => (c l1 s).To fun b s => b = true ∧ (m l1 s).To fun u s => u = .d (g x) ∧ s = st) (fin : P (xs.map g) st) : (lcM ⟨its, []⟩ vs t c m l xs st).To P := by
  refine (lc_to (I := fun ys acc s => s = st ∧ ∃ zs, xs = zs ++ ys ∧ acc = zs.map g) (P := fun ys s => ys = xs.map g ∧ s = st) (fun _ _ _ _ => chk_nil) ?_ ?_ xs [] st ⟨rfl, [], rfl, rfl⟩).mono ?_
  · rintro x ys acc s ⟨rfl, zs, rfl, rfl⟩
    refine (h x (by simp)).mono ?_
    rintro l1 s1 h1
    refine h1.mono ?_
    rintro b s2 ⟨rfl, h2⟩
    rw [if_pos rfl]
    refine h2.mono ?_
    rintro u s3 ⟨rfl, rfl⟩
    exact ⟨_, rfl, rfl, zs ++ [x], by simp, by simp⟩
  · rintro acc s ⟨rfl, zs, rfl, rfl⟩
    simp
  · rintro ys s ⟨rfl, rfl⟩
    exact fin
theorem cAll_yes {st : Sto} {Q : U → Sto → Prop} {xs : List PyData} (h : Q (.d (.bool true)) st) : (cAll [.d (.list (xs.map fun _ => .bool true))] st).To Q := by
  have e : (xs.map fun _ => PyData.bool true) = (xs.map fun _ => true).map .bool := by rw [List.map_map]; rfl
  rw [e, to_cAll]
  have : (xs.map fun _ => true).all id = true := by simp
  rw [this]; exact h
@[simp] theorem ty_int : tyOk "int" = true := rfl
@[simp] theorem ty_bool : tyOk "bool" = true := rfl
@[simp] theorem ty_str : tyOk "str" = true := rfl
@[simp] theorem ty_list : tyOk "list" = true := rfl
@[simp] theorem ty_tuple : tyOk "tuple" = true := rfl
@[simp] theorem isi_int_int {i : Int} : isiT (.int i) "int" = true := rfl
@[simp] theorem isi_int_bool {i : Int} : isiT (.int i) "bool" = false := rfl
@[simp] theorem isi_int_str {i : Int} : isiT (.int i) "str" = false := rfl
@[simp] theorem isi_int_list {i : Int} : isiT (.int i) "list" = false := rfl
@[simp] theorem isi_int_tuple {i : Int} : isiT (.int i) "tuple" = false := rfl
@[simp] theorem isi_int_dict {i : Int} : isiT (.int i) "dict" = false := rfl
@[simp] theorem isi_bool_int {i : Bool} : isiT (.bool i) "int" = true := rfl
@[simp] theorem isi_bool_bool {i : Bool} : isiT (.bool i) "bool" = true := rfl
@[simp] theorem isi_bool_str {i : Bool} : isiT (.bool i) "str" = false := rfl
@[simp] theorem isi_bool_list {i : Bool} : isiT (.bool i) "list" = false := rfl
@[simp] theorem isi_bool_tuple {i : Bool} : isiT (.bool i) "tuple" = false := rfl
@[simp] theorem isi_bool_dict {i : Bool} : isiT (.bool i) "dict" = false := rfl
@[simp] theorem isi_list_int {i : List PyData} : isiT (.list i) "int" = false := rfl
@[simp] theorem isi_list_bool {i : List PyData} : isiT (.list i) "bool" = false := rfl
@[simp] theorem isi_list_str {i : List PyData} : isiT (.list i) "str" = false := rfl
@[simp] theorem isi_list_list {i : List PyData} : isiT (.list i) "list" = true := rfl
@[simp] theorem isi_list_tuple {i : List PyData} : isiT (.list i) "tuple" = false := rfl
@[simp] theorem isi_list_dict {i : List PyData} : isiT (.list i) "dict" = false := rfl
@[simp] theorem isi_tuple_int {i : List PyData} : isiT (.tuple i) "int" = false := rfl
@[simp] theorem isi_tuple_bool {i : List PyData} : isiT (.tuple i) "bool" = false := rfl
@[simp] theorem isi_tuple_str {i : List PyData} : isiT (.tuple i) "str" = false := rfl
@[simp] theorem isi_tuple_list {i : List PyData} : isiT (.tuple i) "list" = false := rfl
@[simp] theorem isi_tuple_tuple {i : List PyData} : isiT (.tuple i) "tuple" = true := rfl
@[simp] theorem isi_tuple_dict {i : List PyData} : isiT (.tuple i) "dict" = false := rfl
@[simp] theorem isi_none_int  : isiT .none "int" = false := rfl
@[simp] theorem isi_none_bool  : isiT .none "bool" = false := rfl
@[simp] theorem isi_none_str  : isiT .none "str" = false := rfl
@[simp] theorem isi_none_list  : isiT .none "list" = false := rfl
@[simp] theorem isi_none_tuple  : isiT .none "tuple" = false := rfl
@[simp] theorem isi_none_dict  : isiT .none "dict" = false := rfl
@[simp] theorem isi_str_int {i : Str} : isiT (.str i) "int" = false := rfl
@[simp] theorem isi_str_bool {i : Str} : isiT (.str i) "bool" = false := rfl
@[simp] theorem isi_str_str {i : Str} : isiT (.str i) "str" = true := rfl
@[simp] theorem isi_str_list {i : Str} : isiT (.str i) "list" = false := rfl
@[simp] theorem isi_str_tuple {i : Str} : isiT (.str i) "tuple" = false := rfl
@[simp] theorem isi_str_dict {i : Str} : isiT (.str i) "dict" = false := rfl
end NW
namespace NW
open PySem PySem.Spec PyProof.Rows L2
@[simp] theorem shaped_frac {q : Rat} : SeqAt.shaped (fracD q) = true := by
  simp [fracD, SeqAt.shaped, PyData.canLay0, PyData.canLayAll0, PyData.depth, PyData.depthAll]
@[simp] theorem eqv_frac {p q : Rat} : PyData.eqv (fracD p) (fracD q) = decide (p = q) := by
  rw [Bool.eq_iff_iff]
  simp [fracD, PyData.eqv, PyData.eqvAll]
  constructor
  · rintro ⟨a, b⟩
    exact Rat.ext a (by omega)
  · rintro rfl; simp
theorem mul_lt {i j : Int} {a b c : Nat} (ha : i.natAbs < 2 ^ a) (hb : j.natAbs < 2 ^ b) (h : a + b ≤ c) : (i * j).natAbs < 2 ^ c := by
  rw [Int.natAbs_mul]
  refine Nat.lt_of_lt_of_le (Nat.mul_lt_mul'' ha hb) ?_
  rw [← Nat.pow_add]
  exact Nat.pow_le_pow_right (by omega) h
end NW
namespace NW
open PySem PySem.Spec PyProof.Rows L2
section
variable {l : Loc} {st : Sto} {Q : U → Sto → Prop}
@[simp] theorem to_isiT {m : ME} {Ts : List String} : (eIsiT m Ts l st).To Q ↔ (m l st).To fun u s => ∃ x, toTree s u = some x ∧ (Ts.all tyOk && decide (Ts.length ≤ 8)) = true ∧ Q (.d (.bool (Ts.any (isiT x)))) s := by
  unfold eIsiT
  rw [to_bind]
  cases m l st with
  | ok u s => simp only [to_ok]; cases toTree s u <;> simp
  | _ => exact Iff.rfl
end
def Lk : Nat → PyData → Prop
  | 0, _ => False
  | n + 1, .list xs => xs.length ≤ 16777216 ∧ ∀ x ∈ xs, Lk n x
  | n + 1, .tuple xs => xs.length ≤ 16777216 ∧ ∀ x ∈ xs, Lk n x
  | _ + 1, .dict _ => False
  | _ + 1, .str z => (PyData.str z).canLay0 = true
  | _ + 1, _ => True
theorem Lk.mono {n m : Nat} {d : PyData} (h : Lk n d) (k : n ≤ m) : Lk m d := by
  induction n generalizing m d with
  | zero => exact h.elim
  | succ n ih =>
    obtain ⟨m, rfl⟩ : ∃ j, m = j + 1 := ⟨m - 1, by omega⟩
    cases d with
    | list xs => exact ⟨h.1, fun x hx => ih (h.2 x hx) (by omega)⟩
    | tuple xs => exact ⟨h.1, fun x hx => ih (h.2 x hx) (by omega)⟩
    | _ => exact h
@[simp] theorem range_len {a b : Int} {n : Nat} : (rangeD a b n).length = n := by simp [rangeD]
theorem lk_frac {n : Nat} {q : Rat} : Lk (n + 2) (fracD q) := ⟨by simp, fun x hx => by
  simp at hx
  rcases hx with rfl | rfl <;> trivial⟩
end NW
namespace NW
open PySem PySem.Spec PyProof.Rows L2
theorem L_fraction_eq : m_L_fraction = m_fraction := by
  unfold m_L_fraction m_fraction b_L_fraction b_fraction
  rw [L_common_eq]
theorem L_fraction_to {t b : Int} {P : PyData → Prop} (hb : b ≠ 0) {q9 : Prop} (hn : q9) (h : P (fracD (Rat.divInt t b))) : (m_L_fraction [.int t, .int b]).To P := by rw [L_fraction_eq]; exact fraction_toU hb h
def FB (n : Nat) (q : Rat) : Prop := q.num.natAbs < 2 ^ n ∧ q.den < 2 ^ n
theorem FB.mono {n m : Nat} {q : Rat} (h : FB n q) (k : n ≤ m) : FB m q := ⟨Nat.lt_of_lt_of_le h.1 (Nat.pow_le_pow_right (by omega) k), Nat.lt_of_lt_of_le h.2 (Nat.pow_le_pow_right (by omega) k)⟩
theorem FB.of_divInt {n : Nat} {t b : Int} (hb : b ≠ 0) (h1 : t.natAbs < 2 ^ n) (h2 : b.natAbs < 2 ^ n) : FB n (Rat.divInt t b) :=
  ⟨Nat.lt_of_le_of_lt (num_le t b hb) h1, Nat.lt_of_le_of_lt (den_le t b hb) h2⟩
theorem mk_div (a : Int) (m n : Nat) : Rat.divInt a ((m : Int) * (n : Int)) = mkRat a (m * n) := by
  rw [← Int.natCast_mul]; rfl
theorem add_divInt (p q : Rat) : Rat.divInt (p.num * q.den + q.num * p.den) (p.den * q.den) = p + q := by
  rw [Rat.add_def', mk_div]
theorem sub_divInt (p q : Rat) : Rat.divInt (p.num * q.den - q.num * p.den) (p.den * q.den) = p - q := by
  rw [Rat.sub_def', mk_div]
theorem mul_divInt (p q : Rat) : Rat.divInt (p.num * q.num) (p.den * q.den) = p * q := by
  rw [Rat.mul_def', mk_div]
theorem div_divInt (p q : Rat) : Rat.divInt (p.num * q.den) (p.den * q.num) = p / q := by
  rw [Rat.div_def, Rat.inv_def]
  conv => rhs; rw [← Rat.num_divInt_den p]
  rw [Rat.divInt_mul_divInt]
theorem den_ne (q : Rat) : (q.den : Int) ≠ 0 := by have := q.den_pos; omega
theorem FB.m {n : Nat} {i j : Int} (h1 : i.natAbs < 2 ^ n) (h2 : j.natAbs < 2 ^ n) (h0 : 0 < n) (h : n ≤ 499000) : mulC i j = true := mulC_of h1 h2 h0 h0 (by omega)
theorem mx {a b : Nat} {i j : Int} (h1 : i.natAbs < 2 ^ a) (h2 : j.natAbs < 2 ^ b) (h : a + b ≤ 999990) : mulC i j = true := mulC_of (a := a + 1) (b := b + 1) (Nat.lt_of_lt_of_le h1 (Nat.pow_le_pow_right (by omega) (by omega))) (Nat.lt_of_lt_of_le h2 (Nat.pow_le_pow_right (by omega) (by omega))) (by omega) (by omega) (by omega)
section
variable {p q : Rat} {n a' b' : Nat} {P : PyData → Prop}
theorem addedx (hp : FB a' p) (hq : FB b' q) (h : a' + b' ≤ 999990) (k : P (fracD (p + q))) : (m_added [fracD p, fracD q]).To P := by
  obtain ⟨a, b⟩ := hp
  obtain ⟨c, d⟩ := hq
  have e1 : mulC p.num q.den = true := mx a d h
  have e2 : mulC q.num p.den = true := mx c b (by omega)
  have e3 : mulC p.den q.den = true := mx b d h
  unfold m_added
  rw [pure_to]
  unfold b_added
  simp [startL, fracD, e1, e2, e3]
  refine fraction_toU (Int.mul_ne_zero (den_ne p) (den_ne q)) ?_
  rw [add_divInt]; exact k
theorem takenx (hp : FB a' p) (hq : FB b' q) (h : a' + b' ≤ 999990) (k : P (fracD (p - q))) : (m_taken [fracD p, fracD q]).To P := by
  obtain ⟨a, b⟩ := hp
  obtain ⟨c, d⟩ := hq
  have e1 : mulC p.num q.den = true := mx a d h
  have e2 : mulC q.num p.den = true := mx c b (by omega)
  have e3 : mulC p.den q.den = true := mx b d h
  unfold m_taken
  rw [pure_to]
  unfold b_taken
  simp [startL, fracD, e1, e2, e3]
  refine fraction_toU (Int.mul_ne_zero (den_ne p) (den_ne q)) ?_
  rw [sub_divInt]; exact k
theorem multipliedx (hp : FB a' p) (hq : FB b' q) (h : a' + b' ≤ 999990) (k : P (fracD (p * q))) : (m_multiplied [fracD p, fracD q]).To P := by
  obtain ⟨a, b⟩ := hp
  obtain ⟨c, d⟩ := hq
  have e1 : mulC p.num q.num = true := mx a c h
  have e3 : mulC p.den q.den = true := mx b d h
  unfold m_multiplied
  rw [pure_to]
  unfold b_multiplied
  simp [startL, fracD, e1, e3]
  refine fraction_toU (Int.mul_ne_zero (den_ne p) (den_ne q)) ?_
  rw [mul_divInt]; exact k
theorem dividedx (hp : FB a' p) (hq : FB b' q) (hz : q ≠ 0) (h : a' + b' ≤ 999990) (k : P (fracD (p / q))) : (m_divided [fracD p, fracD q]).To P := by
  obtain ⟨a, b⟩ := hp
  obtain ⟨c, d⟩ := hq
  have e1 : mulC p.num q.den = true := mx a d h
  have e3 : mulC p.den q.num = true := mx b c h
  have hz' : q.num ≠ 0 := fun e => hz (Rat.num_eq_zero.mp e)
  unfold m_divided
  rw [pure_to]
  unfold b_divided
  simp [startL, fracD, e1, e3]
  refine fraction_toU (Int.mul_ne_zero (den_ne p) hz') ?_
  rw [div_divInt]; exact k
end
theorem FB.add {p q : Rat} {n : Nat} (hp : FB n p) (hq : FB n q) : FB (2 * n + 1) (p + q) := by
  rw [← add_divInt]
  refine FB.of_divInt (Int.mul_ne_zero (den_ne p) (den_ne q)) ?_ (mul_lt hp.2 hq.2 (by omega))
  have e1 : (p.num * q.den).natAbs < 2 ^ (2 * n) := mul_lt hp.1 hq.2 (by omega)
  have e2 : (q.num * p.den).natAbs < 2 ^ (2 * n) := mul_lt hq.1 hp.2 (by omega)
  have : 2 ^ (2 * n + 1) = 2 * 2 ^ (2 * n) := by rw [Nat.pow_succ, Nat.mul_comm]
  omega
theorem FB.sub {p q : Rat} {n : Nat} (hp : FB n p) (hq : FB n q) : FB (2 * n + 1) (p - q) := by
  rw [← sub_divInt]
  refine FB.of_divInt (Int.mul_ne_zero (den_ne p) (den_ne q)) ?_ (mul_lt hp.2 hq.2 (by omega))
  have e1 : (p.num * q.den).natAbs < 2 ^ (2 * n) := mul_lt hp.1 hq.2 (by omega)
  have e2 : (q.num * p.den).natAbs < 2 ^ (2 * n) := mul_lt hq.1 hp.2 (by omega)
  have : 2 ^ (2 * n + 1) = 2 * 2 ^ (2 * n) := by rw [Nat.pow_succ, Nat.mul_comm]
  omega
theorem FB.mul {p q : Rat} {n : Nat} (hp : FB n p) (hq : FB n q) : FB (2 * n) (p * q) := by
  rw [← mul_divInt]
  exact FB.of_divInt (Int.mul_ne_zero (den_ne p) (den_ne q)) (mul_lt hp.1 hq.1 (by omega)) (mul_lt hp.2 hq.2 (by omega))
theorem FB.div {p q : Rat} {n : Nat} (hp : FB n p) (hq : FB n q) (hz : q ≠ 0) : FB (2 * n) (p / q) := by
  have hz' : q.num ≠ 0 := fun e => hz (Rat.num_eq_zero.mp e)
  rw [← div_divInt]
  exact FB.of_divInt (Int.mul_ne_zero (den_ne p) hz') (mul_lt hp.1 hq.2 (by omega)) (mul_lt hp.2 hq.1 (by omega))
theorem FB.neg {p : Rat} {n : Nat} (hp : FB n p) : FB n (-p) := by
  unfold FB; rw [Rat.neg_num, Rat.neg_den, Int.natAbs_neg]; exact hp
theorem FB.zero {n : Nat} (h : 0 < n) : FB n 0 := ⟨Nat.two_pow_pos n, by have : 2 ≤ 2 ^ n := Nat.le_self_pow (by omega) 2; show 1 < 2 ^ n; omega⟩
theorem FB.one {n : Nat} (h : 0 < n) : FB n 1 := ⟨by have : 2 ≤ 2 ^ n := Nat.le_self_pow (by omega) 2; show 1 < 2 ^ n; omega, by have : 2 ≤ 2 ^ n := Nat.le_self_pow (by omega) 2; show 1 < 2 ^ n; omega⟩
end NW
namespace NW
open PySem PySem.Spec PyProof.Rows L2
section
variable {st : Sto} {Q : U → Sto → Prop} {q : Rat}
@[simp] theorem to_ixF0 : (fIx (.d (fracD q)) (.d (.int 0)) st).To Q ↔ Q (.d (.int q.num)) st := Iff.rfl
@[simp] theorem to_ixF1 : (fIx (.d (fracD q)) (.d (.int 1)) st).To Q ↔ Q (.d (.int q.den)) st := Iff.rfl
end
end NW
namespace NW
open PySem PySem.Spec PyProof.Rows L2
theorem lc_draw {its : List PyData} {vs : List Nat} {t : MT} {c : MB} {m : ME} {l : NW.Loc} {o : List Ob} {p : PyData → Prop} {P : List PyData → Sto → Prop} {xs : List PyData} {g : Fl}
    (h : ∀ x, x ∈ xs → ∀ g, FlOk g → (t (.d x) (wipeL l vs) ⟨some g, o⟩).To fun l1 s => (c l1 s).To fun b s => b = true ∧ (m l1 s).To fun u s => ∃ y, u = .d y ∧ ∃ g', s = ⟨some g', o⟩ ∧ FlOk g' ∧ p y) (hg : FlOk g)
    (fin : ∀ ys g', ys.length = xs.length → (∀ y, y ∈ ys → p y) → FlOk g' → P ys ⟨some g', o⟩) : (lcM ⟨its, []⟩ vs t c m l xs ⟨some g, o⟩).To P := by
  refine (lc_to (I := fun ys acc s => ∃ g, s = ⟨some g, o⟩ ∧ FlOk g ∧ (∃ zs, xs = zs ++ ys ∧ acc.length = zs.length) ∧ ∀ y, y ∈ acc → p y) (P := fun ys s => ∃ g, s = ⟨some g, o⟩ ∧ FlOk g ∧ ys.length = xs.length ∧ ∀ y, y ∈ ys → p y) (fun _ _ _ _ => chk_nil) ?_ ?_ xs [] _ ⟨g, rfl, hg, ⟨[], rfl, rfl⟩, by simp⟩).mono ?_
  · rintro x ys acc s ⟨g, rfl, og, ⟨zs, rfl, hz⟩, hp⟩
    refine (h x (by simp) g og).mono ?_
    rintro l1 s1 h1
    refine h1.mono ?_
    rintro b s2 ⟨rfl, h2⟩
    rw [if_pos rfl]
    refine h2.mono ?_
    rintro u s3 ⟨y, rfl, g', rfl, og', py⟩
    refine ⟨_, rfl, g', rfl, og', ⟨zs ++ [x], by simp, by simp [hz]⟩, fun w hw => ?_⟩
    rcases List.mem_append.mp hw with hw | hw
    · exact hp w hw
    · have : w = y := by simpa using hw
      subst this; exact py
  · rintro acc s ⟨g, rfl, og, ⟨zs, rfl, hz⟩, hp⟩
    exact ⟨g, rfl, og, by simp [hz], hp⟩
  · rintro ys s ⟨g, rfl, og, hl, hp⟩
    exact fin ys g hl hp og
end NW
namespace NW
def gs (g : Nat) : List Int → Nat
  | [] => g
  | t :: ts => gs (Int.gcd g t) ts
theorem gs_dvd {d : Nat} : ∀ {ts : List Int} {g : Nat}, d ∣ gs g ts ↔ d ∣ g ∧ ∀ t, t ∈ ts → (d : Int) ∣ t
  | [], g => by simp [gs]
  | t :: ts, g => by
    rw [gs, gs_dvd, Int.gcd]
    rw [Nat.dvd_gcd_iff]
    simp only [List.mem_cons, forall_eq_or_imp, Int.natAbs_natCast]
    rw [and_assoc, ← Int.ofNat_dvd_left]
theorem gs_mul {c : Nat} : ∀ {ts : List Int} {g : Nat}, gs (c * g) (ts.map fun t => (c : Int) * t) = c * gs g ts
  | [], g => rfl
  | t :: ts, g => by
    rw [List.map_cons, gs, gs]
    have : Int.gcd ((c * g : Nat) : Int) ((c : Int) * t) = c * Int.gcd g t := by
      rw [Int.natCast_mul, Int.gcd_mul_left, Int.natAbs_natCast]
    rw [this]; exact gs_mul
theorem gs_pos {ts : List Int} {g : Nat} (h : 0 < g) : 0 < gs g ts := by
  have := (gs_dvd (d := gs g ts)).mp (Nat.dvd_refl _)
  rcases Nat.eq_zero_or_pos (gs g ts) with e | e
  · rw [e] at this
    have := Nat.eq_zero_of_zero_dvd this.1
    omega
  · exact e
def Tr : List Int → Prop
  | [] => True
  | [t] => t ≠ 0
  | _ :: t :: ts => Tr (t :: ts)
theorem Tr.tail {t : Int} {ts : List Int} (h : Tr (t :: ts)) : Tr ts := by
  cases ts with
  | nil => trivial
  | cons u us => exact h
theorem tr_get {ts : List Int} (h : Tr ts) (hn : ts ≠ []) : ts.getD (ts.length - 1) 0 ≠ 0 := by
  induction ts with
  | nil => exact absurd rfl hn
  | cons t ts ih =>
    cases ts with
    | nil => simpa [Tr] using h
    | cons u us =>
      have := ih h (by simp)
      simpa using this
theorem tr_of {ts : List Int} (h : ts ≠ [] → ts.getD (ts.length - 1) 0 ≠ 0) : Tr ts := by
  induction ts with
  | nil => trivial
  | cons t ts ih =>
    cases ts with
    | nil => simpa [Tr] using h
    | cons u us => exact ih fun _ => by simpa using h (by simp)
theorem tr_ext {ts us : List Int} (h : Tr ts) (h' : Tr us) (e : ∀ k, ts.getD k 0 = us.getD k 0) : ts = us := by
  have len : ∀ {ts us : List Int}, Tr ts → (∀ k, ts.getD k 0 = us.getD k 0) → ts.length ≤ us.length := by
    intro ts us h e
    cases ts with
    | nil => simp
    | cons t ts =>
      have h1 := tr_get h (by simp)
      rw [e] at h1
      by_cases hl : (t :: ts).length ≤ us.length
      · exact hl
      · rw [List.getD_eq_getElem?_getD, List.getElem?_eq_none (by simp at hl ⊢; omega)] at h1
        simp at h1
  have l : ts.length = us.length := Nat.le_antisymm (len h e) (len h' fun k => (e k).symm)
  refine List.ext_getElem l fun i h1 h2 => ?_
  have := e i
  simpa [List.getD_eq_getElem?_getD, h1, h2] using this
structure Pol where
  ts : List Int
  b : Nat
  hb : 0 < b
  ht : Tr ts
  hg : gs b ts = 1
def Pol.co (p : Pol) (k : Nat) : Rat := Rat.divInt (p.ts.getD k 0) p.b
theorem Pol.ext_co {p q : Pol} (h : ∀ k, p.co k = q.co k) : p = q := by
  have hp := p.hb
  have hq := q.hb
  have key : ∀ k, (q.b : Int) * p.ts.getD k 0 = (p.b : Int) * q.ts.getD k 0 := fun k => by
    have := (Rat.divInt_eq_divInt_iff (by omega) (by omega)).mp (h k)
    rw [Int.mul_comm, this, Int.mul_comm]
  have dv : ∀ {p q : Pol}, (∀ k, (q.b : Int) * p.ts.getD k 0 = (p.b : Int) * q.ts.getD k 0) → p.b ∣ q.b := by
    intro p q key
    have e := gs_mul (c := q.b) (ts := p.ts) (g := p.b)
    rw [p.hg, Nat.mul_one] at e
    rw [← e]
    refine gs_dvd.mpr ⟨Nat.dvd_mul_left _ _, fun t ht => ?_⟩
    obtain ⟨u, hu, rfl⟩ := List.mem_map.mp ht
    obtain ⟨k, hk, rfl⟩ := List.getElem_of_mem hu
    have := key k
    rw [List.getD_eq_getElem?_getD, List.getElem?_eq_getElem hk] at this
    simp only [Option.getD_some] at this
    rw [this]
    exact Int.dvd_mul_right _ _
  have e : p.b = q.b := Nat.dvd_antisymm (dv key) (dv fun k => (key k).symm)
  have e2 : p.ts = q.ts := tr_ext p.ht q.ht fun k => by
    have := key k
    rw [e] at this
    exact Int.eq_of_mul_eq_mul_left (by omega) this
  cases p; cases q; cases e; cases e2; rfl
end NW
namespace NW
theorem getD_map {f : Int → Int} (h : f 0 = 0) (ts : List Int) (k : Nat) : (ts.map f).getD k 0 = f (ts.getD k 0) := by
  rw [List.getD_eq_getElem?_getD, List.getD_eq_getElem?_getD, List.getElem?_map]
  cases ts[k]? <;> simp [h]
theorem gs_mem {ts : List Int} {g : Nat} {k : Nat} : ((gs g ts : Nat) : Int) ∣ ts.getD k 0 := by
  rw [List.getD_eq_getElem?_getD]
  cases e : ts[k]? with
  | none => simp
  | some t => exact (gs_dvd.mp (Nat.dvd_refl _)).2 t (List.mem_of_getElem? e)
theorem gs_self {ts : List Int} {g : Nat} : gs g ts ∣ g := (gs_dvd.mp (Nat.dvd_refl _)).1
def mkT (ts : List Int) (h : Tr ts) (b : Nat) (hb : 0 < b) : Pol where
  ts := ts.map fun t => t / (gs b ts : Nat)
  b := b / gs b ts
  hb := Nat.div_pos (Nat.le_of_dvd hb gs_self) (gs_pos hb)
  ht := tr_of fun hn => by
    have hn' : ts ≠ [] := fun e => hn (by rw [e]; rfl)
    rw [List.length_map, getD_map (by simp)]
    intro e
    have z := tr_get h hn'
    have d := gs_mem (ts := ts) (g := b) (k := ts.length - 1)
    have c := Int.ediv_mul_cancel d
    rw [e, Int.zero_mul] at c
    exact z c.symm
  hg := by
    have hp := gs_pos (ts := ts) hb
    have e := gs_mul (c := gs b ts) (ts := ts.map fun t => t / (gs b ts : Nat)) (g := b / gs b ts)
    rw [Nat.mul_div_cancel' gs_self, List.map_map] at e
    have e2 : (ts.map ((fun t => ((gs b ts : Nat) : Int) * t) ∘ fun t => t / (gs b ts : Nat))) = ts := by
      conv => rhs; rw [← List.map_id ts]
      refine List.map_congr_left fun t ht => ?_
      exact Int.mul_ediv_cancel' ((gs_dvd.mp (Nat.dvd_refl _)).2 t ht)
    rw [e2] at e
    have : gs b ts * 1 = gs b ts * gs (b / gs b ts) (ts.map fun t => t / (gs b ts : Nat)) := by rw [Nat.mul_one]; exact e
    exact (Nat.eq_of_mul_eq_mul_left hp this).symm
theorem co_mkT {ts : List Int} {h : Tr ts} {b : Nat} {hb : 0 < b} {k : Nat} : (mkT ts h b hb).co k = Rat.divInt (ts.getD k 0) b := by
  have hp := gs_pos (ts := ts) hb
  unfold Pol.co mkT
  rw [getD_map (by simp)]
  show Rat.divInt (ts.getD k 0 / (gs b ts : Nat)) ((b / gs b ts : Nat) : Int) = _
  have e1 := Int.ediv_mul_cancel (gs_mem (ts := ts) (g := b) (k := k))
  have e2 := Nat.div_mul_cancel (gs_self (ts := ts) (g := b))
  have := Rat.divInt_mul_right (n := ts.getD k 0 / (gs b ts : Nat)) (d := ((b / gs b ts : Nat) : Int)) (a := ((gs b ts : Nat) : Int)) (by omega)
  rw [← this, e1, ← Int.natCast_mul, e2]
def tl : List Int → Nat
  | [] => 0
  | t :: ts => if tl ts = 0 then (if t = 0 then 0 else 1) else tl ts + 1
theorem tl_le : ∀ {ts : List Int}, tl ts ≤ ts.length
  | [] => by simp [tl]
  | t :: ts => by
    have := tl_le (ts := ts)
    rw [tl]; simp only [List.length_cons]
    split
    · split <;> omega
    · omega
theorem tl_get : ∀ {ts : List Int} {k : Nat}, (ts.take (tl ts)).getD k 0 = ts.getD k 0
  | [], k => by simp
  | t :: ts, 0 => by
    rw [tl]
    split
    · split
      · rename_i h; simp [h]
      · simp
    · simp
  | t :: ts, k + 1 => by
    have := tl_get (ts := ts) (k := k)
    rw [tl]
    split
    · rename_i h
      rw [h] at this
      split
      · simpa using this
      · simpa using this
    · simpa using this
theorem tl_tr : ∀ {ts : List Int}, Tr (ts.take (tl ts))
  | [] => trivial
  | t :: ts => by
    have := tl_tr (ts := ts)
    rw [tl]
    split
    · split
      · exact trivial
      · rename_i h; simpa [Tr] using h
    · rename_i h
      rw [List.take_succ_cons]
      cases e : ts.take (tl ts) with
      | nil =>
        have l := tl_le (ts := ts)
        have c : (ts.take (tl ts)).length = tl ts := by rw [List.length_take]; omega
        rw [e] at c
        exact absurd c.symm h
      | cons u us => rw [e] at this; exact this
def mk (ts : List Int) (b : Nat) : Pol := if h : 0 < b then mkT (ts.take (tl ts)) tl_tr b h else ⟨[], 1, by decide, trivial, rfl⟩
theorem co_mk {ts : List Int} {b : Nat} (h : 0 < b) (k : Nat) : (mk ts b).co k = Rat.divInt (ts.getD k 0) b := by
  unfold mk
  rw [dif_pos h, co_mkT, tl_get]
def evZ : List Int → Rat → Rat
  | [], _ => 0
  | t :: ts, x => t + x * evZ ts x
def evI : List Int → Int → Int
  | [], _ => 0
  | t :: ts, x => t + x * evI ts x
theorem evI_cast {n : Int} : ∀ {ts : List Int}, evZ ts (n : Rat) = ((evI ts n : Int) : Rat)
  | [] => by simp [evZ, evI]
  | t :: ts => by rw [evZ, evI, evI_cast, Rat.intCast_add, Rat.intCast_mul]
theorem evI_get : ∀ {ts us : List Int}, (∀ n : Int, 0 < n → evI ts n = evI us n) → ∀ k, ts.getD k 0 = us.getD k 0 := by
  have dvd : ∀ {t : Int} {f : Int → Int}, (∀ n : Int, 0 < n → t + n * f n = 0) → t = 0 ∧ ∀ n : Int, 0 < n → f n = 0 := by
    intro t f h
    have h0 : t = 0 := by
      have h1 := h (t.natAbs + 1) (by omega)
      have : ((t.natAbs : Int) + 1) ∣ t := ⟨-f (t.natAbs + 1), by rw [Int.mul_neg]; omega⟩
      have := Int.natAbs_dvd_natAbs.mpr this
      by_cases e : t = 0
      · exact e
      · have := Nat.le_of_dvd (by omega) this
        omega
    refine ⟨h0, fun n hn => ?_⟩
    have h1 := h n hn
    rw [h0, Int.zero_add] at h1
    rcases Int.mul_eq_zero.mp h1 with e | e
    · omega
    · exact e
  have zero : ∀ {ts : List Int}, (∀ n : Int, 0 < n → evI ts n = 0) → ∀ k, ts.getD k 0 = 0 := by
    intro ts
    induction ts with
    | nil => intro _ k; simp
    | cons t ts ih =>
      intro h k
      obtain ⟨a, b⟩ := dvd h
      cases k with
      | zero => simpa using a
      | succ k => simpa using ih b k
  intro ts
  induction ts with
  | nil =>
    intro us h k
    rw [zero (ts := us) fun n hn => (h n hn).symm]; simp
  | cons t ts ih =>
    intro us h k
    cases us with
    | nil => rw [zero h]; simp
    | cons u us =>
      have h' : ∀ n : Int, 0 < n → (t - u) + n * (evI ts n - evI us n) = 0 := fun n hn => by
        have := h n hn
        rw [evI, evI] at this
        rw [Int.mul_sub]; omega
      obtain ⟨a, b⟩ := dvd h'
      cases k with
      | zero => simp; omega
      | succ k => simpa using ih (fun n hn => by have := b n hn; omega) k
theorem evZ_get {x : Rat} : ∀ {ts us : List Int}, (∀ k, ts.getD k 0 = us.getD k 0) → evZ ts x = evZ us x := by
  have zero : ∀ {ts : List Int}, (∀ k, ts.getD k 0 = 0) → evZ ts x = 0 := by
    intro ts
    induction ts with
    | nil => intro _; rfl
    | cons t ts ih =>
      intro h
      have h0 := h 0
      rw [evZ, ih fun k => by simpa using h (k + 1)]
      simp at h0
      rw [h0]; grind
  intro ts
  induction ts with
  | nil => intro us h; rw [zero (ts := us) fun k => by rw [← h k]; simp]; rfl
  | cons t ts ih =>
    intro us h
    cases us with
    | nil => rw [zero (ts := t :: ts) fun k => by rw [h k]; simp]; rfl
    | cons u us =>
      have h0 := h 0
      simp at h0
      rw [evZ, evZ, h0, ih fun k => by simpa using h (k + 1)]
theorem evZ_mul {c : Int} {x : Rat} : ∀ {ts : List Int}, evZ (ts.map fun t => c * t) x = c * evZ ts x
  | [] => by simp [evZ]
  | t :: ts => by rw [List.map_cons, evZ, evZ, evZ_mul, Rat.intCast_mul]; grind
def Pol.ev (p : Pol) (x : Rat) : Rat := evZ p.ts x / (p.b : Int)
theorem Pol.ext_ev {p q : Pol} (h : ∀ x, p.ev x = q.ev x) : p = q := by
  have hp := p.hb
  have hq := q.hb
  have hp' : (((p.b : Int)) : Rat) ≠ 0 := by
    intro e; have := Rat.intCast_eq_zero_iff.mp e; omega
  have hq' : (((q.b : Int)) : Rat) ≠ 0 := by
    intro e; have := Rat.intCast_eq_zero_iff.mp e; omega
  refine Pol.ext_co fun k => ?_
  have key : ∀ n : Int, 0 < n → evI (p.ts.map fun t => (q.b : Int) * t) n = evI (q.ts.map fun t => (p.b : Int) * t) n := fun n _ => by
    refine Rat.intCast_inj.mp ?_
    rw [← evI_cast, ← evI_cast, evZ_mul, evZ_mul]
    have := h n
    unfold Pol.ev at this
    grind
  have := evI_get key k
  rw [getD_map (by simp), getD_map (by simp)] at this
  unfold Pol.co
  refine (Rat.divInt_eq_divInt_iff (by omega) (by omega)).mpr ?_
  rw [Int.mul_comm, this, Int.mul_comm]
theorem ev_mk {ts : List Int} {b : Nat} (h : 0 < b) (x : Rat) : (mk ts b).ev x = evZ ts x / (b : Int) := by
  have hm := (mk ts b).hb
  have h1 : (((b : Int)) : Rat) ≠ 0 := by
    intro e; have := Rat.intCast_eq_zero_iff.mp e; omega
  have h2 : ((((mk ts b).b : Int)) : Rat) ≠ 0 := by
    intro e; have := Rat.intCast_eq_zero_iff.mp e; omega
  have key : ∀ k, ((mk ts b).ts.map fun t => (b : Int) * t).getD k 0 = (ts.map fun t => ((mk ts b).b : Int) * t).getD k 0 := fun k => by
    rw [getD_map (by simp), getD_map (by simp)]
    have := co_mk (ts := ts) h k
    unfold Pol.co at this
    have := (Rat.divInt_eq_divInt_iff (by omega) (by omega)).mp this
    rw [Int.mul_comm, this, Int.mul_comm]
  have := evZ_get (x := x) key
  rw [evZ_mul, evZ_mul] at this
  unfold Pol.ev
  grind
end NW
namespace NW
open PySem PySem.Spec PyProof.Rows L2
def polyD (p : Pol) : PyData := .tuple [.tuple (p.ts.map .int), .int p.b]
theorem sIx_m {n d m : Nat} (h : m ≤ n) : HT.sIx n d (some (m : Int)) = m := by rw [HT.sIx_nat]; omega
theorem cutD_take {xs : List PyData} {m : Nat} (h : m ≤ xs.length) : cutD xs none (some (m : Int)) = xs.take m := by
  unfold cutD
  rw [sIx_m h, HT.sIx_none]; simp
def SeqD (S : PyData) (xs : List PyData) : Prop := S = .list xs ∨ S = .tuple xs
section
variable {S : PyData} {xs : List PyData} {st : Sto} {Q : U → Sto → Prop}
theorem SeqD.len (h : SeqD S xs) : (cLen [.d S] st).To Q ↔ Q (.d (.int xs.length)) st := by rcases h with rfl | rfl <;> exact Iff.rfl
theorem SeqD.ix (h : SeqD S xs) {i : Int} : (fIx (.d S) (.d (.int i)) st).To Q ↔ ∃ x, ((idxN xs.length i).bind fun j => xs[j]?) = some x ∧ Q (.d x) st := by rcases h with rfl | rfl <;> simp
theorem SeqD.ixn (h : SeqD S xs) {i : Nat} (hi : i < xs.length) : (fIx (.d S) (.d (.int i)) st).To Q ↔ Q (.d xs[i]) st := by
  rw [h.ix, idxN_nat hi]
  simp [hi]
theorem SeqD.sl (h : SeqD S xs) {a b : Option Int} : ∃ S', SeqD S' (cutD xs a b) ∧ ∀ (st : Sto) (Q : U → Sto → Prop), (fSl (.d S) a b st).To Q ↔ Q (.d S') st := by
  rcases h with rfl | rfl
  · exact ⟨_, .inl rfl, fun _ _ => Iff.rfl⟩
  · exact ⟨_, .inr rfl, fun _ _ => Iff.rfl⟩
theorem SeqD.src (h : SeqD S xs) : srcOf st (.d S) = some (xs, []) := by rcases h with rfl | rfl <;> rfl
end
@[simp] theorem to_tupL {st : Sto} {Q : U → Sto → Prop} {xs : List PyData} : (cTupOf [.d (.list xs)] st).To Q ↔ Q (.d (.tuple xs)) st := Iff.rfl
@[simp] theorem to_tupT {st : Sto} {Q : U → Sto → Prop} {xs : List PyData} : (cTupOf [.d (.tuple xs)] st).To Q ↔ Q (.d (.tuple xs)) st := Iff.rfl
theorem divC_nat {t : Int} {g : Nat} (h : 0 < g) {q9 : Prop} (hn : q9) : divC t g = true := divU (by omega)
theorem over_to {S : PyData} {ts : List Int} {b : Nat} {P : PyData → Prop} (hS : SeqD S (ts.map .int)) (hb : 0 < b) {q9 : Prop} (hn : q9) (hl : ts.length ≤ 16777216) (h : P (polyD (mk ts b))) : (m_over [S, .int b]).To P := by
  unfold m_over
  rw [pure_to]
  unfold b_over
  simp [startL, hS.len]
  refine while_to (I := fun n l s => s = ⟨none, []⟩ ∧ l = [some (.d S), some (.d (.int b)), some (.d (.int n)), none, none] ∧ n ≤ ts.length ∧ ∀ k, n ≤ k → ts.getD k 0 = 0) ?_ ts.length _ _ ⟨rfl, rfl, Nat.le_refl _, fun k hk => by simp [List.getD_eq_getElem?_getD, List.getElem?_eq_none hk]⟩
  rintro n l s ⟨rfl, rfl, h1, h2⟩
  have post : (n ≠ 0 → ts.getD (n - 1) 0 ≠ 0) → (sSeq (sAsg 3 (eVar 1))
      (sSeq (sFor (mAny (eSlAny (eVar 0) oNone (oSome (eVar 2)))) (gNameM 4) (sAsg 3 (eCallP 2 m_common_part (aCons (eVar 3) (aCons (eVar 4) aNil)))))
      (sRet (eTup (aCons (eCB cTupOf (aCons (eFrz (lLc (mAny (eSlAny (eVar 0) oNone (oSome (eVar 2)))) [4] (gNameM 4) bYes (eOp fDiv (eVar 4) (eVar 3)))) aNil)) (aCons (eOp fDiv (eVar 1) (eVar 3)) aNil))))) [some (.d S), some (.d (.int b)), some (.d (.int n)), none, none] ⟨none, []⟩).To (fun _ _ => P .none) (retP P) := by
    intro hz
    obtain ⟨S', hS', hsl⟩ := hS.sl (a := none) (b := some (n : Int))
    rw [cutD_take (by simpa using h1), ← List.map_take] at hS'
    have tr : Tr (ts.take n) := tr_of fun hne => by
      have hn0 : n ≠ 0 := fun e => by subst e; simp at hne
      have := hz hn0
      rw [List.length_take, Nat.min_eq_left h1]
      rw [List.getD_eq_getElem?_getD, List.getElem?_take_of_lt (by omega), ← List.getD_eq_getElem?_getD]
      exact this
    have eq : mkT (ts.take n) tr b hb = mk ts b := Pol.ext_co fun k => by
      rw [co_mkT, co_mk hb]
      congr 1
      by_cases hk : k < n
      · rw [List.getD_eq_getElem?_getD, List.getElem?_take_of_lt hk, ← List.getD_eq_getElem?_getD]
      · rw [h2 k (by omega), List.getD_eq_getElem?_getD, List.getElem?_eq_none (by simp; omega)]; rfl
    have hly : (ts.take n).length ≤ 16777216 := by simp; omega
    clear hz h2
    generalize ts.take n = ys at hS' tr eq hly
    have hgp := gs_pos (ts := ys) hb
    have hgl : gs b ys ≤ b := Nat.le_of_dvd hb gs_self
    simp [hsl, hS'.src]
    refine ⟨_, _, ⟨rfl, rfl⟩, ?_⟩
    refine for_to (I := fun zs l s => s = ⟨none, []⟩ ∧ ∃ (as bs : List Int) (v : Option U), ys = as ++ bs ∧ zs = bs.map .int ∧ l = [some (.d S), some (.d (.int b)), some (.d (.int n)), some (.d (.int (gs b as))), v]) (fun _ _ _ _ => chk_nil) ?_ ?_ _ _ _ ⟨rfl, [], ys, none, rfl, rfl, rfl⟩
    · rintro x zs l s ⟨rfl, as, bs, v, e1, e2, rfl⟩
      cases bs with
      | nil => cases e2
      | cons c bs =>
        cases e2
        simp
        refine common_part_to ?_
        refine ⟨as ++ [c], bs, by rw [e1]; simp, rfl, ?_⟩
        have : ∀ (as : List Int) (g : Nat), gs g (as ++ [c]) = Int.gcd (gs g as) c := by
          intro as
          induction as with
          | nil => intro g; rfl
          | cons a as ih => intro g; rw [List.cons_append, gs, gs, ih]
        rw [this]
    · rintro l s ⟨rfl, as, bs, v, e1, e2, rfl⟩
      have : bs = [] := by cases bs with | nil => rfl | cons c bs => cases e2
      subst this
      rw [List.append_nil] at e1
      subst e1
      have dv : ∀ t : Int, divC t (gs b ys) = true := fun t => divC_nat hgp trivial
      simp [hsl, hS'.src, dv]
      refine ⟨_, _, ⟨rfl, rfl⟩, by simpa using hly, ?_⟩
      refine lc_map (g := fun x => match x with | .int t => .int (t.fdiv (gs b ys)) | _ => .none) ?_ ?_
      · intro x hx
        obtain ⟨t, ht, rfl⟩ := List.mem_map.mp hx
        simp [wipeL, dv]
      · simp
        have e : polyD (mk ts b) = .tuple [.tuple (List.map ((fun x => match x with | PyData.int t => PyData.int (t.fdiv (gs b ys)) | _ => PyData.none) ∘ PyData.int) ys), .int ((b : Int).fdiv (gs b ys))] := by
          rw [← eq]
          unfold polyD mkT
          simp only [List.map_map]
          congr 3
          · refine List.map_congr_left fun t ht => ?_
            show PyData.int (t / (gs b ys : Nat)) = PyData.int (t.fdiv (gs b ys : Nat))
            rw [Int.fdiv_eq_ediv_of_nonneg _ (by omega)]
          · show PyData.int ((b / gs b ys : Nat) : Int) = PyData.int ((b : Int).fdiv (gs b ys : Nat))
            rw [Int.fdiv_eq_ediv_of_nonneg _ (by omega), Int.natCast_ediv]
        rw [e] at h
        exact h
  have gi : ∀ k (hk : k < ts.length), ts.getD k 0 = ts[k] := fun k hk => by simp [List.getD_eq_getElem?_getD, hk]
  by_cases hn0 : n = 0
  · subst hn0
    simp at post ⊢
    exact post
  · have hlt : n - 1 < ts.length := by omega
    have e1 : ((n : Int) - 1) = ((n - 1 : Nat) : Int) := by omega
    have e2 : (0 : Int) < n := by omega
    by_cases hz : ts.getD (n - 1) 0 = 0
    · have hz' := hz
      rw [gi _ hlt] at hz'
      simp [-List.getD_eq_getElem?_getD, hn0, e1, e2, hS.ixn, hlt, hz']
      clear hn
      refine ⟨by omega, n - 1, by omega, rfl, by omega, fun k hk => ?_⟩
      by_cases e : k = n - 1
      · subst e; exact hz
      · exact h2 k (by omega)
    · have hz' := hz
      rw [gi _ hlt] at hz'
      simp at post
      simp [hn0, e1, e2, hS.ixn, hlt, hz']
      exact ⟨by omega, post fun _ => by simpa using hz⟩
end NW
namespace NW
open PySem PySem.Spec PyProof.Rows L2
def lcms (b : Nat) : List Rat → Nat
  | [] => b
  | q :: qs => lcms (Nat.lcm b q.den) qs
theorem lcms_dvd : ∀ {qs : List Rat} {b : Nat}, b ∣ lcms b qs ∧ ∀ q, q ∈ qs → q.den ∣ lcms b qs
  | [], b => ⟨Nat.dvd_refl _, fun q h => by cases h⟩
  | q :: qs, b => by
    obtain ⟨h1, h2⟩ := lcms_dvd (qs := qs) (b := Nat.lcm b q.den)
    rw [lcms]
    refine ⟨Nat.dvd_trans (Nat.dvd_lcm_left _ _) h1, fun r hr => ?_⟩
    rcases List.mem_cons.mp hr with rfl | hr
    · exact Nat.dvd_trans (Nat.dvd_lcm_right _ _) h1
    · exact h2 r hr
theorem lcms_pos : ∀ {qs : List Rat} {b : Nat}, 0 < b → 0 < lcms b qs
  | [], b, h => h
  | q :: qs, b, h => by rw [lcms]; exact lcms_pos (Nat.lcm_pos h q.den_pos)
def ofC (qs : List Rat) : Pol := mk (qs.map fun q => q.num * ((lcms 1 qs / q.den : Nat) : Int)) (lcms 1 qs)
theorem co_ofC {qs : List Rat} (k : Nat) : (ofC qs).co k = qs.getD k 0 := by
  unfold ofC
  have hb : 0 < lcms 1 qs := lcms_pos (by decide)
  rw [co_mk hb, List.getD_eq_getElem?_getD, List.getD_eq_getElem?_getD, List.getElem?_map]
  cases e : qs[k]? with
  | none => simp
  | some q =>
    have hd := (lcms_dvd (b := 1)).2 q (List.mem_of_getElem? e)
    simp only [Option.map_some, Option.getD_some]
    have e2 := Nat.div_mul_cancel hd
    have hn : ((lcms 1 qs / q.den : Nat) : Int) ≠ 0 := by
      intro h0
      have : lcms 1 qs / q.den = 0 := by omega
      rw [this] at e2; omega
    have := Rat.divInt_mul_right (n := q.num) (d := (q.den : Int)) (a := ((lcms 1 qs / q.den : Nat) : Int)) hn
    rw [Rat.num_divInt_den, ← Int.natCast_mul, Nat.mul_comm q.den, e2] at this
    exact this
theorem lcm_eq (b d : Nat) (h : 0 < b) : ((b : Int) * d).fdiv (Nat.gcd b d : Nat) = ((Nat.lcm b d : Nat) : Int) := by
  rw [Int.fdiv_eq_ediv_of_nonneg _ (by omega), Nat.lcm, Int.natCast_ediv, Int.natCast_mul]
theorem lcm_lt {a b m n : Nat} (h1 : a < 2 ^ m) (h2 : b < 2 ^ n) : Nat.lcm a b < 2 ^ (m + n) := by
  refine Nat.lt_of_le_of_lt (Nat.div_le_self _ _) ?_
  rw [Nat.pow_add]
  exact Nat.mul_lt_mul'' h1 h2
theorem poly_to {S : PyData} {qs : List Rat} {n : Nat} {P : PyData → Prop} (hS : SeqD S (qs.map fracD)) (hq : ∀ q, q ∈ qs → FB n q) (hn : qs.length * n ≤ 400000) (h0 : 0 < n) (hn' : n ≤ 400000) (hl : qs.length ≤ 16777216) (h : P (polyD (ofC qs))) : (m_poly [S]).To P := by
  unfold m_poly
  rw [pure_to]
  unfold b_poly
  simp [startL, hS.src]
  refine ⟨_, _, ⟨rfl, rfl⟩, ?_⟩
  refine for_to (I := fun zs l s => s = ⟨none, []⟩ ∧ ∃ (as bs : List Rat) (v w : Option U) (c : Nat), qs = as ++ bs ∧ zs = bs.map fracD ∧ l = [some (.d S), some (.d (.int c)), v, w] ∧ lcms c bs = lcms 1 qs ∧ 0 < c ∧ c < 2 ^ (as.length * n + 1)) (fun _ _ _ _ => chk_nil) ?_ ?_ _ _ _ ⟨rfl, [], qs, none, none, 1, rfl, rfl, rfl, rfl, by decide, by simp⟩
  · rintro x zs l s ⟨rfl, as, bs, v, w, c, e1, e2, rfl, e3, e4, e5⟩
    cases bs with
    | nil => cases e2
    | cons q bs =>
      cases e2
      have fq := hq q (by rw [e1]; simp)
      have hlen : (as.length + 1) * n ≤ 400000 := Nat.le_trans (Nat.mul_le_mul_right n (by rw [e1]; simp)) hn
      rw [Nat.add_mul, Nat.one_mul] at hlen
      have m1 : mulC c q.den = true := mulC_of (a := as.length * n + 1) (b := n) (by simpa using e5) (by simpa using fq.2) (by omega) h0 (by omega)
      have hg : 0 < Nat.gcd c q.den := Nat.gcd_pos_of_pos_left _ e4
      have hg2 : True := trivial
      simp [fracD, m1]
      refine common_part_to ?_
      simp [divC_nat hg hg2, lcm_eq c q.den e4]
      refine ⟨as ++ [q], bs, by rw [e1]; simp, rfl, _, _, _, ⟨rfl, rfl, rfl⟩, e3, Nat.lcm_pos e4 q.den_pos, ?_⟩
      have := lcm_lt e5 fq.2
      rw [List.length_append, Nat.add_mul]
      refine Nat.lt_of_lt_of_le this (Nat.pow_le_pow_right (by omega) ?_)
      simp; omega
  · rintro l s ⟨rfl, as, bs, v, w, c, e1, e2, rfl, e3, e4, e5⟩
    have : bs = [] := by cases bs with | nil => rfl | cons c bs => cases e2
    subst this
    have e3' : c = lcms 1 qs := e3
    subst e3'
    rw [List.append_nil] at e1
    subst e1
    have hB : True := trivial
    simp [hS.src]
    refine ⟨_, _, ⟨rfl, rfl⟩, by simpa using hl, ?_⟩
    refine lc_mapA (g := fun q => .int (q.num * ((lcms 1 qs / q.den : Nat) : Int))) chk_nil ?_ ?_
    · intro q hq'
      have fq := hq q hq'
      have hd : 0 < q.den := q.den_pos
      have hq1 : True := trivial
      have hl2 : True := trivial
      have e : ((lcms 1 qs : Nat) : Int).fdiv (q.den : Int) = ((lcms 1 qs / q.den : Nat) : Int) := by
        rw [Int.fdiv_eq_ediv_of_nonneg _ (by omega), Int.natCast_ediv]
      have m1 : mulC q.num ((lcms 1 qs / q.den : Nat) : Int) = true := mulC_of (a := n) (b := qs.length * n + 1) fq.1 (by rw [Int.natAbs_natCast]; exact Nat.lt_of_le_of_lt (Nat.div_le_self _ _) e5) h0 (by omega) (by omega)
      rw [Int.natCast_ediv] at m1 e
      simp [wipeL, fracD, divC_nat hd hq1, e, m1]
    · unfold ofC at h
      refine over_to (.inl ?_) (lcms_pos (by decide)) hB ?_ h
      · rw [List.map_map]; rfl
      · simpa using hl
theorem fraction_at_to {p : Pol} {k : Nat} {P : PyData → Prop} {q9 : Prop} (hb : q9) (h : P (fracD (p.co k))) : (m_fraction_at [polyD p, .int k]).To P := by
  unfold m_fraction_at
  rw [pure_to]
  unfold b_fraction_at
  have hp := p.hb
  by_cases hk : p.ts.length ≤ k
  · have e : p.co k = 0 := by
      unfold Pol.co
      rw [List.getD_eq_getElem?_getD, List.getElem?_eq_none hk]; simp
    rw [e] at h
    simp [startL, polyD, hk]
    exact h
  · have e : p.ts.getD k 0 = p.ts[k]'(by omega) := by simp [List.getD_eq_getElem?_getD, List.getElem?_eq_getElem (show k < p.ts.length by omega)]
    have hk' : k < p.ts.length := by omega
    unfold Pol.co at h
    rw [e] at h
    simp [startL, polyD, hk, hk', idxN_nat (show k < p.ts.length by omega)]
    exact fraction_to (by omega) trivial h
theorem degree_to {p : Pol} {P : PyData → Prop} (h : P (.int ((p.ts.length : Int) - 1))) : (m_degree [polyD p]).To P := by
  unfold m_degree
  rw [pure_to]
  unfold b_degree
  simp [startL, polyD]
  exact h
theorem lead_to {p : Pol} {P : PyData → Prop} {q9 : Prop} (hb : q9) (h : P (fracD (p.co (p.ts.length - 1)))) : (m_lead [polyD p]).To P := by
  unfold m_lead
  rw [pure_to]
  unfold b_lead
  by_cases hk : p.ts.length = 0
  · have e : p.co (p.ts.length - 1) = 0 := by
      unfold Pol.co
      rw [List.getD_eq_getElem?_getD, List.getElem?_eq_none (by omega)]; simp
    rw [e] at h
    have : p.ts = [] := List.length_eq_zero_iff.mp hk
    simp [startL, polyD, this]
    exact h
  · have : p.ts ≠ [] := fun e => hk (by rw [e]; rfl)
    have e : ((p.ts.length : Int) - 1) = ((p.ts.length - 1 : Nat) : Int) := by omega
    simp [startL, polyD, this]
    refine degree_to (p := p) ?_
    rw [e]
    exact fraction_at_to hb h
theorem len_of {p : Pol} {m : Nat} (h1 : ∀ k, m ≤ k → p.co k = 0) (h2 : m ≠ 0 → p.co (m - 1) ≠ 0) : p.ts.length = m := by
  have hp := p.hb
  have z : ∀ k, p.co k = 0 ↔ p.ts.getD k 0 = 0 := fun k => by
    unfold Pol.co
    constructor
    · intro h
      have e : Rat.divInt (p.ts.getD k 0) p.b = Rat.divInt 0 1 := by rw [h, Rat.zero_divInt]
      have := (Rat.divInt_eq_divInt_iff (by omega) (by omega)).mp e
      omega
    · intro h; rw [h]; simp
  rcases Nat.lt_trichotomy p.ts.length m with h | h | h
  · exfalso
    refine h2 (by omega) ((z _).mpr ?_)
    rw [List.getD_eq_getElem?_getD, List.getElem?_eq_none (by omega)]; rfl
  · exact h
  · exfalso
    have hn : p.ts ≠ [] := fun e => by rw [e] at h; simp at h
    exact tr_get p.ht hn ((z _).mp (h1 _ (by omega)))
end NW
namespace NW
open PySem PySem.Spec PyProof.Rows L2
theorem mk_congr {ts us : List Int} {b : Nat} (hb : 0 < b) (h : ∀ k, ts.getD k 0 = us.getD k 0) : mk ts b = mk us b := Pol.ext_co fun k => by rw [co_mk hb, co_mk hb, h k]
theorem mk_ext {ts us : List Int} {b c : Nat} (hb : 0 < b) (hc : 0 < c) (h : ∀ x, evZ ts x / (b : Int) = evZ us x / (c : Int)) : mk ts b = mk us c := Pol.ext_ev fun x => by rw [ev_mk hb, ev_mk hc, h x]
def evC : Nat → (Nat → Rat) → Rat → Rat
  | 0, _, _ => 0
  | n + 1, f, x => f 0 + x * evC n (fun k => f (k + 1)) x
theorem evC_add {x : Rat} : ∀ {n : Nat} {f g : Nat → Rat}, evC n (fun k => f k + g k) x = evC n f x + evC n g x
  | 0, _, _ => by simp [evC]; grind
  | n + 1, f, g => by rw [evC, evC, evC, evC_add]; grind
theorem evC_mul {x c : Rat} : ∀ {n : Nat} {f : Nat → Rat}, evC n (fun k => c * f k) x = c * evC n f x
  | 0, _ => by simp [evC]
  | n + 1, f => by rw [evC, evC, evC_mul]; grind
theorem evC_evZ {x : Rat} : ∀ {ts : List Int} {n : Nat}, ts.length ≤ n → evC n (fun k => ((ts.getD k 0 : Int) : Rat)) x = evZ ts x
  | [], n, _ => by
    induction n with
    | zero => rfl
    | succ n ih =>
      have := ih (by simp)
      simp [evZ] at this
      rw [evC]
      simp [this, evZ]; grind
  | t :: ts, 0, h => by simp at h
  | t :: ts, n + 1, h => by
    rw [evC, evZ]
    have := evC_evZ (x := x) (ts := ts) (n := n) (by simpa using h)
    simp only [List.getD_cons_zero, List.getD_cons_succ]
    rw [this]
theorem divInt_div (a : Int) (b : Int) : Rat.divInt a b = (a : Rat) / (b : Rat) := by
  rw [Rat.divInt_eq_div]
theorem Pol.bne (p : Pol) : ((p.b : Int) : Rat) ≠ 0 := by
  have := p.hb
  intro e; have := Rat.intCast_eq_zero_iff.mp e; omega
theorem ev_co {p : Pol} {n : Nat} {x : Rat} (h : p.ts.length ≤ n) : p.ev x = evC n p.co x := by
  have e : p.co = fun k => (1 / ((p.b : Int) : Rat)) * ((p.ts.getD k 0 : Int) : Rat) := funext fun k => by
    unfold Pol.co
    rw [divInt_div]; grind
  rw [e, evC_mul, evC_evZ h]
  unfold Pol.ev
  grind
theorem evZ_set {x : Rat} {d : Int} : ∀ {ts : List Int} {k : Nat} {t : Int}, ts[k]? = some t → evZ (ts.set k (t + d)) x = evZ ts x + d * x ^ k
  | [], _, _, h => by simp at h
  | a :: ts, 0, t, h => by
    simp at h; subst h
    rw [List.set_cons_zero, evZ, evZ, Rat.intCast_add]; grind
  | a :: ts, k + 1, t, h => by
    have := evZ_set (x := x) (d := d) (ts := ts) (k := k) (t := t) (by simpa using h)
    rw [List.set_cons_succ, evZ, evZ, this]
    grind
theorem evZ_zero {x : Rat} : ∀ {n : Nat}, evZ (List.replicate n 0) x = 0
  | 0 => rfl
  | n + 1 => by rw [List.replicate_succ, evZ, evZ_zero]; simp; grind
end NW
namespace NW
open PySem PySem.Spec PyProof.Rows L2
section
variable {l : Loc} {st : Sto} {P : List PyData → Sto → Prop}
@[simp] theorem to_lOp {f : U → U → Sto → Res (List PyData)} {a b : ME} : (lOp f a b l st).To P ↔ (a l st).To fun x s => (b l s).To fun y s => (f x y s).To P := by unfold lOp; simp
@[simp] theorem to_rep1 {x : PyData} {k : Int} : (fRep (.d (.list [x])) (.d (.int k)) st).To P ↔ (-(2 ^ 63) ≤ k ∧ k < 2 ^ 63 ∧ k.toNat ≤ 16777216) ∧ P (List.replicate k.toNat x) st := by
  have e : (List.replicate k.toNat [x]).flatten = List.replicate k.toNat x := by
    generalize k.toNat = n
    induction n with
    | zero => rfl
    | succ n ih => rw [List.replicate_succ, List.flatten_cons, ih, List.replicate_succ]; rfl
  show (if (decide (-(2 ^ 63) ≤ k ∧ k < 2 ^ 63) && lenOk ([x].length * k.toNat)) = true then Res.ok (List.replicate k.toNat [x]).flatten st else .no).To P ↔ _
  rw [to_ite, e]
  simp only [Bool.and_eq_true, decide_eq_true_eq, lenOk_small, List.length_singleton, Nat.one_mul]
  split
  · rename_i h; exact ⟨fun z => ⟨⟨h.1.1, h.1.2, h.2⟩, z⟩, fun z => z.2⟩
  · rename_i h; exact ⟨fun z => z.elim, fun z => (h ⟨⟨z.1.1, z.1.2.1⟩, z.1.2.2⟩).elim⟩
end
theorem noLst_poly {p : Pol} : noLst (polyD p) = true := by
  have : ∀ ts : List Int, noLsts (ts.map .int) = true := by
    intro ts
    induction ts with
    | nil => rfl
    | cons t ts ih => rw [List.map_cons, noLsts, ih]; rfl
  simp [polyD, noLst, noLsts, this]
def PBt (n m : Nat) (p : Pol) : Prop := p.ts.length ≤ m ∧ p.b < 2 ^ n ∧ ∀ t, t ∈ p.ts → t.natAbs < 2 ^ n
theorem PBt.get {n m : Nat} {p : Pol} (h : PBt n m p) (k : Nat) : (p.ts.getD k 0).natAbs < 2 ^ n := by
  rw [List.getD_eq_getElem?_getD]
  cases e : p.ts[k]? with
  | none => simp [Nat.two_pow_pos]
  | some t => exact h.2.2 t (List.mem_of_getElem? e)
def sumL (p q : Pol) : List Int := (List.range (max p.ts.length q.ts.length)).map fun k => p.ts.getD k 0 * q.b + q.ts.getD k 0 * p.b
instance : Add Pol := ⟨fun p q => mk (sumL p q) (p.b * q.b)⟩
theorem sumL_get {p q : Pol} {k : Nat} : (sumL p q).getD k 0 = p.ts.getD k 0 * q.b + q.ts.getD k 0 * p.b := by
  unfold sumL
  rw [List.getD_eq_getElem?_getD, List.getElem?_map]
  by_cases h : k < max p.ts.length q.ts.length
  · rw [List.getElem?_range h]; rfl
  · rw [List.getElem?_eq_none (by simp; omega)]
    rw [List.getD_eq_getElem?_getD, List.getD_eq_getElem?_getD, List.getElem?_eq_none (by omega), List.getElem?_eq_none (by omega)]
    simp
theorem co_add {p q : Pol} {k : Nat} : (p + q).co k = p.co k + q.co k := by
  have hp := p.hb
  have hq := q.hb
  show (mk (sumL p q) (p.b * q.b)).co k = _
  rw [co_mk (Nat.mul_pos hp hq), sumL_get]
  unfold Pol.co
  rw [Rat.divInt_add_divInt _ _ (by omega) (by omega), Int.natCast_mul]
theorem ev_add {p q : Pol} {x : Rat} : (p + q).ev x = p.ev x + q.ev x := by
  have e : (p + q).co = fun k => p.co k + q.co k := funext fun k => co_add
  rw [ev_co (n := max (p + q).ts.length (max p.ts.length q.ts.length)) (by omega), e, evC_add, ← ev_co (by omega), ← ev_co (by omega)]
section
variable {st : Sto} {Q : U → Sto → Prop} {p : Pol}
@[simp] theorem to_ixP0 : (fIx (.d (polyD p)) (.d (.int 0)) st).To Q ↔ Q (.d (.tuple (p.ts.map .int))) st := Iff.rfl
@[simp] theorem to_ixP1 : (fIx (.d (polyD p)) (.d (.int 1)) st).To Q ↔ Q (.d (.int p.b)) st := Iff.rfl
end
theorem for_ix {d : ItD} {t : MT} {b : MS} {N : Loc → Sto → Prop} {R : U → Sto → Prop} (I : Nat → Loc → Sto → Prop) {xs : List PyData} {l : Loc} {st : Sto} (hk : ∀ k l st, I k l st → d.chk st) (start : I 0 l st)
    (step : ∀ k x l st, xs[k]? = some x → I k l st → (t (.d x) l st).To fun l s => (b l s).To (I (k + 1)) R) (fin : ∀ l st, I xs.length l st → N l st) : (forM d t b xs l st).To N R := by
  refine for_to (I := fun ys l s => ∃ k, I k l s ∧ ∃ zs, xs = zs ++ ys ∧ zs.length = k) (fun _ _ _ ⟨k, h, _⟩ => hk k _ _ h) ?_ ?_ xs l st ⟨0, start, [], rfl, rfl⟩
  · rintro x ys l s ⟨k, h, zs, rfl, rfl⟩
    refine (step zs.length x l s (by simp) h).mono ?_
    intro l1 s1 h1
    exact h1.mono (fun l2 s2 h2 => ⟨_, h2, zs ++ [x], by simp, by simp⟩) (fun _ _ z => z)
  · rintro l s ⟨k, h, zs, e, rfl⟩
    rw [List.append_nil] at e
    subst e
    exact fin l s h
theorem enum_int {ts : List Int} {k : Nat} {x : PyData} (h : (enumD (ts.map .int))[k]? = some x) : ∃ t, ts[k]? = some t ∧ x = .tuple [.int (k : Nat), .int t] := by
  obtain ⟨y, h1, rfl⟩ := enumD_get h
  rw [List.getElem?_map] at h1
  cases e : ts[k]? with
  | none => rw [e] at h1; cases h1
  | some t => rw [e] at h1; cases h1; exact ⟨t, rfl, rfl⟩
theorem map_set {L : List Int} {k : Nat} {t : Int} : (L.map PyData.int).set k (.int t) = (L.set k t).map .int := by rw [List.map_set]
theorem set_getD {L : List Int} {k j : Nat} {t : Int} (hk : k < L.length) : (L.set k t).getD j 0 = if j = k then t else L.getD j 0 := by
  rw [List.getD_eq_getElem?_getD, List.getD_eq_getElem?_getD, List.getElem?_set]
  by_cases h : k = j
  · subst h; simp [hk]
  · rw [if_neg h, if_neg (Ne.symm h)]
theorem plusx {p q : Pol} {n n2 m : Nat} {P : PyData → Prop} (hp : PBt n m p) (hq : PBt n2 m q) (hm : m ≤ 1000) (hn : n + n2 ≤ 999990) (hP : P (polyD (p + q))) : (m_plus [polyD p, polyD q]).To P := by
  unfold m_plus
  rw [pure_to]
  unfold b_plus
  have hpl := hp.1
  have hql := hq.1
  simp [startL]
  have eM : (if p.ts.length < q.ts.length then (q.ts.length : Int) else (p.ts.length : Int)) = ((max p.ts.length q.ts.length : Nat) : Int) := by
    split <;> omega
  rw [eM]
  generalize hM : max p.ts.length q.ts.length = M
  have hM1 : p.ts.length ≤ M := by omega
  have hM2 : q.ts.length ≤ M := by omega
  refine ⟨by omega, _, _, ⟨rfl, rfl⟩, ?_⟩
  obtain ⟨I, hI⟩ : ∃ I : Nat → NW.Loc → Sto → Prop, ∀ k l s, I k l s ↔ ∃ (L : List Int) (v w : Option U), l = [some (.d (polyD p)), some (.d (polyD q)), some (.ref 0), v, w] ∧ s = ⟨none, [.lst (L.map .int)]⟩ ∧ L.length = M ∧ ∀ j, L.getD j 0 = if j < k then p.ts.getD j 0 * q.b else 0 := ⟨_, fun _ _ _ => Iff.rfl⟩
  refine for_ix I (fun _ _ _ _ => chk_nil) ((hI _ _ _).mpr ⟨List.replicate M 0, none, none, rfl, ?_, by simp, ?_⟩) ?_ ?_
  · simp
  · intro j
    simp [List.getD_eq_getElem?_getD, List.getElem?_replicate]
    split <;> rfl
  · rintro k x l s hx h
    obtain ⟨L, v, w, rfl, rfl, hL, hg⟩ := (hI _ _ _).mp h
    obtain ⟨t, ht, rfl⟩ := enum_int hx
    have hk : k < p.ts.length := (List.getElem?_eq_some_iff.mp ht).1
    have e1 : p.ts.getD k 0 = t := by rw [List.getD_eq_getElem?_getD, ht]; rfl
    have mc : mulC t q.b = true := mx (by rw [← e1]; exact hp.get k) (by simpa using hq.2.1) hn
    have hkM : k < L.length := by omega
    simp [mc, idxN_nat hkM]
    refine (hI _ _ _).mpr ⟨L.set k (t * q.b), _, _, rfl, by rw [map_set], by simpa using hL, fun j => ?_⟩
    rw [set_getD hkM, hg j]
    by_cases hj : j = k
    · subst hj; rw [if_pos rfl, if_pos (by omega), e1]
    · rw [if_neg hj]
      by_cases h1 : j < k
      · rw [if_pos h1, if_pos (by omega)]
      · rw [if_neg h1, if_neg (by omega)]
  · intro l s h
    obtain ⟨L, v, w, rfl, rfl, hL, hg⟩ := (hI _ _ _).mp h
    have hg' : ∀ j, L.getD j 0 = p.ts.getD j 0 * q.b := fun j => by
      rw [hg j]
      split
      · rfl
      · rename_i hj
        rw [List.getD_eq_getElem?_getD, List.getElem?_eq_none (by simpa using hj)]; simp
    clear h hg
    simp
    obtain ⟨J, hJ⟩ : ∃ J : Nat → NW.Loc → Sto → Prop, ∀ k l s, J k l s ↔ ∃ (L : List Int) (v w : Option U), l = [some (.d (polyD p)), some (.d (polyD q)), some (.ref 0), v, w] ∧ s = ⟨none, [.lst (L.map .int)]⟩ ∧ L.length = M ∧ ∀ j, L.getD j 0 = p.ts.getD j 0 * q.b + if j < k then q.ts.getD j 0 * p.b else 0 := ⟨_, fun _ _ _ => Iff.rfl⟩
    refine ⟨_, _, ⟨rfl, rfl⟩, ?_⟩
    refine for_ix J (fun _ _ _ _ => chk_nil) ((hJ _ _ _).mpr ⟨L, v, w, rfl, rfl, hL, fun j => by rw [hg' j, if_neg (by omega)]; omega⟩) ?_ ?_
    · rintro k x l s hx h
      obtain ⟨L, v, w, rfl, rfl, hL, hg⟩ := (hJ _ _ _).mp h
      obtain ⟨t, ht, rfl⟩ := enum_int hx
      have hk : k < q.ts.length := (List.getElem?_eq_some_iff.mp ht).1
      have e1 : q.ts.getD k 0 = t := by rw [List.getD_eq_getElem?_getD, ht]; rfl
      have mc : mulC t p.b = true := mx (by rw [← e1]; exact hq.get k) (by simpa using hp.2.1) (by omega)
      have hkM : k < L.length := by omega
      simp [mc, idxN_nat hkM, hkM]
      refine (hJ _ _ _).mpr ⟨L.set k (L[k] + t * p.b), _, _, rfl, by rw [map_set], by simpa using hL, fun j => ?_⟩
      have ek : L[k] = L.getD k 0 := by simp [List.getD_eq_getElem?_getD, hkM]
      rw [set_getD hkM, ek, hg j, hg k]
      by_cases hj : j = k
      · subst hj; rw [if_pos rfl, if_neg (Nat.lt_irrefl j), if_pos (Nat.lt_succ_self j), e1]; omega
      · rw [if_neg hj]
        by_cases h1 : j < k
        · rw [if_pos h1, if_pos (by omega)]
        · rw [if_neg h1, if_neg (by omega)]
    · intro l s h
      obtain ⟨L, v, w, rfl, rfl, hL, hg⟩ := (hJ _ _ _).mp h
      have mc : mulC p.b q.b = true := mx (a := n) (b := n2) (by simpa using hp.2.1) (by simpa using hq.2.1) hn
      have hbb : True := trivial
      simp [mc]
      have e := over_to (S := .list (L.map .int)) (ts := L) (b := p.b * q.b) (P := fun d => noLst d = true ∧ P d) (.inl rfl) (Nat.mul_pos p.hb q.hb) hbb (by omega) ?_
      · rw [Int.natCast_mul] at e; exact e
      · refine ⟨noLst_poly, ?_⟩
        rw [mk_congr (us := sumL p q) (Nat.mul_pos p.hb q.hb) fun j => ?_]
        · exact hP
        · rw [sumL_get, hg j]
          split
          · rfl
          · rename_i hj
            rw [List.getD_eq_getElem?_getD (l := q.ts), List.getElem?_eq_none (by simpa using hj)]; simp
end NW
namespace NW
open PySem PySem.Spec PyProof.Rows L2
def Pol.sc (p : Pol) (r : Rat) : Pol := NW.mk (p.ts.map fun t => t * r.num) (p.b * r.den)
theorem co_sc {p : Pol} {r : Rat} {k : Nat} : (p.sc r).co k = p.co k * r := by
  have hp := p.hb
  have hr := r.den_pos
  unfold Pol.sc
  rw [co_mk (Nat.mul_pos hp hr), getD_map (by simp)]
  unfold Pol.co
  conv => rhs; rw [← Rat.num_divInt_den r]
  rw [Rat.divInt_mul_divInt, Int.natCast_mul]
theorem evC_mulr {x c : Rat} : ∀ {n : Nat} {f : Nat → Rat}, evC n (fun k => f k * c) x = evC n f x * c
  | 0, _ => by simp [evC]
  | n + 1, f => by rw [evC, evC, evC_mulr]; grind
theorem ev_sc {p : Pol} {r x : Rat} : (p.sc r).ev x = p.ev x * r := by
  have e : (p.sc r).co = fun k => p.co k * r := funext fun k => co_sc
  rw [ev_co (n := max (p.sc r).ts.length p.ts.length) (by omega), e, evC_mulr, ← ev_co (by omega)]
theorem scaledx {p : Pol} {r : Rat} {n n2 m : Nat} {P : PyData → Prop} (hp : PBt n m p) (hr : FB n2 r) (hm : m ≤ 1000) (hn : n + n2 ≤ 999990) (h : P (polyD (p.sc r))) : (m_scaled [polyD p, fracD r]).To P := by
  unfold m_scaled
  rw [pure_to]
  unfold b_scaled
  have hpl := hp.1
  simp [startL]
  refine ⟨_, _, ⟨rfl, rfl⟩, by simp; omega, ?_⟩
  refine lc_mapA (g := fun t => .int (t * r.num)) chk_nil ?_ ?_
  · intro t ht
    have mc : mulC t r.num = true := mx (hp.2.2 t ht) hr.1 hn
    simp [wipeL, mc]
  · have mc : mulC p.b r.den = true := mx (a := n) (b := n2) (by simpa using hp.2.1) (by simpa using hr.2) hn
    have hbb : True := trivial
    simp [mc]
    have e := over_to (S := .list ((p.ts.map fun t => t * r.num).map .int)) (b := p.b * r.den) (P := P) (.inl rfl) (Nat.mul_pos p.hb r.den_pos) hbb (by simp; omega) h
    rw [Int.natCast_mul, List.map_map] at e
    exact e
end NW
namespace NW
open PySem PySem.Spec PyProof.Rows L2
theorem idx_last {n : Nat} (h : 0 < n) : idxN n (-1) = some (n - 1) := by
  unfold idxN
  rw [if_neg (by omega), if_pos (by omega)]
  congr 1; omega
@[simp] theorem shaped_poly {p : Pol} : SeqAt.shaped (polyD p) = true := by
  have c : ∀ ts : List Int, PyData.canLayAll0 (ts.map .int) = true ∧ PyData.depthAll (ts.map .int) ≤ 0 := by
    intro ts
    induction ts with
    | nil => exact ⟨rfl, by simp [PyData.depthAll]⟩
    | cons t ts ih => exact ⟨by simp [PyData.canLayAll0, PyData.canLay0, ih.1], by simpa [PyData.depthAll, PyData.depth] using ih.2⟩
  have := c p.ts
  simp [polyD, SeqAt.shaped, PyData.canLay0, PyData.canLayAll0, PyData.depth, PyData.depthAll, this.1]
  omega
theorem eqvAll_ints : ∀ {ts us : List Int}, PyData.eqvAll (ts.map .int) (us.map .int) = decide (ts = us)
  | [], [] => by simp [PyData.eqvAll]
  | [], _ :: _ => by simp [PyData.eqvAll]
  | _ :: _, [] => by simp [PyData.eqvAll]
  | t :: ts, u :: us => by
    rw [List.map_cons, List.map_cons, PyData.eqvAll, eqvAll_ints, eqv_int, ← Bool.decide_and]
    exact decide_eq_decide.mpr (by rw [List.cons.injEq])
@[simp] theorem eqv_poly {p q : Pol} : PyData.eqv (polyD p) (polyD q) = true ↔ p = q := by
  simp only [polyD, PyData.eqv, PyData.eqvAll, eqvAll_ints]
  simp
  constructor
  · rintro ⟨a, b⟩
    cases p; cases q
    simp at a b
    have b' := Int.ofNat.inj b
    subst a; subst b'; rfl
  · rintro rfl; simp
theorem lk_poly {n : Nat} {p : Pol} (h : p.ts.length ≤ 1000) : Lk (n + 3) (polyD p) := ⟨by simp, fun x hx => by
  simp at hx
  rcases hx with rfl | rfl
  · exact ⟨by simp; omega, fun x hx => by
      obtain ⟨t, ht, rfl⟩ := List.mem_map.mp hx
      trivial⟩
  · trivial⟩
theorem ofC_len {qs : List Rat} : (ofC qs).ts.length ≤ qs.length := by
  by_cases h : (ofC qs).ts.length ≤ qs.length
  · exact h
  · exfalso
    have hn : (ofC qs).ts ≠ [] := fun e => by rw [e] at h; simp at h
    have hb := (ofC qs).hb
    have := tr_get (ofC qs).ht hn
    have e := co_ofC (qs := qs) ((ofC qs).ts.length - 1)
    rw [List.getD_eq_getElem?_getD (l := qs), List.getElem?_eq_none (by omega)] at e
    unfold Pol.co at e
    have e2 : Rat.divInt ((ofC qs).ts.getD ((ofC qs).ts.length - 1) 0) (ofC qs).b = Rat.divInt 0 1 := by rw [e, Rat.zero_divInt]; rfl
    have := (Rat.divInt_eq_divInt_iff (by omega) (by omega)).mp e2
    omega
theorem mk_b_le {ts : List Int} {b : Nat} (hb : 0 < b) : (mk ts b).b ≤ b := by
  unfold mk
  rw [dif_pos hb]
  exact Nat.div_le_self _ _
theorem lcms_lt {n : Nat} : ∀ {qs : List Rat} {b m : Nat}, (∀ q, q ∈ qs → FB n q) → b < 2 ^ m → lcms b qs < 2 ^ (m + qs.length * n)
  | [], b, m, _, h => by simpa [lcms] using h
  | q :: qs, b, m, hq, h => by
    rw [lcms]
    have := lcms_lt (fun r hr => hq r (List.mem_cons_of_mem _ hr)) (lcm_lt h (hq q (by simp)).2)
    refine Nat.lt_of_lt_of_le this (Nat.pow_le_pow_right (by omega) ?_)
    simp [Nat.add_mul]; omega
theorem maxI_cons {a m : Int} {xs : List Int} (h : maxI (a :: xs) = some m) : a ≤ m ∧ (∀ y, y ∈ xs → y ≤ m) ∧ (m = a ∨ m ∈ xs) := by
  cases h
  exact ⟨(foldl_max xs a).1, (foldl_max xs a).2, foldl_max_mem xs a⟩
theorem lay_all {xs : List PyData} (h : ∀ x, x ∈ xs → x.canLay0 = true) : PyData.canLayAll0 xs = true := by
  induction xs with
  | nil => rfl
  | cons x xs ih => rw [PyData.canLayAll0, h x (by simp), ih fun y hy => h y (by simp [hy])]; rfl
theorem depth_all {n : Nat} {xs : List PyData} (h : ∀ x, x ∈ xs → x.depth ≤ n) : PyData.depthAll xs ≤ n := by
  induction xs with
  | nil => simp [PyData.depthAll]
  | cons x xs ih => rw [PyData.depthAll]; exact Nat.max_le.mpr ⟨h x (by simp), ih fun y hy => h y (by simp [hy])⟩
theorem lk_lay : ∀ {n : Nat} {d : PyData}, Lk n d → d.canLay0 = true ∧ d.depth ≤ n := by
  intro n
  induction n with
  | zero => intro d h; exact h.elim
  | succ n ih =>
    intro d h
    cases d with
    | list xs =>
      refine ⟨by rw [PyData.canLay0]; exact lay_all fun x hx => (ih (h.2 x hx)).1, ?_⟩
      rw [PyData.depth]
      have := depth_all (n := n) (xs := xs) fun x hx => (ih (h.2 x hx)).2
      omega
    | tuple xs =>
      refine ⟨by rw [PyData.canLay0]; exact lay_all fun x hx => (ih (h.2 x hx)).1, ?_⟩
      rw [PyData.depth]
      have := depth_all (n := n) (xs := xs) fun x hx => (ih (h.2 x hx)).2
      omega
    | dict xs => exact h.elim
    | str z => exact ⟨h, by simp [PyData.depth]⟩
    | _ => exact ⟨rfl, by simp [PyData.depth]⟩
theorem lk_shaped {n : Nat} {d : PyData} (h : Lk n d) (hn : n ≤ 64) : SeqAt.shaped d = true := by
  obtain ⟨a, b⟩ := lk_lay h
  unfold SeqAt.shaped
  rw [a, Bool.true_and]; exact decide_eq_true (by omega)
theorem lk_eqv {n : Nat} {d : PyData} (h : Lk n d) : PyData.eqv d d = true := PySem.SeqAt.eqv_refl d (lk_lay h).1
theorem cutD_takeN {xs : List PyData} {k : Nat} : cutD xs none (some (k : Int)) = xs.take k := by
  unfold cutD
  rw [HT.sIx_nat, HT.sIx_none]
  rw [List.drop_zero, Nat.sub_zero]
  by_cases h : k ≤ xs.length
  · rw [Nat.min_eq_left h]
  · rw [Nat.min_eq_right (by omega), List.take_of_length_le (Nat.le_refl _), List.take_of_length_le (by omega)]
end NW
namespace NW
open PySem PySem.Spec PyProof.Rows L2
def addZ : List Int → List Int → List Int
  | [], us => us
  | t :: ts, [] => t :: ts
  | t :: ts, u :: us => (t + u) :: addZ ts us
def mulZ : List Int → List Int → List Int
  | [], _ => []
  | t :: ts, us => addZ (us.map fun u => t * u) (0 :: mulZ ts us)
theorem evZ_addZ {x : Rat} : ∀ {ts us : List Int}, evZ (addZ ts us) x = evZ ts x + evZ us x
  | [], us => by rw [addZ]; simp [evZ]; grind
  | t :: ts, [] => by rw [addZ]; simp [evZ]; grind
  | t :: ts, u :: us => by rw [addZ, evZ, evZ, evZ, evZ_addZ, Rat.intCast_add]; grind
theorem evZ_mulZ {x : Rat} : ∀ {ts us : List Int}, evZ (mulZ ts us) x = evZ ts x * evZ us x
  | [], us => by rw [mulZ]; simp [evZ]
  | t :: ts, us => by rw [mulZ, evZ_addZ, evZ_mul, evZ, evZ, evZ_mulZ]; simp; grind
theorem addZ_len : ∀ {ts us : List Int} {m : Nat}, ts.length ≤ m → us.length ≤ m → (addZ ts us).length ≤ m
  | [], us, m, _, h => h
  | t :: ts, [], m, h, _ => h
  | t :: ts, u :: us, 0, h, _ => by simp at h
  | t :: ts, u :: us, m + 1, h, h' => by
    rw [addZ, List.length_cons]
    have := addZ_len (ts := ts) (us := us) (m := m) (by simpa using h) (by simpa using h')
    omega
theorem mulZ_len : ∀ {ts us : List Int}, (mulZ ts us).length ≤ ts.length + us.length
  | [], us => by simp [mulZ]
  | t :: ts, us => by
    rw [mulZ]
    refine addZ_len ?_ ?_
    · simp
    · have := mulZ_len (ts := ts) (us := us)
      simp; omega
def BZ (B : Nat) (ts : List Int) : Prop := ∀ t, t ∈ ts → t.natAbs ≤ B
theorem BZ.add {A B : Nat} : ∀ {ts us : List Int}, BZ A ts → BZ B us → BZ (A + B) (addZ ts us)
  | [], us, _, h => fun t ht => Nat.le_trans (h t ht) (by omega)
  | t :: ts, [], h, _ => fun u hu => Nat.le_trans (h u hu) (by omega)
  | t :: ts, u :: us, h, h' => fun w hw => by
    rw [addZ] at hw
    rcases List.mem_cons.mp hw with rfl | hw
    · have a := h t (by simp)
      have b := h' u (by simp)
      omega
    · exact BZ.add (fun x hx => h x (by simp [hx])) (fun x hx => h' x (by simp [hx])) w hw
theorem BZ.mul {A B : Nat} : ∀ {ts us : List Int}, BZ A ts → BZ B us → BZ (ts.length * (A * B)) (mulZ ts us)
  | [], us, _, _ => fun t ht => by rw [mulZ] at ht; cases ht
  | t :: ts, us, h, h' => by
    rw [mulZ]
    have ih := BZ.mul (ts := ts) (us := us) (fun x hx => h x (by simp [hx])) h'
    have := BZ.add (A := A * B) (B := ts.length * (A * B)) (ts := us.map fun u => t * u) (us := 0 :: mulZ ts us) (fun w hw => by
      obtain ⟨u, hu, rfl⟩ := List.mem_map.mp hw
      rw [Int.natAbs_mul]
      exact Nat.mul_le_mul (h t (by simp)) (h' u hu)) (fun w hw => by
      rcases List.mem_cons.mp hw with rfl | hw
      · simp
      · exact ih w hw)
    have e : A * B + ts.length * (A * B) = (t :: ts).length * (A * B) := by
      rw [List.length_cons, Nat.add_mul, Nat.one_mul, Nat.add_comm]
    rw [← e]; exact this
instance : Mul Pol := ⟨fun p q => mk (mulZ p.ts q.ts) (p.b * q.b)⟩
theorem ev_mul {p q : Pol} {x : Rat} : (p * q).ev x = p.ev x * q.ev x := by
  show (mk (mulZ p.ts q.ts) (p.b * q.b)).ev x = _
  rw [ev_mk (Nat.mul_pos p.hb q.hb), evZ_mulZ]
  unfold Pol.ev
  have a := p.bne
  have b := q.bne
  rw [Int.natCast_mul, Rat.intCast_mul]
  grind
theorem evZ_take {x : Rat} : ∀ {ts : List Int} {k : Nat} {t : Int}, ts[k]? = some t → evZ (ts.take (k + 1)) x = evZ (ts.take k) x + t * x ^ k
  | [], _, _, h => by simp at h
  | a :: ts, 0, t, h => by
    simp at h; subst h
    simp [evZ]; grind
  | a :: ts, k + 1, t, h => by
    have := evZ_take (x := x) (ts := ts) (k := k) (t := t) (by simpa using h)
    rw [List.take_succ_cons, List.take_succ_cons, evZ, evZ, this]
    grind
theorem PBt.mk {ts : List Int} {b n m : Nat} (hb : 0 < b) (h1 : ts.length ≤ m) (h2 : b < 2 ^ n) (h3 : ∀ t, t ∈ ts → t.natAbs < 2 ^ n) : PBt n m (NW.mk ts b) := by
  have hbl := mk_b_le (ts := ts) hb
  refine ⟨?_, by omega, fun t ht => ?_⟩
  · unfold NW.mk
    rw [dif_pos hb]
    simp [mkT]; omega
  · unfold NW.mk at ht
    rw [dif_pos hb] at ht
    obtain ⟨u, hu, rfl⟩ := List.mem_map.mp ht
    refine Nat.lt_of_le_of_lt (Int.natAbs_ediv_le_natAbs _ _) (h3 u (List.mem_of_mem_take hu))
theorem PBt.mono {n m n' m' : Nat} {p : Pol} (h : PBt n m p) (hn : n ≤ n') (hm : m ≤ m') : PBt n' m' p :=
  ⟨Nat.le_trans h.1 hm, Nat.lt_of_lt_of_le h.2.1 (Nat.pow_le_pow_right (by omega) hn), fun t ht => Nat.lt_of_lt_of_le (h.2.2 t ht) (Nat.pow_le_pow_right (by omega) hn)⟩
theorem PBt.add {n1 n2 m : Nat} {p q : Pol} (hp : PBt n1 m p) (hq : PBt n2 m q) : PBt (n1 + n2 + 1) m (p + q) := by
  have hpw : 2 ^ (n1 + n2 + 1) = 2 ^ n1 * 2 ^ n2 + 2 ^ n1 * 2 ^ n2 := by rw [Nat.pow_succ, Nat.pow_add]; omega
  have hbb : p.b * q.b < 2 ^ n1 * 2 ^ n2 := Nat.mul_lt_mul'' hp.2.1 hq.2.1
  refine PBt.mk (Nat.mul_pos p.hb q.hb) ?_ (by omega) fun t ht => ?_
  · have := hp.1; have := hq.1
    simp [sumL]; omega
  · obtain ⟨k, hk, rfl⟩ := List.mem_map.mp ht
    have a : (p.ts.getD k 0 * q.b).natAbs < 2 ^ n1 * 2 ^ n2 := by
      rw [Int.natAbs_mul, Int.natAbs_natCast]; exact Nat.mul_lt_mul'' (hp.get k) hq.2.1
    have b : (q.ts.getD k 0 * p.b).natAbs < 2 ^ n1 * 2 ^ n2 := by
      rw [Int.natAbs_mul, Int.natAbs_natCast, Nat.mul_comm]; exact Nat.mul_lt_mul'' hp.2.1 (hq.get k)
    omega
theorem PBt.mul {n1 n2 m1 m2 : Nat} {p q : Pol} (hp : PBt n1 m1 p) (hq : PBt n2 m2 q) (hm : m1 ≤ 1000) : PBt (n1 + n2 + 10) (m1 + m2) (p * q) := by
  have hpw : 2 ^ (n1 + n2 + 10) = 1024 * (2 ^ n1 * 2 ^ n2) := by rw [Nat.pow_add, Nat.pow_add]; omega
  have hbb : p.b * q.b < 2 ^ n1 * 2 ^ n2 := Nat.mul_lt_mul'' hp.2.1 hq.2.1
  have h1 := hp.1
  have h2 := hq.1
  refine PBt.mk (Nat.mul_pos p.hb q.hb) ?_ (by omega) fun t ht => ?_
  · have := mulZ_len (ts := p.ts) (us := q.ts)
    omega
  · have z := BZ.mul (A := 2 ^ n1) (B := 2 ^ n2) (ts := p.ts) (us := q.ts) (fun t ht => Nat.le_of_lt (hp.2.2 t ht)) (fun t ht => Nat.le_of_lt (hq.2.2 t ht)) t ht
    have : p.ts.length * (2 ^ n1 * 2 ^ n2) ≤ 1000 * (2 ^ n1 * 2 ^ n2) := Nat.mul_le_mul_right _ (by omega)
    have : 0 < 2 ^ n1 * 2 ^ n2 := Nat.mul_pos (Nat.two_pow_pos _) (Nat.two_pow_pos _)
    omega
theorem PBt.sc {n1 n2 m : Nat} {p : Pol} {r : Rat} (hp : PBt n1 m p) (hr : FB n2 r) : PBt (n1 + n2) m (p.sc r) := by
  have hpw : 2 ^ (n1 + n2) = 2 ^ n1 * 2 ^ n2 := by rw [Nat.pow_add]
  refine PBt.mk (Nat.mul_pos p.hb r.den_pos) (by simpa using hp.1) (by rw [hpw]; exact Nat.mul_lt_mul'' hp.2.1 hr.2) fun t ht => ?_
  obtain ⟨u, hu, rfl⟩ := List.mem_map.mp ht
  rw [hpw, Int.natAbs_mul]
  exact Nat.mul_lt_mul'' (hp.2.2 u hu) hr.1
theorem timesx {p q : Pol} {n n2 m m2 : Nat} {P : PyData → Prop} (hp : PBt n m p) (hq : PBt n2 m2 q) (hm : m ≤ 1000) (hm2 : m2 ≤ 1000) (hn : n + n2 ≤ 999990) (hP : P (polyD (p * q))) : (m_times [polyD p, polyD q]).To P := by
  unfold m_times
  rw [pure_to]
  unfold b_times
  have hpl := hp.1
  have hql := hq.1
  simp [startL]
  generalize hM : p.ts.length + q.ts.length = M
  have eM : (p.ts.length : Int) + q.ts.length = (M : Int) := by omega
  rw [eM]
  refine ⟨by omega, _, _, ⟨rfl, rfl⟩, ?_⟩
  obtain ⟨I, hI⟩ : ∃ I : Nat → NW.Loc → Sto → Prop, ∀ k l s, I k l s ↔ ∃ (L : List Int) (v w a b : Option U), l = [some (.d (polyD p)), some (.d (polyD q)), some (.ref 0), v, w, a, b] ∧ s = ⟨none, [.lst (L.map .int)]⟩ ∧ L.length = M ∧ ∀ x, evZ L x = evZ (p.ts.take k) x * evZ q.ts x := ⟨_, fun _ _ _ => Iff.rfl⟩
  refine for_ix I (fun _ _ _ _ => chk_nil) ((hI _ _ _).mpr ⟨List.replicate M 0, none, none, none, none, rfl, by simp, by simp, fun x => by rw [evZ_zero]; simp [evZ]⟩) ?_ ?_
  · rintro k x l s hx h
    obtain ⟨L, v, w, a, b, rfl, rfl, hL, hg⟩ := (hI _ _ _).mp h
    obtain ⟨t, ht, rfl⟩ := enum_int hx
    have hk : k < p.ts.length := (List.getElem?_eq_some_iff.mp ht).1
    have htb := hp.2.2 t (List.mem_of_getElem? ht)
    simp
    refine ⟨_, _, ⟨rfl, rfl⟩, ?_⟩
    obtain ⟨J, hJ⟩ : ∃ J : Nat → NW.Loc → Sto → Prop, ∀ j l s, J j l s ↔ ∃ (L : List Int) (a b : Option U), l = [some (.d (polyD p)), some (.d (polyD q)), some (.ref 0), some (.d (.int (k : Nat))), some (.d (.int t)), a, b] ∧ s = ⟨none, [.lst (L.map .int)]⟩ ∧ L.length = M ∧ ∀ x, evZ L x = evZ (p.ts.take k) x * evZ q.ts x + t * x ^ k * evZ (q.ts.take j) x := ⟨_, fun _ _ _ => Iff.rfl⟩
    refine for_ix J (fun _ _ _ _ => chk_nil) ((hJ _ _ _).mpr ⟨L, a, b, rfl, rfl, hL, fun x => by rw [hg x]; simp [evZ]; grind⟩) ?_ ?_
    · rintro j y l s hy h
      obtain ⟨L, a, b, rfl, rfl, hL, hg⟩ := (hJ _ _ _).mp h
      obtain ⟨u, hu, rfl⟩ := enum_int hy
      have hj : j < q.ts.length := (List.getElem?_eq_some_iff.mp hu).1
      have mc : mulC t u = true := mx htb (hq.2.2 u (List.mem_of_getElem? hu)) hn
      obtain ⟨i, hi⟩ : ∃ i, i = k + j := ⟨_, rfl⟩
      have hkM : i < L.length := by omega
      have e1 : (k : Int) + j = (i : Int) := by omega
      simp [mc, e1, idxN_nat hkM, hkM]
      refine (hJ _ _ _).mpr ⟨L.set i (L[i] + t * u), _, _, rfl, by rw [map_set], by simpa using hL, fun x => ?_⟩
      rw [evZ_set (by simp [hkM]), hg x, evZ_take hu, Rat.intCast_mul, hi]
      grind
    · intro l s h
      obtain ⟨L, a, b, rfl, rfl, hL, hg⟩ := (hJ _ _ _).mp h
      refine (hI _ _ _).mpr ⟨L, _, _, _, _, rfl, rfl, hL, fun x => ?_⟩
      have : (enumD (q.ts.map PyData.int)).length = q.ts.length := by simp [enumD]
      rw [hg x, evZ_take ht, this, List.take_length]
      grind
  · intro l s h
    obtain ⟨L, v, w, a, b, rfl, rfl, hL, hg⟩ := (hI _ _ _).mp h
    have mc : mulC p.b q.b = true := mx (a := n) (b := n2) (by simpa using hp.2.1) (by simpa using hq.2.1) hn
    have hbb : True := trivial
    simp [mc]
    have e := over_to (S := .list (L.map .int)) (ts := L) (b := p.b * q.b) (P := fun d => noLst d = true ∧ P d) (.inl rfl) (Nat.mul_pos p.hb q.hb) hbb (by omega) ?_
    · rw [Int.natCast_mul] at e; exact e
    · refine ⟨noLst_poly, ?_⟩
      have el : (enumD (p.ts.map PyData.int)).length = p.ts.length := by simp [enumD]
      have ee : NW.mk L (p.b * q.b) = p * q := mk_ext (Nat.mul_pos p.hb q.hb) (Nat.mul_pos p.hb q.hb) fun x => by rw [hg x, el, List.take_length, evZ_mulZ]
      rw [ee]; exact hP
theorem times_to {p q : Pol} {n m : Nat} {P : PyData → Prop} (hp : PBt n m p) (hq : PBt n m q) (hm : m ≤ 1000) (h0 : 0 < n) (hn : n ≤ 499000) (hP : P (polyD (p * q))) : (m_times [polyD p, polyD q]).To P := timesx hp hq hm hm (by omega) hP
end NW
namespace NW
open PySem PySem.Spec PyProof.Rows L2
section
variable {st : Sto} {Q : U → Sto → Prop}
@[simp] theorem to_mPop {k : Nat} : (mPop (.ref k) [] st).To Q ↔ ∃ xs y, st.obs[k]? = some (.lst xs) ∧ xs[xs.length - 1]? = some y ∧ Q (.d y) (st.put k xs.dropLast) := by
  unfold mPop
  cases e : ownL st (.ref k) with
  | none =>
    refine ⟨fun w => w.elim, fun ⟨xs, y, h, _⟩ => ?_⟩
    rw [ownL_ref.mpr ⟨h, rfl⟩] at e; cases e
  | some p =>
    obtain ⟨j, ys⟩ := p
    obtain ⟨e1, rfl⟩ := ownL_ref.mp e
    show (match ys[ys.length - 1]? with
      | some y => Res.ok (U.d y) (st.put j ys.dropLast)
      | none => .no).To Q ↔ _
    cases e2 : ys[ys.length - 1]? with
    | none =>
      refine ⟨fun w => w.elim, fun ⟨xs, y, h, h2, _⟩ => ?_⟩
      rw [e1] at h; cases h; rw [e2] at h2; cases h2
    | some y =>
      refine ⟨fun w => ⟨ys, y, e1, e2, w⟩, fun ⟨xs, z, h, h2, w⟩ => ?_⟩
      rw [e1] at h; cases h; rw [e2] at h2; cases h2; exact w
theorem ixl_to {xs : List PyData} {i : Int} {p : PyData → Prop} (h0 : 0 ≤ i) (h1 : i < xs.length) (hp : ∀ x, x ∈ xs → p x) (h : ∀ x, p x → Q (.d x) st) : (fIx (.d (.list xs)) (.d (.int i)) st).To Q := by
  obtain ⟨n, rfl⟩ := Int.eq_ofNat_of_zero_le h0
  have hn : n < xs.length := by omega
  rw [to_ixL]
  exact ⟨xs[n], by rw [idxN_nat hn]; simp [hn], h _ (hp _ (List.getElem_mem hn))⟩
theorem SeqD.lst {S : PyData} {xs : List PyData} (h : SeqD S xs) {P : List PyData → Sto → Prop} : (cListOf [.d S] st).To P ↔ P xs st := by rcases h with rfl | rfl <;> exact Iff.rfl
end
theorem gs_snoc : ∀ (as : List Int) (g : Nat) (c : Int), gs g (as ++ [c]) = Int.gcd (gs g as) c
  | [], g, c => rfl
  | a :: as, g, c => by rw [List.cons_append, gs, gs, gs_snoc]
theorem idx_end {n : Nat} (h : 0 < n) : idxN n (-1) = some (n - 1) := by
  unfold idxN
  rw [if_neg (by omega), if_pos (by omega)]
  congr 1; omega
theorem L_poly_to {S : PyData} {ts : List Int} {b : Nat} {P : PyData → Prop} (hS : SeqD S (ts.map .int)) (hb : 0 < b) {q9 : Prop} (hn : q9) (hl : ts.length ≤ 16777216) (h : P (polyD (mk ts b))) : (m_L_poly [S, .int b]).To P := by
  unfold m_L_poly
  rw [pure_to]
  unfold b_L_poly
  simp [startL, hS.lst]
  refine while_to (I := fun n l s => s = ⟨none, [.lst ((ts.take n).map .int)]⟩ ∧ l = [some (.ref 0), some (.d (.int b)), none, none] ∧ n ≤ ts.length ∧ ∀ k, n ≤ k → ts.getD k 0 = 0) ?_ ts.length _ _ ⟨by simp, rfl, Nat.le_refl _, fun k hk => by simp [List.getD_eq_getElem?_getD, List.getElem?_eq_none hk]⟩
  rintro n l s ⟨rfl, rfl, h1, h2⟩
  obtain ⟨us, hus⟩ : ∃ us, us = ts.take n := ⟨_, rfl⟩
  rw [← hus]
  have hlen : us.length = n := by rw [hus]; simp; omega
  have post : (n ≠ 0 → ts.getD (n - 1) 0 ≠ 0) → (sSeq (sAsg 2 (eVar 1))
      (sSeq (sFor (mAny (eVar 0)) (gNameM 3) (sAsg 2 (eCallP 2 m_L_common (aCons (eVar 2) (aCons (eVar 3) aNil)))))
      (sRet (eTup (aCons (eCB cTupOf (aCons (eFrz (lLc (mAny (eVar 0)) [3] (gNameM 3) bYes (eOp fDiv (eVar 3) (eVar 2)))) aNil)) (aCons (eOp fDiv (eVar 1) (eVar 2)) aNil))))) [some (.ref 0), some (.d (.int b)), none, none] ⟨none, [.lst (us.map .int)]⟩).To (fun _ _ => P .none) (retP P) := by
    intro hz
    rw [hus] at hlen ⊢
    have tr : Tr (ts.take n) := tr_of fun hne => by
      have hn0 : n ≠ 0 := fun e => by subst e; simp at hne
      have := hz hn0
      rw [hlen]
      rw [List.getD_eq_getElem?_getD, List.getElem?_take_of_lt (by omega), ← List.getD_eq_getElem?_getD]
      exact this
    have eq : mkT (ts.take n) tr b hb = mk ts b := Pol.ext_co fun k => by
      rw [co_mkT, co_mk hb]
      congr 1
      by_cases hk : k < n
      · rw [List.getD_eq_getElem?_getD, List.getElem?_take_of_lt hk, ← List.getD_eq_getElem?_getD]
      · rw [h2 k (by omega), List.getD_eq_getElem?_getD, List.getElem?_eq_none (by simp; omega)]; rfl
    have hly : (ts.take n).length ≤ 16777216 := by simp; omega
    clear hz h2
    generalize ts.take n = ys at tr eq hly
    have hgp := gs_pos (ts := ys) hb
    have hgl : gs b ys ≤ b := Nat.le_of_dvd hb gs_self
    simp
    refine ⟨_, _, ⟨rfl, rfl⟩, ?_⟩
    refine for_to (I := fun zs l s => s = ⟨none, [.lst (ys.map .int)]⟩ ∧ ∃ (as bs : List Int) (v : Option U), ys = as ++ bs ∧ zs = bs.map .int ∧ l = [some (.ref 0), some (.d (.int b)), some (.d (.int (gs b as))), v]) (fun _ _ _ h => by rw [h.1]; exact chk_one rfl) ?_ ?_ _ _ _ ⟨rfl, [], ys, none, rfl, rfl, rfl⟩
    · rintro x zs l s ⟨rfl, as, bs, v, e1, e2, rfl⟩
      cases bs with
      | nil => cases e2
      | cons c bs =>
        cases e2
        simp
        refine common_to ?_
        exact ⟨as ++ [c], bs, by rw [e1]; simp, rfl, by rw [gs_snoc]⟩
    · rintro l s ⟨rfl, as, bs, v, e1, e2, rfl⟩
      have : bs = [] := by cases bs with | nil => rfl | cons c bs => cases e2
      subst this
      rw [List.append_nil] at e1
      subst e1
      have dv : ∀ t : Int, divC t (gs b ys) = true := fun t => divC_nat hgp trivial
      simp
      refine ⟨_, _, ⟨rfl, rfl⟩, by simpa using hly, ?_⟩
      refine lc_mapA (f := PyData.int) (g := fun t => .int (t.fdiv (gs b ys))) (chk_one rfl) ?_ ?_
      · intro t ht
        simp [wipeL, dv]
      · simp [dv]
        have e : polyD (mk ts b) = .tuple [.tuple (ys.map fun t => PyData.int (t.fdiv (gs b ys))), .int ((b : Int).fdiv (gs b ys))] := by
          rw [← eq]
          unfold polyD mkT
          simp only [List.map_map]
          congr 3
          · refine List.map_congr_left fun t ht => ?_
            show PyData.int (t / (gs b ys : Nat)) = PyData.int (t.fdiv (gs b ys : Nat))
            rw [Int.fdiv_eq_ediv_of_nonneg _ (by omega)]
          · show PyData.int ((b / gs b ys : Nat) : Int) = PyData.int ((b : Int).fdiv (gs b ys : Nat))
            rw [Int.fdiv_eq_ediv_of_nonneg _ (by omega), Int.natCast_ediv]
        rw [e] at h
        exact h
  by_cases hn0 : n = 0
  · subst hn0
    have : us = [] := by rw [hus]; simp
    subst this
    simp at post ⊢
    exact post
  · have hlt : n - 1 < ts.length := by omega
    have e2 : (0 : Int) < n := by omega
    have e3 : idxN ts.length.succ (-1) = some ts.length := by rw [idx_end (by omega)]; rfl
    have gi : ts.getD (n - 1) 0 = ts[n - 1] := by simp [List.getD_eq_getElem?_getD, hlt]
    have hne : us ≠ [] := fun e => by rw [e] at hlen; simp at hlen; omega
    have gi3 : us[n - 1]? = some ts[n - 1] := by rw [hus, List.getElem?_take_of_lt (by omega), List.getElem?_eq_getElem hlt]
    by_cases hz : ts.getD (n - 1) 0 = 0
    · have hz' := hz
      rw [gi] at hz'
      simp [-List.getD_eq_getElem?_getD, hn0, hne, e2, hlen, idx_end (show 0 < n by omega), gi3, hz']
      refine ⟨by omega, n - 1, by omega, ?_, by omega, fun k hk => ?_⟩
      · have : us.dropLast = ts.take (n - 1) := by
          rw [List.dropLast_eq_take, hlen, hus, List.take_take]
          congr 1; omega
        rw [← List.map_take, ← this]; simp
      · by_cases e : k = n - 1
        · subst e; exact hz
        · exact h2 k (by omega)
    · have hz' := hz
      rw [gi] at hz'
      simp at post
      simp [hn0, hne, e2, hlen, idx_end (show 0 < n by omega), gi3, hz']
      exact ⟨by omega, post fun _ => by simpa using hz⟩
theorem all_int {p : Int → Prop} {ys : List PyData} (h : ∀ y, y ∈ ys → ∃ t, y = .int t ∧ p t) : ∃ ts : List Int, ys = ts.map .int ∧ ∀ t, t ∈ ts → p t := by
  induction ys with
  | nil => exact ⟨[], rfl, by simp⟩
  | cons y ys ih =>
    obtain ⟨q, rfl, hq⟩ := h y (by simp)
    obtain ⟨qs, rfl, hqs⟩ := ih fun z hz => h z (by simp [hz])
    refine ⟨q :: qs, rfl, fun r hr => ?_⟩
    rcases List.mem_cons.mp hr with rfl | hr
    · exact hq
    · exact hqs r hr
end NW
namespace NW
open PySem PySem.Spec PyProof.Rows L2
def Pol.one : Pol := ⟨[1], 1, by decide, by simp [Tr], rfl⟩
def Pol.zero : Pol := ⟨[], 1, by decide, trivial, rfl⟩
def Pol.X : Pol := ⟨[0, 1], 1, by decide, by simp [Tr], rfl⟩
theorem ev_one {x : Rat} : Pol.one.ev x = 1 := by simp [Pol.ev, Pol.one, evZ]; grind
theorem ev_zero {x : Rat} : Pol.zero.ev x = 0 := by simp [Pol.ev, Pol.zero, evZ]; grind
theorem ev_X {x : Rat} : Pol.X.ev x = x := by simp [Pol.ev, Pol.X, evZ]; grind
theorem PBt.one : PBt 1 1 Pol.one := ⟨by simp [Pol.one], by decide, by simp [Pol.one]⟩
theorem PBt.zero : PBt 1 1 Pol.zero := ⟨by simp [Pol.zero], by decide, by simp [Pol.zero]⟩
theorem PBt.X : PBt 1 2 Pol.X := ⟨by simp [Pol.X], by decide, by simp [Pol.X]⟩
def Pol.pw (p : Pol) : Nat → Pol
  | 0 => Pol.one
  | k + 1 => p.pw k * p
theorem ev_pw {p : Pol} {x : Rat} : ∀ {k : Nat}, (p.pw k).ev x = p.ev x ^ k
  | 0 => by rw [Pol.pw, ev_one]; grind
  | k + 1 => by rw [Pol.pw, ev_mul, ev_pw]; grind
theorem PBt.pw {n m : Nat} {p : Pol} (h : PBt n m p) : ∀ {k : Nat}, k * m + 1 ≤ 1000 → PBt (k * (n + 10) + 1) (k * m + 1) (p.pw k)
  | 0, _ => PBt.one.mono (by omega) (by omega)
  | k + 1, hk => by
    have e : (k + 1) * m = k * m + m := by rw [Nat.add_mul, Nat.one_mul]
    have e2 : (k + 1) * (n + 10) = k * (n + 10) + (n + 10) := by rw [Nat.add_mul, Nat.one_mul]
    exact ((PBt.pw h (k := k) (by omega)).mul h (by omega)).mono (by omega) (by omega)
theorem power_to {p : Pol} {n m k : Nat} {P : PyData → Prop} (hp : PBt n m p) (hk : k * m + 1 + m ≤ 1000) (hn : k * (n + 10) + 1 + n ≤ 499000) (h : P (polyD (p.pw k))) : (m_power [polyD p, .int k]).To P := by
  unfold m_power
  rw [pure_to]
  unfold b_power
  simp [startL]
  refine ⟨decide_eq_true (by have : k ≤ 499000 := by rcases Nat.eq_zero_or_pos k with h | h; omega; have := Nat.le_mul_of_pos_right k (show 0 < n + 10 by omega); omega
                             omega), ?_⟩
  rw [range_map]
  obtain ⟨I, hI⟩ : ∃ I : Nat → NW.Loc → Sto → Prop, ∀ j l s, I j l s ↔ j ≤ k ∧ ∃ (v : Option U), l = [some (.d (polyD p)), some (.d (.int k)), some (.d (polyD (p.pw j))), v] ∧ s = ⟨none, []⟩ := ⟨_, fun _ _ _ => Iff.rfl⟩
  refine for_ix I (fun _ _ _ _ => chk_nil) ((hI _ _ _).mpr ⟨by omega, none, rfl, rfl⟩) ?_ ?_
  · rintro j x l s hx h
    obtain ⟨hj, v, rfl, rfl⟩ := (hI _ _ _).mp h
    have hx' := (List.getElem?_eq_some_iff.mp hx).1
    simp at hx'
    have e1 : j * m ≤ k * m := Nat.mul_le_mul_right _ hj
    have e2 : j * (n + 10) ≤ k * (n + 10) := Nat.mul_le_mul_right _ hj
    simp
    refine times_to (n := k * (n + 10) + 1 + n) (m := k * m + 1 + m) ((hp.pw (by omega)).mono (by omega) (by omega)) (hp.mono (by omega) (by omega)) (by omega) (by omega) hn ?_
    exact (hI _ _ _).mpr ⟨by omega, _, rfl, rfl⟩
  · intro l s h'
    obtain ⟨hj, v, rfl, rfl⟩ := (hI _ _ _).mp h'
    simp at hj ⊢
    exact h
def hz (b : Nat) (g : Pol) : List Int → Pol
  | [] => Pol.zero
  | t :: ts => hz b g ts * g + mk [t] b
def Pol.comp (f g : Pol) : Pol := hz f.b g f.ts
theorem ev_hz {b : Nat} (hb : 0 < b) {g : Pol} {x : Rat} : ∀ {ts : List Int}, (hz b g ts).ev x = evZ ts (g.ev x) / (b : Int)
  | [] => by rw [hz, ev_zero]; simp [evZ]; grind
  | t :: ts => by
    have hb' : (((b : Int)) : Rat) ≠ 0 := by
      intro e; have := Rat.intCast_eq_zero_iff.mp e; omega
    rw [hz, ev_add, ev_mul, ev_hz hb, ev_mk hb]
    simp only [evZ]
    grind
theorem ev_comp {f g : Pol} {x : Rat} : (f.comp g).ev x = f.ev (g.ev x) := by
  unfold Pol.comp
  rw [ev_hz f.hb]; rfl
theorem hz_sz {b n n2 m : Nat} {g : Pol} (hb : 0 < b) (hbn : b < 2 ^ n) (hg : PBt n2 m g) : ∀ {ts : List Int}, (∀ t, t ∈ ts → t.natAbs < 2 ^ n) → ts.length * m + 1 ≤ 1000 → PBt (ts.length * (n + n2 + 11) + 1) (ts.length * m + 1) (hz b g ts)
  | [], _, _ => by simpa [hz] using PBt.zero
  | t :: ts, ht, hl => by
    rw [List.length_cons] at hl ⊢
    have e : (ts.length + 1) * m = ts.length * m + m := by rw [Nat.add_mul, Nat.one_mul]
    have e2 : (ts.length + 1) * (n + n2 + 11) = ts.length * (n + n2 + 11) + (n + n2 + 11) := by rw [Nat.add_mul, Nat.one_mul]
    have ih := hz_sz hb hbn hg (ts := ts) (fun u hu => ht u (by simp [hu])) (by omega)
    have h1 := ih.mul hg (by omega)
    have h2 : PBt n (ts.length * m + 1 + m) (mk [t] b) := PBt.mk hb (by simp; omega) hbn (by simpa using ht t (by simp))
    exact (h1.add h2).mono (by omega) (by omega)
theorem PBt.comp {n n2 m1 m : Nat} {f g : Pol} (hf : PBt n m1 f) (hg : PBt n2 m g) (hl : m1 * m + 1 ≤ 1000) : PBt (m1 * (n + n2 + 11) + 1) (m1 * m + 1) (f.comp g) := by
  have h1 : f.ts.length * m ≤ m1 * m := Nat.mul_le_mul_right _ hf.1
  have h2 : f.ts.length * (n + n2 + 11) ≤ m1 * (n + n2 + 11) := Nat.mul_le_mul_right _ hf.1
  exact (hz_sz f.hb hf.2.1 hg hf.2.2 (by omega)).mono (by omega) (by omega)
theorem rev_get {α : Type} {xs : List α} {k : Nat} {x : α} (h : xs.reverse[k]? = some x) : ∃ as bs, xs = as ++ x :: bs ∧ bs.length = k := by
  have hk : k < xs.length := by simpa using (List.getElem?_eq_some_iff.mp h).1
  rw [List.getElem?_reverse hk] at h
  refine ⟨xs.take (xs.length - 1 - k), xs.drop (xs.length - 1 - k + 1), ?_, by simp; omega⟩
  have h1 : xs.length - 1 - k < xs.length := by omega
  rw [List.getElem?_eq_getElem h1] at h
  cases h
  rw [List.getElem_cons_drop, List.take_append_drop]
theorem for_rev {d : ItD} {t : MT} {b : MS} {N : Loc → Sto → Prop} {R : U → Sto → Prop} (I : List Int → Loc → Sto → Prop) {ts : List Int} {l : Loc} {st : Sto} (hk : ∀ us l st, I us l st → d.chk st) (start : I [] l st)
    (step : ∀ as u us l st, ts = as ++ u :: us → I us l st → (t (.d (.int u)) l st).To fun l s => (b l s).To (I (u :: us)) R) (fin : ∀ l st, I ts l st → N l st) : (forM d t b (ts.map PyData.int).reverse l st).To N R := by
  refine for_ix (fun k l s => ∃ as us, ts = as ++ us ∧ us.length = k ∧ I us l s) (fun k l s h => by obtain ⟨_, _, _, _, h⟩ := h; exact hk _ _ _ h) ⟨ts, [], by simp, rfl, start⟩ ?_ ?_
  · rintro k x l s hx ⟨as, us, e, rfl, h⟩
    rw [← List.map_reverse, List.getElem?_map] at hx
    cases e2 : ts.reverse[us.length]? with
    | none => rw [e2] at hx; cases hx
    | some u =>
      rw [e2] at hx; cases hx
      obtain ⟨as', bs, e3, e4⟩ := rev_get e2
      have : as' ++ u :: bs = (as' ++ [u]) ++ bs := by simp
      have e5 : (as' ++ [u]) ++ bs = as ++ us := by rw [← this, ← e3, e]
      obtain ⟨_, e6⟩ := List.append_inj' e5 e4
      subst e6
      refine (step as' u bs l s e3 h).mono ?_
      intro l1 s1 h1
      exact h1.mono (fun l2 s2 h2 => ⟨as', u :: bs, e3, rfl, h2⟩) (fun _ _ z => z)
  · rintro l s ⟨as, us, e, hl, h⟩
    have : as = [] := by
      have := congrArg List.length e
      simp at this hl
      exact List.eq_nil_of_length_eq_zero (by omega)
    subst this
    have e' : ts = us := e
    subst e'
    exact fin _ _ h
theorem FB.mul2 {p q : Rat} {a b : Nat} (hp : FB a p) (hq : FB b q) : FB (a + b) (p * q) := by
  rw [← mul_divInt]
  exact FB.of_divInt (Int.mul_ne_zero (den_ne p) (den_ne q)) (by rw [Int.natAbs_mul, Nat.pow_add]; exact Nat.mul_lt_mul'' hp.1 hq.1) (by rw [Int.natAbs_mul, Nat.pow_add]; exact Nat.mul_lt_mul'' hp.2 hq.2)
theorem FB.div2 {p q : Rat} {a b : Nat} (hp : FB a p) (hq : FB b q) (hz : q ≠ 0) : FB (a + b) (p / q) := by
  have hz' : q.num ≠ 0 := fun e => hz (Rat.num_eq_zero.mp e)
  rw [← div_divInt]
  exact FB.of_divInt (Int.mul_ne_zero (den_ne p) hz') (by rw [Int.natAbs_mul, Nat.pow_add]; exact Nat.mul_lt_mul'' hp.1 hq.2) (by rw [Int.natAbs_mul, Nat.pow_add]; exact Nat.mul_lt_mul'' hp.2 hq.1)
theorem FB.add2 {p q : Rat} {a b : Nat} (hp : FB a p) (hq : FB b q) : FB (a + b + 1) (p + q) := by
  rw [← add_divInt]
  have hpw : 2 ^ (a + b + 1) = 2 ^ a * 2 ^ b + 2 ^ a * 2 ^ b := by rw [Nat.pow_succ, Nat.pow_add]; omega
  have e1 : (p.num * q.den).natAbs < 2 ^ a * 2 ^ b := by rw [Int.natAbs_mul]; exact Nat.mul_lt_mul'' hp.1 hq.2
  have e2 : (q.num * p.den).natAbs < 2 ^ a * 2 ^ b := by rw [Int.natAbs_mul, Nat.mul_comm]; exact Nat.mul_lt_mul'' hp.2 hq.1
  have e3 : ((p.den : Int) * q.den).natAbs < 2 ^ a * 2 ^ b := by rw [Int.natAbs_mul]; exact Nat.mul_lt_mul'' hp.2 hq.2
  refine FB.of_divInt (Int.mul_ne_zero (den_ne p) (den_ne q)) ?_ (by omega)
  omega
theorem FB.sub2 {p q : Rat} {a b : Nat} (hp : FB a p) (hq : FB b q) : FB (a + b + 1) (p - q) := by
  rw [Rat.sub_eq_add_neg]; exact hp.add2 hq.neg
theorem FB.int {n : Nat} {t : Int} (h : t.natAbs < 2 ^ n) (h0 : 0 < n) : FB n (t : Rat) := ⟨h, by have : 2 ≤ 2 ^ n := Nat.le_self_pow (by omega) 2; show 1 < 2 ^ n; omega⟩
theorem fracD_int {t : Int} : PyData.tuple [.int t, .int 1] = fracD (t : Rat) := rfl
end NW
namespace NW
open PySem PySem.Spec PyProof.Rows L2
instance : Sub Pol := ⟨fun p q => p + q.sc (-1)⟩
theorem ev_sub {p q : Pol} {x : Rat} : (p - q).ev x = p.ev x - q.ev x := by
  show (p + q.sc (-1)).ev x = _
  rw [ev_add, ev_sc]; grind
theorem co_sub {p q : Pol} {k : Nat} : (p - q).co k = p.co k - q.co k := by
  show (p + q.sc (-1)).co k = _
  rw [co_add, co_sc]; grind
theorem FB_m1 : FB 1 (-1) := ⟨by decide, by decide⟩
theorem PBt.sub {n1 n2 m : Nat} {p q : Pol} (hp : PBt n1 m p) (hq : PBt n2 m q) : PBt (n1 + n2 + 2) m (p - q) := (hp.add (hq.sc FB_m1)).mono (by omega) (by omega)
theorem fracD_m1 : PyData.tuple [.int (-1), .int 1] = fracD (-1) := rfl
theorem fracD_0 : PyData.tuple [.int 0, .int 1] = fracD 0 := rfl
theorem minusx {p q : Pol} {n n2 m : Nat} {P : PyData → Prop} (hp : PBt n m p) (hq : PBt n2 m q) (hm : m ≤ 1000) (hn : n + n2 + 1 ≤ 999990) (h : P (polyD (p - q))) : (m_minus [polyD p, polyD q]).To P := by
  unfold m_minus
  rw [pure_to]
  unfold b_minus
  simp [startL]
  rw [fracD_m1]
  refine scaledx hq FB_m1 hm (by omega) ?_
  refine plusx hp (hq.sc FB_m1) hm (by omega) ?_
  exact h
theorem polyD_zero : PyData.tuple [.tuple [], .int 1] = polyD Pol.zero := rfl
theorem polyD_one : PyData.tuple [.tuple [.int 1], .int 1] = polyD Pol.one := rfl
theorem polyD_X : PyData.tuple [.tuple [.int 0, .int 1], .int 1] = polyD Pol.X := rfl
theorem co_zero_of {p : Pol} {k : Nat} (h : p.ts.length ≤ k) : p.co k = 0 := by
  unfold Pol.co
  rw [List.getD_eq_getElem?_getD, List.getElem?_eq_none h]; simp
@[simp] theorem ex_src {α β : Type} {A : α} {B : β} {C : α → β → Prop} : (∃ xs own, (A = xs ∧ own = B) ∧ C xs own) ↔ C A B := ⟨fun ⟨_, _, ⟨rfl, rfl⟩, h⟩ => h, fun h => ⟨_, _, ⟨rfl, rfl⟩, h⟩⟩
end NW
namespace NW
open PySem PySem.Spec PyProof.Rows L2
def smI : Nat → (Nat → Int) → Int
  | 0, _ => 0
  | n + 1, f => smI n f + f n
def sm : Nat → (Nat → Rat) → Rat
  | 0, _ => 0
  | n + 1, f => sm n f + f n
theorem smI_succ {f : Nat → Int} : ∀ {n : Nat}, smI (n + 1) f = f 0 + smI n fun k => f (k + 1)
  | 0 => by simp [smI]
  | n + 1 => by rw [smI, smI_succ, smI]; omega
theorem sm_succ {f : Nat → Rat} : ∀ {n : Nat}, sm (n + 1) f = f 0 + sm n fun k => f (k + 1)
  | 0 => by simp [sm]; grind
  | n + 1 => by rw [sm, sm_succ, sm]; grind
theorem smI_cast {f : Nat → Int} : ∀ {n : Nat}, ((smI n f : Int) : Rat) = sm n fun k => (f k : Rat)
  | 0 => by simp [smI, sm]
  | n + 1 => by rw [smI, sm, Rat.intCast_add, smI_cast]
theorem sm_mul {c : Rat} {f : Nat → Rat} : ∀ {n : Nat}, sm n (fun k => c * f k) = c * sm n f
  | 0 => by simp [sm]
  | n + 1 => by rw [sm, sm_mul, sm]; grind
theorem sm_congr {f g : Nat → Rat} : ∀ {n : Nat}, (∀ k, k < n → f k = g k) → sm n f = sm n g
  | 0, _ => rfl
  | n + 1, h => by rw [sm, sm, sm_congr fun k hk => h k (by omega), h n (by omega)]
theorem sm_zero {f : Nat → Rat} {n : Nat} (h : ∀ k, k < n → f k = 0) : sm n f = 0 := by
  induction n with
  | zero => rfl
  | succ n ih => rw [sm, ih fun k hk => h k (by omega), h n (by omega)]; grind
theorem smI_zero {f : Nat → Int} {n : Nat} (h : ∀ k, k < n → f k = 0) : smI n f = 0 := by
  induction n with
  | zero => rfl
  | succ n ih => rw [smI, ih fun k hk => h k (by omega), h n (by omega)]; rfl
theorem sm_add {f g : Nat → Rat} : ∀ {n : Nat}, sm n (fun k => f k + g k) = sm n f + sm n g
  | 0 => by simp [sm]; grind
  | n + 1 => by rw [sm, sm, sm, sm_add]; grind
theorem addZ_get : ∀ {ts us : List Int} {k : Nat}, (addZ ts us).getD k 0 = ts.getD k 0 + us.getD k 0
  | [], us, k => by simp [addZ]
  | t :: ts, [], k => by simp [addZ]
  | t :: ts, u :: us, 0 => by simp [addZ]
  | t :: ts, u :: us, k + 1 => by
    have := addZ_get (ts := ts) (us := us) (k := k)
    simpa [addZ] using this
theorem mulZ_get : ∀ {ts us : List Int} {k : Nat}, (mulZ ts us).getD k 0 = smI (k + 1) fun j => ts.getD j 0 * us.getD (k - j) 0
  | [], us, k => by rw [mulZ, smI_zero fun j _ => by simp]; simp
  | t :: ts, us, 0 => by rw [mulZ, addZ_get, getD_map (by simp)]; simp [smI]
  | t :: ts, us, k + 1 => by
    rw [mulZ, addZ_get, getD_map (by simp), List.getD_cons_succ, mulZ_get]
    conv => rhs; rw [smI_succ]
    simp only [List.getD_cons_zero, List.getD_cons_succ, Nat.sub_zero, Nat.add_sub_add_right]
theorem co_mul {p q : Pol} {k : Nat} : (p * q).co k = sm (k + 1) fun j => p.co j * q.co (k - j) := by
  show (mk (mulZ p.ts q.ts) (p.b * q.b)).co k = _
  have a := p.bne
  have b := q.bne
  rw [co_mk (Nat.mul_pos p.hb q.hb), mulZ_get, divInt_div, smI_cast, Int.natCast_mul, Rat.intCast_mul]
  have : ∀ x : Rat, x / (((p.b : Int) : Rat) * ((q.b : Int) : Rat)) = (1 / (((p.b : Int) : Rat) * ((q.b : Int) : Rat))) * x := fun x => by grind
  rw [this, ← sm_mul]
  refine sm_congr fun j _ => ?_
  unfold Pol.co
  rw [divInt_div, divInt_div, Rat.intCast_mul]
  grind
theorem len_le {p : Pol} {m : Nat} (h : ∀ k, m ≤ k → p.co k = 0) : p.ts.length ≤ m := by
  by_cases hl : p.ts.length ≤ m
  · exact hl
  · exfalso
    have hn : p.ts ≠ [] := fun e => by rw [e] at hl; simp at hl
    have hb := p.hb
    have e := h (p.ts.length - 1) (by omega)
    unfold Pol.co at e
    have e2 : Rat.divInt (p.ts.getD (p.ts.length - 1) 0) p.b = Rat.divInt 0 1 := by rw [e, Rat.zero_divInt]
    have := (Rat.divInt_eq_divInt_iff (by omega) (by omega)).mp e2
    exact tr_get p.ht hn (by omega)
theorem co_lead {p : Pol} (h : p.ts ≠ []) : p.co (p.ts.length - 1) ≠ 0 := by
  have hb := p.hb
  intro e
  unfold Pol.co at e
  have e2 : Rat.divInt (p.ts.getD (p.ts.length - 1) 0) p.b = Rat.divInt 0 1 := by rw [e, Rat.zero_divInt]
  have := (Rat.divInt_eq_divInt_iff (by omega) (by omega)).mp e2
  exact tr_get p.ht h (by omega)
theorem mul_len {p q : Pol} : (p * q).ts.length ≤ p.ts.length + q.ts.length - 1 := len_le fun k hk => by
  rw [co_mul]
  refine sm_zero fun j hj => ?_
  by_cases h : p.ts.length ≤ j
  · rw [co_zero_of h]; simp
  · rw [co_zero_of (p := q) (k := k - j) (by omega)]; simp
theorem pw_len {p : Pol} : ∀ {k : Nat}, (p.pw k).ts.length ≤ k * (p.ts.length - 1) + 1
  | 0 => by simp [Pol.pw, Pol.one]
  | k + 1 => by
    rw [Pol.pw, Nat.add_mul, Nat.one_mul]
    have := mul_len (p := p.pw k) (q := p)
    have := pw_len (p := p) (k := k)
    omega
end NW
namespace NW
open PySem PySem.Spec PyProof.Rows L2
theorem sm_single {f : Nat → Rat} : ∀ {n c : Nat}, c < n → (∀ j, j < n → j ≠ c → f j = 0) → sm n f = f c
  | 0, c, h, _ => by omega
  | n + 1, c, h, k => by
    rw [sm]
    by_cases e : c = n
    · subst e
      rw [sm_zero fun j hj => k j (by omega) (by omega)]
      grind
    · rw [sm_single (n := n) (c := c) (by omega) fun j hj ne => k j (by omega) ne, k n (by omega) (by omega)]
      grind
theorem sm_lin {f g h : Nat → Rat} {c : Rat} : ∀ {n : Nat}, sm n (fun r => (f r - c * g r) * h r) = sm n (fun r => f r * h r) - c * sm n (fun r => g r * h r)
  | 0 => by simp only [sm]; grind
  | n + 1 => by rw [sm, sm, sm, sm_lin]; grind
structure Lin (n m : Nat) (M A : Nat → Nat → Rat) (D : List (Nat × Nat)) (t : Nat) : Prop where
  comb : ∀ i, i < n → ∀ j, j ≤ m → A i j = sm n fun r => A i (m + 1 + r) * M r j
  back : ∀ x : Nat → Rat, (∀ i, i < n → sm m (fun j => A i j * x j) = A i m) → ∀ i, i < n → sm m (fun j => M i j * x j) = M i m
  one : ∀ k c, (k, c) ∈ D → k < n ∧ c < t ∧ A k c = 1 ∧ ∀ j, j < n → j ≠ k → A j c = 0
  rest : ∀ c, c < t → (∃ k, (k, c) ∈ D) ∨ ∀ i, i < n → (∀ c', (i, c') ∉ D) → A i c = 0
  nd : ∀ k c c', (k, c) ∈ D → (k, c') ∈ D → c = c'
def clr (A : Nat → Nat → Rat) (k t : Nat) : Nat → Nat → Rat := fun i j => if i = k then A k j / A k t else A i j - A i t * (A k j / A k t)
theorem clr_k {A : Nat → Nat → Rat} {k t j : Nat} : clr A k t k j = A k j / A k t := if_pos rfl
theorem clr_n {A : Nat → Nat → Rat} {k t i j : Nat} (h : i ≠ k) : clr A k t i j = A i j - A i t * (A k j / A k t) := if_neg h
def aug (m : Nat) (M : Nat → Nat → Rat) : Nat → Nat → Rat := fun i j => if j ≤ m then M i j else if j = m + 1 + i then 1 else 0
section
variable {n m t k : Nat} {M A : Nat → Nat → Rat} {D : List (Nat × Nat)}
theorem Lin.init : Lin n m M (aug m M) [] 0 := by
  refine ⟨fun i hi j hj => ?_, fun x h i hi => ?_, fun k c h => by simp at h, fun c h => by omega, fun k c c' h => by simp at h⟩
  · rw [sm_single (c := i) hi fun r hr ne => ?_]
    · unfold aug
      rw [if_pos hj, if_neg (by omega), if_pos rfl]
      grind
    · unfold aug
      rw [if_neg (by omega), if_neg (by omega)]
      grind
  · have := h i hi
    unfold aug at this
    rw [if_pos (Nat.le_refl m)] at this
    rw [← this]
    exact sm_congr fun j hj => by rw [if_pos (by omega)]
theorem Lin.zero (L : Lin n m M A D t) (hk : k < n) (nk : ∀ c, (k, c) ∉ D) {c : Nat} (hc : c < t) : A k c = 0 := by
  rcases L.rest c hc with ⟨k', h⟩ | h
  · exact (L.one k' c h).2.2.2 k hk fun e => nk c (e ▸ h)
  · exact h k hk nk
theorem Lin.skip (L : Lin n m M A D t) (h : ∀ i, i < n → (∀ c, (i, c) ∉ D) → A i t = 0) : Lin n m M A D (t + 1) := by
  refine ⟨L.comb, L.back, fun k c hc => ?_, fun c hc => ?_, L.nd⟩
  · obtain ⟨h1, h2, h3⟩ := L.one k c hc
    exact ⟨h1, by omega, h3⟩
  · by_cases e : c = t
    · subst e; exact .inr h
    · exact L.rest c (by omega)
theorem Lin.step (L : Lin n m M A D t) (ht : t < m) (hk : k < n) (nk : ∀ c, (k, c) ∉ D) (hp : A k t ≠ 0) : Lin n m M (clr A k t) (D ++ [(k, t)]) (t + 1) := by
  have hz : ∀ c, c < t → A k c = 0 := fun c hc => L.zero hk nk hc
  refine ⟨fun i hi j hj => ?_, fun x h => ?_, fun k' c hc => ?_, fun c hc => ?_, fun k' c c' h h' => ?_⟩
  · have ck := L.comb k hk j hj
    unfold clr
    by_cases e : i = k
    · simp only [if_pos e]
      have : (sm n fun r => A k (m + 1 + r) / A k t * M r j) = (1 / A k t) * sm n (fun r => A k (m + 1 + r) * M r j) := by
        rw [← sm_mul]
        exact sm_congr fun r _ => by grind
      rw [this, ← ck]
      grind
    · simp only [if_neg e]
      have ci := L.comb i hi j hj
      have : (sm n fun r => (A i (m + 1 + r) - A i t * (A k (m + 1 + r) / A k t)) * M r j) = sm n (fun r => A i (m + 1 + r) * M r j) - (A i t / A k t) * sm n (fun r => A k (m + 1 + r) * M r j) := by
        rw [← sm_lin]
        exact sm_congr fun r _ => by grind
      rw [this, ← ck, ← ci]
      grind
  · refine L.back x fun i hi => ?_
    have hkk := h k hk
    simp only [clr_k] at hkk
    have e1 : (sm m fun j => A k j / A k t * x j) = (1 / A k t) * sm m (fun j => A k j * x j) := by
      rw [← sm_mul]
      exact sm_congr fun r _ => by grind
    rw [e1] at hkk
    have hk' : sm m (fun j => A k j * x j) = A k m := by
      have : A k t * (1 / A k t * sm m (fun j => A k j * x j)) = A k t * (A k m / A k t) := by rw [hkk]
      grind
    by_cases e : i = k
    · rw [e]; exact hk'
    · have hii := h i hi
      simp only [clr_n e] at hii
      have e2 : (sm m fun j => (A i j - A i t * (A k j / A k t)) * x j) = sm m (fun j => A i j * x j) - (A i t / A k t) * sm m (fun j => A k j * x j) := by
        rw [← sm_lin]
        exact sm_congr fun r _ => by grind
      rw [e2, hk'] at hii
      grind
  · rcases List.mem_append.mp hc with hc | hc
    · obtain ⟨h1, h2, h3, h4⟩ := L.one k' c hc
      have ne : k' ≠ k := fun e => nk c (e ▸ hc)
      refine ⟨h1, by omega, ?_, fun j hj nj => ?_⟩
      · unfold clr
        rw [if_neg ne, hz c h2, h3]
        grind
      · unfold clr
        split
        · rw [hz c h2]; grind
        · rw [hz c h2, h4 j hj nj]; grind
    · simp at hc
      obtain ⟨rfl, rfl⟩ := hc
      refine ⟨hk, by omega, ?_, fun j hj nj => ?_⟩
      · unfold clr
        rw [if_pos rfl]
        grind
      · unfold clr
        rw [if_neg nj]
        grind
  · by_cases e : c = t
    · subst e; exact .inl ⟨k, by simp⟩
    · rcases L.rest c (by omega) with ⟨k', h⟩ | h
      · exact .inl ⟨k', by simp [h]⟩
      · refine .inr fun i hi ni => ?_
        have ni' : ∀ c', (i, c') ∉ D := fun c' z => ni c' (by simp [z])
        have ne : i ≠ k := fun z => ni t (by simp [z])
        unfold clr
        rw [if_neg ne, h i hi ni', hz c (by omega)]
        grind
  · rcases List.mem_append.mp h with h | h <;> rcases List.mem_append.mp h' with h' | h'
    · exact L.nd k' c c' h h'
    · simp at h'; exact absurd (h'.1 ▸ h) (nk c)
    · simp at h; exact absurd (h.1 ▸ h') (nk c')
    · simp at h h'; rw [h.2, h'.2]
theorem Lin.weights (L : Lin n m M A D m) (hk : k < n) (nk : ∀ c, (k, c) ∉ D) (h : A k m ≠ 0) : (∀ j, j < m → sm n (fun r => A k (m + 1 + r) * M r j) = 0) ∧ sm n (fun r => A k (m + 1 + r) * M r m) ≠ 0 := by
  refine ⟨fun j hj => ?_, ?_⟩
  · rw [← L.comb k hk j (by omega)]
    exact L.zero hk nk hj
  · rw [← L.comb k hk m (Nat.le_refl m)]
    exact h
theorem Lin.numbers (L : Lin n m M A D m) (h : ∀ k, k < n → (∀ c, (k, c) ∉ D) → A k m = 0) {x : Nat → Rat} (hx : ∀ k c, (k, c) ∈ D → x c = A k m) (hx0 : ∀ c, c < m → (∀ k, (k, c) ∉ D) → x c = 0) : ∀ i, i < n → sm m (fun j => M i j * x j) = M i m := by
  refine L.back x fun i hi => ?_
  by_cases hd : ∃ c, (i, c) ∈ D
  · obtain ⟨c, hc⟩ := hd
    obtain ⟨h1, h2, h3, h4⟩ := L.one i c hc
    rw [sm_single (c := c) h2 fun j hj ne => ?_]
    · rw [h3, hx i c hc]; grind
    · by_cases hd2 : ∃ k, (k, j) ∈ D
      · obtain ⟨k', hk'⟩ := hd2
        have ne2 : i ≠ k' := fun z => ne (L.nd i j c (z ▸ hk') hc)
        rw [(L.one k' j hk').2.2.2 i hi ne2]
        grind
      · rw [hx0 j hj fun k z => hd2 ⟨k, z⟩]
        grind
  · have ni : ∀ c, (i, c) ∉ D := fun c z => hd ⟨c, z⟩
    rw [sm_zero fun j hj => by rw [L.zero hi ni hj]; grind, h i hi ni]
end
end NW
namespace NW
open PySem PySem.Spec PyProof.Rows L2
theorem L_timesx {p q : Pol} {n n2 m m2 : Nat} {P : PyData → Prop} (hp : PBt n m p) (hq : PBt n2 m2 q) (hm : m ≤ 1000) (hm2 : m2 ≤ 1000) (hn : n + n2 ≤ 999990) (hP : P (polyD (p * q))) : (m_L_times [polyD p, polyD q]).To P := by
  unfold m_L_times
  rw [pure_to]
  unfold b_L_times
  have hpl := hp.1
  have hql := hq.1
  simp [startL]
  generalize hM : p.ts.length + q.ts.length = M
  have eM : (p.ts.length : Int) + q.ts.length = (M : Int) := by omega
  rw [eM]
  refine ⟨by omega, ?_⟩
  obtain ⟨I, hI⟩ : ∃ I : Nat → NW.Loc → Sto → Prop, ∀ k l s, I k l s ↔ ∃ (L : List Int) (v w a b : Option U), l = [some (.d (polyD p)), some (.d (polyD q)), some (.ref 0), v, w, a, b] ∧ s = ⟨none, [.lst (L.map .int)]⟩ ∧ L.length = M ∧ ∀ x, evZ L x = evZ (p.ts.take k) x * evZ q.ts x := ⟨_, fun _ _ _ => Iff.rfl⟩
  refine for_ix I (fun _ _ _ _ => chk_nil) ((hI _ _ _).mpr ⟨List.replicate M 0, none, none, none, none, rfl, by simp, by simp, fun x => by rw [evZ_zero]; simp [evZ]⟩) ?_ ?_
  · rintro k x l s hx h
    obtain ⟨L, v, w, a, b, rfl, rfl, hL, hg⟩ := (hI _ _ _).mp h
    obtain ⟨t, ht, rfl⟩ := enum_int hx
    have hk : k < p.ts.length := (List.getElem?_eq_some_iff.mp ht).1
    have htb := hp.2.2 t (List.mem_of_getElem? ht)
    simp
    obtain ⟨J, hJ⟩ : ∃ J : Nat → NW.Loc → Sto → Prop, ∀ j l s, J j l s ↔ ∃ (L : List Int) (a b : Option U), l = [some (.d (polyD p)), some (.d (polyD q)), some (.ref 0), some (.d (.int (k : Nat))), some (.d (.int t)), a, b] ∧ s = ⟨none, [.lst (L.map .int)]⟩ ∧ L.length = M ∧ ∀ x, evZ L x = evZ (p.ts.take k) x * evZ q.ts x + t * x ^ k * evZ (q.ts.take j) x := ⟨_, fun _ _ _ => Iff.rfl⟩
    refine for_ix J (fun _ _ _ _ => chk_nil) ((hJ _ _ _).mpr ⟨L, a, b, rfl, rfl, hL, fun x => by rw [hg x]; simp [evZ]; grind⟩) ?_ ?_
    · rintro j y l s hy h
      obtain ⟨L, a, b, rfl, rfl, hL, hg⟩ := (hJ _ _ _).mp h
      obtain ⟨u, hu, rfl⟩ := enum_int hy
      have hj : j < q.ts.length := (List.getElem?_eq_some_iff.mp hu).1
      have mc : mulC t u = true := mx htb (hq.2.2 u (List.mem_of_getElem? hu)) hn
      obtain ⟨i, hi⟩ : ∃ i, i = k + j := ⟨_, rfl⟩
      have hkM : i < L.length := by omega
      have e1 : (k : Int) + j = (i : Int) := by omega
      simp [mc, e1, idxN_nat hkM, hkM]
      refine (hJ _ _ _).mpr ⟨L.set i (L[i] + t * u), _, _, rfl, by rw [map_set], by simpa using hL, fun x => ?_⟩
      rw [evZ_set (by simp [hkM]), hg x, evZ_take hu, Rat.intCast_mul, hi]
      grind
    · intro l s h
      obtain ⟨L, a, b, rfl, rfl, hL, hg⟩ := (hJ _ _ _).mp h
      refine (hI _ _ _).mpr ⟨L, _, _, _, _, rfl, rfl, hL, fun x => ?_⟩
      have : (enumD (q.ts.map PyData.int)).length = q.ts.length := by simp [enumD]
      rw [hg x, evZ_take ht, this, List.take_length]
      grind
  · intro l s h
    obtain ⟨L, v, w, a, b, rfl, rfl, hL, hg⟩ := (hI _ _ _).mp h
    have mc : mulC p.b q.b = true := mx (a := n) (b := n2) (by simpa using hp.2.1) (by simpa using hq.2.1) hn
    have hbb : True := trivial
    simp [mc]
    have e := L_poly_to (S := .list (L.map .int)) (ts := L) (b := p.b * q.b) (P := fun d => noLst d = true ∧ P d) (.inl rfl) (Nat.mul_pos p.hb q.hb) hbb (by omega) ?_
    · rw [Int.natCast_mul] at e; exact e
    · refine ⟨noLst_poly, ?_⟩
      have el : (enumD (p.ts.map PyData.int)).length = p.ts.length := by simp [enumD]
      have ee : NW.mk L (p.b * q.b) = p * q := mk_ext (Nat.mul_pos p.hb q.hb) (Nat.mul_pos p.hb q.hb) fun x => by rw [hg x, el, List.take_length, evZ_mulZ]
      rw [ee]; exact hP
theorem L_sumx {p q : Pol} {n n2 m : Nat} {P : PyData → Prop} (hp : PBt n m p) (hq : PBt n2 m q) (hm : m ≤ 1000) (hn : n + n2 ≤ 999990) (hP : P (polyD (p + q))) : (m_L_sum [polyD p, polyD q]).To P := by
  unfold m_L_sum
  rw [pure_to]
  unfold b_L_sum
  have hpl := hp.1
  have hql := hq.1
  simp [startL]
  have eM : (if p.ts.length < q.ts.length then (q.ts.length : Int) else (p.ts.length : Int)) = ((max p.ts.length q.ts.length : Nat) : Int) := by
    split <;> omega
  rw [eM]
  generalize hM : max p.ts.length q.ts.length = M
  have hM1 : p.ts.length ≤ M := by omega
  have hM2 : q.ts.length ≤ M := by omega
  refine ⟨by omega, ?_⟩
  obtain ⟨I, hI⟩ : ∃ I : Nat → NW.Loc → Sto → Prop, ∀ k l s, I k l s ↔ ∃ (L : List Int) (v w : Option U), l = [some (.d (polyD p)), some (.d (polyD q)), some (.d (.int M)), some (.ref 0), v, w] ∧ s = ⟨none, [.lst (L.map .int)]⟩ ∧ L.length = M ∧ ∀ x, evZ L x = evZ (p.ts.take k) x * (q.b : Int) := ⟨_, fun _ _ _ => Iff.rfl⟩
  refine for_ix I (fun _ _ _ _ => chk_nil) ((hI _ _ _).mpr ⟨List.replicate M 0, none, none, rfl, by simp, by simp, fun x => by rw [evZ_zero]; simp [evZ]⟩) ?_ ?_
  · rintro k x l s hx h
    obtain ⟨L, v, w, rfl, rfl, hL, hg⟩ := (hI _ _ _).mp h
    obtain ⟨t, ht, rfl⟩ := enum_int hx
    have hk : k < p.ts.length := (List.getElem?_eq_some_iff.mp ht).1
    have mc : mulC t q.b = true := mx (hp.2.2 t (List.mem_of_getElem? ht)) (by simpa using hq.2.1) hn
    have hkM : k < L.length := by omega
    simp [mc, idxN_nat hkM, hkM]
    refine (hI _ _ _).mpr ⟨L.set k (L[k] + t * q.b), _, _, rfl, by rw [map_set], by simpa using hL, fun x => ?_⟩
    rw [evZ_set (by simp [hkM]), hg x, evZ_take ht, Rat.intCast_mul]
    grind
  · intro l s h
    obtain ⟨L, v, w, rfl, rfl, hL, hg⟩ := (hI _ _ _).mp h
    have el : (enumD (p.ts.map PyData.int)).length = p.ts.length := by simp [enumD]
    rw [el, List.take_length] at hg
    clear h
    simp
    obtain ⟨J, hJ⟩ : ∃ J : Nat → NW.Loc → Sto → Prop, ∀ k l s, J k l s ↔ ∃ (L : List Int) (v w : Option U), l = [some (.d (polyD p)), some (.d (polyD q)), some (.d (.int M)), some (.ref 0), v, w] ∧ s = ⟨none, [.lst (L.map .int)]⟩ ∧ L.length = M ∧ ∀ x, evZ L x = evZ p.ts x * (q.b : Int) + evZ (q.ts.take k) x * (p.b : Int) := ⟨_, fun _ _ _ => Iff.rfl⟩
    refine for_ix J (fun _ _ _ _ => chk_nil) ((hJ _ _ _).mpr ⟨L, v, w, rfl, rfl, hL, fun x => by rw [hg x]; simp [evZ]; grind⟩) ?_ ?_
    · rintro k x l s hx h
      obtain ⟨L, v, w, rfl, rfl, hL, hg⟩ := (hJ _ _ _).mp h
      obtain ⟨t, ht, rfl⟩ := enum_int hx
      have hk : k < q.ts.length := (List.getElem?_eq_some_iff.mp ht).1
      have mc : mulC t p.b = true := mx (hq.2.2 t (List.mem_of_getElem? ht)) (by simpa using hp.2.1) (by omega)
      have hkM : k < L.length := by omega
      simp [mc, idxN_nat hkM, hkM]
      refine (hJ _ _ _).mpr ⟨L.set k (L[k] + t * p.b), _, _, rfl, by rw [map_set], by simpa using hL, fun x => ?_⟩
      rw [evZ_set (by simp [hkM]), hg x, evZ_take ht, Rat.intCast_mul]
      grind
    · intro l s h
      obtain ⟨L, v, w, rfl, rfl, hL, hg⟩ := (hJ _ _ _).mp h
      have el : (enumD (q.ts.map PyData.int)).length = q.ts.length := by simp [enumD]
      rw [el, List.take_length] at hg
      have mc : mulC p.b q.b = true := mx (a := n) (b := n2) (by simpa using hp.2.1) (by simpa using hq.2.1) hn
      have hbb : True := trivial
      simp [mc]
      have e := L_poly_to (S := .list (L.map .int)) (ts := L) (b := p.b * q.b) (P := fun d => noLst d = true ∧ P d) (.inl rfl) (Nat.mul_pos p.hb q.hb) hbb (by omega) ?_
      · rw [Int.natCast_mul] at e; exact e
      · refine ⟨noLst_poly, ?_⟩
        have ee : NW.mk L (p.b * q.b) = p + q := Pol.ext_ev fun x => by
          rw [ev_mk (Nat.mul_pos p.hb q.hb), ev_add, hg x, Int.natCast_mul, Rat.intCast_mul]
          unfold Pol.ev
          have := p.bne
          have := q.bne
          grind
        rw [ee]; exact hP
theorem add_len {p q : Pol} : (p + q).ts.length ≤ max p.ts.length q.ts.length := len_le fun k hk => by
  rw [co_add, co_zero_of (p := p) (by omega), co_zero_of (p := q) (by omega)]; grind
theorem mk_len {ts : List Int} {b : Nat} : (mk ts b).ts.length ≤ ts.length := by
  unfold mk
  split
  · simp [mkT]; omega
  · simp
theorem hz_len {b : Nat} (hb : 0 < b) {g : Pol} : ∀ {ts : List Int}, (hz b g ts).ts.length ≤ (ts.length - 1) * (g.ts.length - 1) + 1
  | [] => by simp [hz, Pol.zero]
  | [t] => by
    have e : hz b g [t] = mk [t] b := Pol.ext_ev fun x => by
      rw [ev_hz hb, ev_mk hb]; simp [evZ]
    rw [e]
    have := mk_len (ts := [t]) (b := b)
    simp at this ⊢
    omega
  | t :: u :: ts => by
    have ih := hz_len hb (g := g) (ts := u :: ts)
    have h1 := add_len (p := hz b g (u :: ts) * g) (q := mk [t] b)
    have h2 := mul_len (p := hz b g (u :: ts)) (q := g)
    have h3 := mk_len (ts := [t]) (b := b)
    have e : hz b g (t :: u :: ts) = hz b g (u :: ts) * g + mk [t] b := rfl
    rw [e]
    simp only [List.length_cons, Nat.add_sub_cancel, List.length_nil] at ih h3 ⊢
    rw [Nat.add_mul, Nat.one_mul]
    omega
theorem hz_one {b : Nat} (hb : 0 < b) {g : Pol} {t : Int} : hz b g [t] = mk [t] b := Pol.ext_ev fun x => by
  rw [ev_hz hb, ev_mk hb]; simp [evZ]
theorem PBt.tight {n m : Nat} {p : Pol} (h : PBt n m p) : PBt n p.ts.length p := ⟨Nat.le_refl _, h.2⟩
theorem comp_len {f g : Pol} : (f.comp g).ts.length ≤ (f.ts.length - 1) * (g.ts.length - 1) + 1 := hz_len f.hb
end NW
namespace NW
open PySem PySem.Spec PyProof.Rows L2
theorem pickx {f : Fl} (hf : FlOk f) {many : Int} (h0 : 0 < many) {b : Nat} (hb0 : 0 < b) (hb9 : b ≤ 9000) (h1 : many.natAbs < 2 ^ b) : (m_L_pick [.int many] f).To fun d f' => ∃ i, d = .int i ∧ 0 ≤ i ∧ i < many ∧ FlOk f' := by
  unfold m_L_pick
  rw [flow_to]
  obtain ⟨cells, place, held, seed, mny⟩ := f
  obtain ⟨a1, a2, a3, a4⟩ := hf
  simp only at a1 a2 a3 a4
  unfold b_L_pick
  simp only [startL, List.map_cons, List.map_nil, List.length_cons, List.length_nil, List.cons_append, List.nil_append, List.replicate]
  have tail : ∀ (cells : List Int) (place held seed mny : Int) (c : Option U), 0 ≤ held → 0 ≤ seed → seed < 2147483647 → 0 ≤ place →
      (held ≤ 0 ∧ mulC seed 48271 = true ∧ divC ((seed * 48271 + 12820163 + (mny + 1)).fmod 2147483647) 65521 = true ∧
    mulC (((seed * 48271 + 12820163 + (mny + 1)).fmod 2147483647).fmod 65521 + 1) (((seed * 48271 + 12820163 + (mny + 1)).fmod 2147483647).fdiv 65521 + 7919) = true ∧
    divC (((((seed * 48271 + 12820163 + (mny + 1)).fmod 2147483647).fmod 65521 + 1) * (((seed * 48271 + 12820163 + (mny + 1)).fmod 2147483647).fdiv 65521 + 7919)).fmod 1000003) 7 = true ∧ ¬many = 0 ∧
      0 ≤ (((((((seed * 48271 + 12820163 + (mny + 1)).fmod 2147483647).fmod 65521 + 1) * (((seed * 48271 + 12820163 + (mny + 1)).fmod 2147483647).fdiv 65521 + 7919)).fmod 1000003).fdiv 7).fmod many) ∧
      (((((((seed * 48271 + 12820163 + (mny + 1)).fmod 2147483647).fmod 65521 + 1) * (((seed * 48271 + 12820163 + (mny + 1)).fmod 2147483647).fdiv 65521 + 7919)).fmod 1000003).fdiv 7).fmod many) < many ∧
      FlOk { cells := cells, place := place, held := held, seed := (seed * 48271 + 12820163 + (mny + 1)).fmod 2147483647, many := mny + 1 }) ∨
      0 < held ∧ ¬many = 0 ∧ divC held many = true ∧ 0 ≤ held.fmod many ∧ held.fmod many < many ∧ FlOk { cells := cells, place := place, held := held.fdiv many, seed := seed, many := mny } := by
    intro cells place held seed mny c b1 b2 b3 b4
    by_cases hh : held ≤ 0
    · exact .inl ⟨hh, pick_A (P := fun i s => 0 ≤ i ∧ i < many ∧ FlOk ⟨cells, place, held, s, mny + 1⟩) b2 b3 h0 fun i s c1 c2 c3 c4 => ⟨c1, c2, b1, c3, c4, b4⟩⟩
    · have d := fmod_lt (a := held) h0
      exact .inr ⟨by omega, by omega, divC_of (b := b) (by omega) h1 hb0 hb9, d.1, d.2, fdiv_nn b1 h0, b2, b3, b4⟩
  by_cases hh : held = 0
  · subst hh
    by_cases hp : place < cells.length
    · obtain ⟨n, rfl⟩ := Int.eq_ofNat_of_zero_le a4
      have hn : n < cells.length := by omega
      have hq : ¬ cells.length ≤ n := by omega
      have e1 : idxN cells.length ((n : Nat) : Int) = some n := idxN_nat hn
      have e2 : cells[n]? = some cells[n] := List.getElem?_eq_getElem hn
      by_cases hx : cells[n] < 1000000000000000000
      · have z := tail cells ((n : Int) + 1) 0 ((seed * 40013 + cells[n].fmod 1000003 + 1).fmod 2147483647) mny none a1 (fmod_lt (by omega)).1 (fmod_lt (by omega)).2 (by omega)
        have y := mulC_small (i := seed) (j := 40013) (by omega) (by omega)
        have hx1 : ¬ 1000000000000000000 ≤ cells[n] := by omega
        simp [hn, hq, e1, e2, hx, hx1, y] at z ⊢
        exact z
      · have hx' : ¬ cells[n] < 1000000000000000000 := hx
        have z := tail cells ((n : Int) + 1) cells[n] seed mny none (by omega) a2 a3 (by omega)
        have hx2 : 1000000000000000000 ≤ cells[n] := by omega
        have hx3 : 0 < cells[n] := by omega
        have hx4 : ¬ cells[n] ≤ 0 := by omega
        simp [hn, hq, e1, e2, hx, hx2, hx3, hx4] at z ⊢
        exact z
    · have hp' : (cells.length : Int) ≤ place := by omega
      have z := tail cells place 0 seed mny none a1 a2 a3 a4
      simp [hp, hp'] at z ⊢
      exact z
  · have z := tail cells place held seed mny none a1 a2 a3 a4
    simp [hh] at z ⊢
    exact z
def evQ : List Rat → Rat → Rat
  | [], _ => 0
  | q :: qs, x => q + x * evQ qs x
theorem evC_evQ {x : Rat} : ∀ {qs : List Rat} {n : Nat}, qs.length ≤ n → evC n (fun k => qs.getD k 0) x = evQ qs x
  | [], n, _ => by
    induction n with
    | zero => rfl
    | succ n ih =>
      have := ih (by simp)
      simp [evQ] at this
      rw [evC]
      simp [this, evQ]; grind
  | t :: ts, 0, h => by simp at h
  | t :: ts, n + 1, h => by
    rw [evC, evQ]
    have := evC_evQ (x := x) (qs := ts) (n := n) (by simpa using h)
    simp only [List.getD_cons_zero, List.getD_cons_succ]
    rw [this]
theorem ev_ofC {qs : List Rat} {x : Rat} : (ofC qs).ev x = evQ qs x := by
  have e : (ofC qs).co = fun k => qs.getD k 0 := funext fun k => co_ofC k
  rw [ev_co (n := max (ofC qs).ts.length qs.length) (by omega), e, evC_evQ (by omega)]
theorem PBt.ofC {qs : List Rat} {n : Nat} (hq : ∀ q, q ∈ qs → FB n q) (h0 : 0 < n) : PBt (n + 1 + qs.length * n) qs.length (NW.ofC qs) := by
  have hb : 0 < lcms 1 qs := lcms_pos (by decide)
  have hB : lcms 1 qs < 2 ^ (1 + qs.length * n) := lcms_lt hq (by decide)
  refine PBt.mk hb (by simp) (Nat.lt_of_lt_of_le hB (Nat.pow_le_pow_right (by omega) (by omega))) fun t ht => ?_
  obtain ⟨q, hq', rfl⟩ := List.mem_map.mp ht
  rw [Int.natAbs_mul, Int.natAbs_natCast, Nat.add_assoc, Nat.pow_add]
  exact Nat.mul_lt_mul'' (hq q hq').1 (Nat.lt_of_le_of_lt (Nat.div_le_self _ _) hB)
def Pol.lin (a b : Rat) : Pol := NW.ofC [b, a]
theorem ev_lin {a b x : Rat} : (Pol.lin a b).ev x = a * x + b := by
  unfold Pol.lin
  rw [ev_ofC]; simp [evQ]; grind
theorem co_lin1 {a b : Rat} : (Pol.lin a b).co 1 = a := by unfold Pol.lin; rw [co_ofC]; rfl
theorem PBt.lin {a b : Rat} {n : Nat} (ha : FB n a) (hb : FB n b) (h0 : 0 < n) : PBt (3 * n + 1) 2 (Pol.lin a b) :=
  (PBt.ofC (qs := [b, a]) (by simp [ha, hb]) h0).mono (by simp; omega) (by simp)
theorem lin_len {a b : Rat} (ha : a ≠ 0) : (Pol.lin a b).ts.length = 2 := len_of (fun k hk => by
  unfold Pol.lin
  rw [co_ofC, List.getD_eq_getElem?_getD, List.getElem?_eq_none (by simp; omega)]; rfl) fun _ => by
  show (Pol.lin a b).co 1 ≠ 0
  rw [co_lin1]; exact ha
def Pol.inv (l : Pol) : Pol := Pol.lin (1 / l.co 1) (-(1 / l.co 1 * l.co 0))
theorem co_FB {p : Pol} {n m k : Nat} (h : PBt n m p) : FB n (p.co k) := by
  unfold Pol.co
  have := p.hb
  exact FB.of_divInt (by omega) (h.get k) (by simpa using h.2.1)
theorem inv_FB {l : Pol} {n m : Nat} (h : PBt n m l) (h0 : 0 < n) (hz : l.co 1 ≠ 0) : FB (n + 1) (1 / l.co 1) ∧ FB (2 * n + 1) (-(1 / l.co 1 * l.co 0)) := by
  have h1 : FB (n + 1) (1 / l.co 1) := ((FB.one (n := 1) (by omega)).div2 (co_FB h) hz).mono (by omega)
  exact ⟨h1, ((h1.mul2 (co_FB (k := 0) h)).neg).mono (by omega)⟩
theorem PBt.inv {l : Pol} {n m : Nat} (h : PBt n m l) (h0 : 0 < n) (hz : l.co 1 ≠ 0) : PBt (6 * n + 4) 2 l.inv := by
  obtain ⟨f1, f2⟩ := inv_FB h h0 hz
  exact (PBt.lin (f1.mono (by omega)) f2 (by omega)).mono (by omega) (by omega)
theorem L_straight_to {a b : Rat} {n : Nat} {P : PyData → Prop} (ha : FB n a) (hb : FB n b) (hn : n ≤ 200000) (h : P (polyD (Pol.lin a b))) : (m_L_straight [fracD a, fracD b]).To P := by
  unfold m_L_straight
  rw [pure_to]
  unfold b_L_straight
  have m1 : mulC b.num a.den = true := mx hb.1 ha.2 (by omega)
  have m2 : mulC a.num b.den = true := mx ha.1 hb.2 (by omega)
  have m3 : mulC a.den b.den = true := mx ha.2 hb.2 (by omega)
  simp [startL, m1, m2, m3]
  have hbb : True := trivial
  have e := L_poly_to (S := .list ([b.num * a.den, a.num * b.den].map .int)) (ts := [b.num * a.den, a.num * b.den]) (b := a.den * b.den) (P := P) (.inl rfl) (Nat.mul_pos a.den_pos b.den_pos) hbb (by simp) ?_
  · rw [Int.natCast_mul] at e; exact e
  · have : NW.mk [b.num * a.den, a.num * b.den] (a.den * b.den) = Pol.lin a b := Pol.ext_ev fun x => by
      rw [ev_mk (Nat.mul_pos a.den_pos b.den_pos), ev_lin]
      simp only [evZ]
      have ea := Rat.num_divInt_den a
      have eb := Rat.num_divInt_den b
      rw [divInt_div] at ea eb
      have za : ((a.den : Int) : Rat) ≠ 0 := fun e => den_ne a (Rat.intCast_eq_zero_iff.mp e)
      have zb : ((b.den : Int) : Rat) ≠ 0 := fun e => den_ne b (Rat.intCast_eq_zero_iff.mp e)
      rw [Int.natCast_mul, Rat.intCast_mul, Rat.intCast_mul, Rat.intCast_mul]
      conv => rhs; rw [← ea, ← eb]
      grind
    rw [this]; exact h
end NW
namespace NW
open PySem PySem.Spec PyProof.Rows L2
theorem L_number_to {f : Fl} (hf : FlOk f) {most : Int} (h0 : 0 ≤ most) (h1 : most ≤ 10 ^ 40) : (m_L_number [.int most] f).To fun d f' => ∃ i, d = .int i ∧ -most ≤ i ∧ i ≤ most ∧ FlOk f' := by
  unfold m_L_number
  rw [flow_to]
  unfold b_L_number
  have mc : mulC 2 most = true := mulC_of (a := 2) (b := 140) (by decide) (by omega) (by omega) (by omega) (by omega)
  simp [startL, mc]
  refine (pickx (b := 200) hf (by omega) (by omega) (by omega) (by omega)).mono ?_
  rintro _ g1 ⟨i, rfl, i1, i2, o1⟩
  simp
  exact ⟨by omega, by omega, o1⟩
theorem pw_le {a b : Nat} (h : a ≤ b) : 2 ^ a ≤ 2 ^ b := Nat.pow_le_pow_right (by omega) h
theorem any_fraction_to {f : Fl} (hf : FlOk f) {most : Int} {n : Nat} (h0 : 1 ≤ most) (h1 : most ≤ 10 ^ 40) (hn : most < 2 ^ n) (h2 : 2 ≤ n) (h3 : n ≤ 400000) : (m_L_any_fraction [.int most] f).To fun d f' => ∃ q, d = fracD q ∧ FB n q ∧ FlOk f' := by
  unfold m_L_any_fraction
  rw [flow_to]
  unfold b_L_any_fraction
  have hc : ((2 ^ n : Nat) : Int) = 2 ^ n := by simp
  have h4 : 2 ^ 2 ≤ 2 ^ n := pw_le h2
  simp [startL]
  refine (L_number_to hf (by omega) h1).mono ?_
  rintro _ g1 ⟨v, rfl, v1, v2, o1⟩
  refine (pick_to o1 (by omega) (by omega)).mono ?_
  rintro _ g2 ⟨i, rfl, i1, i2, o2⟩
  refine ixl_to (p := fun x => ∃ j : Int, x = .int j ∧ 1 ≤ j ∧ (j ≤ most ∨ j ≤ 3)) i1 i2 (by simp; omega) ?_
  rintro _ ⟨m, rfl, m0, m1⟩
  simp
  refine (pickx (b := 200) o2 (by omega) (by omega) (by omega) (by omega)).mono ?_
  rintro _ g3 ⟨u, rfl, u1, u2, o3⟩
  simp
  have bu : (1 + u).natAbs < 2 ^ n := by omega
  refine L_fraction_to (by omega) trivial ?_
  exact ⟨_, rfl, FB.of_divInt (by omega) (by omega) bu, o3⟩
theorem L_added_eq : m_L_added = m_added := by
  unfold m_L_added m_added b_L_added b_added
  rw [L_fraction_eq]
theorem L_product_eq : m_L_product = m_multiplied := by
  unfold m_L_product m_multiplied b_L_product b_multiplied
  rw [L_fraction_eq]
def Pol.tu (A : Rat) : Nat → Pol
  | 0 => NW.mk [2] 1
  | 1 => Pol.X
  | n + 2 => Pol.X * Pol.tu A (n + 1) - (Pol.tu A n).sc A
theorem ev_tu0 {A x : Rat} : (Pol.tu A 0).ev x = 2 := by rw [Pol.tu, ev_mk (by decide)]; simp [evZ]; grind
theorem ev_tu1 {A x : Rat} : (Pol.tu A 1).ev x = x := ev_X
theorem ev_tu2 {A x : Rat} {n : Nat} : (Pol.tu A (n + 2)).ev x = x * (Pol.tu A (n + 1)).ev x - A * (Pol.tu A n).ev x := by rw [Pol.tu, ev_sub, ev_mul, ev_sc, ev_X]; grind
theorem BZ.scale {A B : Nat} {c : Int} {ts : List Int} (h : BZ A ts) (hc : c.natAbs ≤ B) : BZ (B * A) (ts.map fun t => c * t) := fun w hw => by
  obtain ⟨t, ht, rfl⟩ := List.mem_map.mp hw
  rw [Int.natAbs_mul]
  exact Nat.mul_le_mul hc (h t ht)
theorem tu_rep {A : Rat} {b : Nat} (hA : FB b A) : ∀ (n : Nat), ∃ ts : List Int, (∀ x, (Pol.tu A n).ev x = evZ ts x / (((A.den ^ n : Nat) : Int) : Rat)) ∧ ts.length ≤ n + 1 ∧ BZ (2 ^ ((b + 1) * n + 1)) ts
  | 0 => ⟨[2], fun x => by rw [ev_tu0]; simp [evZ]; grind, by simp, by simp [BZ]⟩
  | 1 => ⟨[0, (A.den : Int)], fun x => by
      rw [ev_tu1]
      have : ((A.den : Int) : Rat) ≠ 0 := fun e => den_ne A (Rat.intCast_eq_zero_iff.mp e)
      simp [evZ]
      grind, by simp, by
      have := hA.2
      have h2 : 2 ^ b ≤ 2 ^ ((b + 1) * 1 + 1) := pw_le (by omega)
      intro t ht
      simp at ht
      rcases ht with rfl | rfl
      · simp
      · simp; omega⟩
  | n + 2 => by
    obtain ⟨ts, e1, l1, s1⟩ := tu_rep hA n
    obtain ⟨us, e2, l2, s2⟩ := tu_rep hA (n + 1)
    refine ⟨addZ (0 :: us.map fun t => (A.den : Int) * t) (ts.map fun t => (-(A.num * A.den)) * t), fun x => ?_, addZ_len (by simp; omega) (by simp; omega), ?_⟩
    · rw [ev_tu2, e1, e2, evZ_addZ, evZ_mul, evZ, evZ_mul]
      have h1 : ((A.den : Int) : Rat) ≠ 0 := fun e => den_ne A (Rat.intCast_eq_zero_iff.mp e)
      have h2 : (((A.den ^ n : Nat) : Int) : Rat) ≠ 0 := fun e => by
        have := Rat.intCast_eq_zero_iff.mp e
        have := Nat.pow_pos (n := n) A.den_pos
        omega
      have h3 : (((A.den ^ (n + 1) : Nat) : Int) : Rat) = (((A.den ^ n : Nat) : Int) : Rat) * ((A.den : Int) : Rat) := by rw [Nat.pow_succ, Int.natCast_mul, Rat.intCast_mul]
      have h4 : (((A.den ^ (n + 2) : Nat) : Int) : Rat) = (((A.den ^ n : Nat) : Int) : Rat) * ((A.den : Int) : Rat) * ((A.den : Int) : Rat) := by rw [Nat.pow_succ, Int.natCast_mul, Rat.intCast_mul, h3]
      have eA := Rat.num_divInt_den A
      rw [divInt_div] at eA
      rw [h3, h4, Rat.intCast_neg, Rat.intCast_mul]
      generalize evZ ts x = u
      generalize evZ us x = v
      conv => lhs; rw [← eA]
      simp
      grind
    · have z0 : BZ (2 ^ b * 2 ^ ((b + 1) * (n + 1) + 1)) (0 :: us.map fun t => (A.den : Int) * t) := fun w hw => by
        rcases List.mem_cons.mp hw with rfl | hw
        · simp
        · exact s2.scale (by have := hA.2; omega) w hw
      have z1 := s1.scale (c := -(A.num * A.den)) (B := 2 ^ b * 2 ^ b) (by
        rw [Int.natAbs_neg, Int.natAbs_mul]
        exact Nat.mul_le_mul (Nat.le_of_lt hA.1) (Nat.le_of_lt hA.2))
      have z := z0.add z1
      refine fun w hw => Nat.le_trans (z w hw) ?_
      have q1 : (b + 1) * (n + 1) = (b + 1) * n + b + 1 := by rw [Nat.mul_add]; omega
      have q2 : (b + 1) * (n + 2) = (b + 1) * n + 2 * b + 2 := by rw [Nat.mul_add]; omega
      rw [← Nat.pow_add, ← Nat.pow_add, ← Nat.pow_add]
      have p1 : 2 ^ (b + ((b + 1) * (n + 1) + 1)) ≤ 2 ^ ((b + 1) * n + 2 * b + 2) := pw_le (by omega)
      have p2 : 2 ^ (b + b + ((b + 1) * n + 1)) ≤ 2 ^ ((b + 1) * n + 2 * b + 2) := pw_le (by omega)
      have p3 : 2 ^ ((b + 1) * (n + 2) + 1) = 2 * 2 ^ ((b + 1) * n + 2 * b + 2) := by
        rw [q2, Nat.pow_succ, Nat.mul_comm]
      omega
theorem PBt.tu {A : Rat} {b : Nat} (hA : FB b A) (n : Nat) : PBt ((b + 1) * n + 2) (n + 1) (Pol.tu A n) := by
  obtain ⟨ts, e, hl, hs⟩ := tu_rep hA n
  have hp := Nat.pow_pos (n := n) A.den_pos
  have : Pol.tu A n = NW.mk ts (A.den ^ n) := Pol.ext_ev fun x => by rw [e, ev_mk hp]
  rw [this]
  refine PBt.mk hp hl ?_ fun t ht => ?_
  · have h1 : A.den ^ n ≤ (2 ^ b) ^ n := Nat.pow_le_pow_left (Nat.le_of_lt hA.2) n
    rw [← Nat.pow_mul] at h1
    have h2 : 2 ^ (b * n) < 2 ^ ((b + 1) * n + 2) := Nat.pow_lt_pow_right (by omega) (by rw [Nat.add_mul]; omega)
    omega
  · refine Nat.lt_of_le_of_lt (hs t ht) (Nat.pow_lt_pow_right (by omega) (by omega))
theorem idx_m2 {n : Nat} (h : 1 < n) : idxN n (-2) = some (n - 2) := by
  unfold idxN
  rw [if_neg (by omega), if_pos (by omega)]
  congr 1; omega
theorem turning_to {A : Rat} {n b : Nat} {P : PyData → Prop} (hA : FB b A) (hb : b ≤ 200) (h1 : 1 ≤ n) (hn : n ≤ 12) (h : P (polyD (Pol.tu A n))) : (m_L_turning [.int n, fracD A]).To P := by
  unfold m_L_turning
  rw [pure_to]
  unfold b_L_turning
  have eT : PyData.tuple [PyData.tuple [PyData.int 2], PyData.int 1] = polyD (Pol.tu A 0) := rfl
  have eX : PyData.tuple [PyData.tuple [PyData.int 0, PyData.int 1], PyData.int 1] = polyD (Pol.tu A 1) := rfl
  simp [startL]
  rw [eT, eX]
  have en : ((n : Int) - 1).toNat = n - 1 := by omega
  refine ⟨decide_eq_true (by omega), ?_⟩
  rw [range_map]
  obtain ⟨I, hI⟩ : ∃ I : Nat → NW.Loc → Sto → Prop, ∀ j l s, I j l s ↔ ∃ (v w : Option U), l = [some (.d (.int n)), some (.d (fracD A)), some (.ref 0), v, w] ∧ s = ⟨none, [.lst ((List.range (j + 2)).map fun i => polyD (Pol.tu A i))]⟩ := ⟨_, fun _ _ _ => Iff.rfl⟩
  refine for_ix I (fun _ _ _ _ => chk_nil) ((hI _ _ _).mpr ⟨none, none, rfl, rfl⟩) ?_ ?_
  · rintro j x l s hx h'
    obtain ⟨v, w, rfl, rfl⟩ := (hI _ _ _).mp h'
    have hj := (List.getElem?_eq_some_iff.mp hx).1
    simp at hj
    have s1 := PBt.tu hA j
    have s2 := PBt.tu hA (j + 1)
    have q1 : (b + 1) * j ≤ 201 * 12 := Nat.mul_le_mul (by omega) (by omega)
    have q2 : (b + 1) * (j + 1) ≤ 201 * 12 := Nat.mul_le_mul (by omega) (by omega)
    have sA : PBt (b + 1) 1 (NW.mk [-A.num] A.den) := PBt.mk A.den_pos (by simp) (Nat.lt_of_lt_of_le hA.2 (pw_le (by omega))) (fun t ht => by
      simp at ht; subst ht; rw [Int.natAbs_neg]; exact Nat.lt_of_lt_of_le hA.1 (pw_le (by omega)))
    have g1 : ((List.range (j + 2)).map fun i => polyD (Pol.tu A i))[j]? = some (polyD (Pol.tu A j)) := by rw [List.getElem?_map, List.getElem?_range (by omega)]; rfl
    have g2 : ((List.range (j + 2)).map fun i => polyD (Pol.tu A i))[j + 1]? = some (polyD (Pol.tu A (j + 1))) := by rw [List.getElem?_map, List.getElem?_range (by omega)]; rfl
    generalize hL : ((List.range (j + 2)).map fun i => polyD (Pol.tu A i)) = L at g1 g2
    have hLl : L.length = j + 2 := by rw [← hL]; simp
    have i1 : idxN L.length (-1) = some (j + 1) := by rw [idx_end (by omega), hLl]; rfl
    have i2 : idxN L.length (-2) = some j := by rw [idx_m2 (by omega), hLl]; rfl
    simp [i2, g1]
    refine L_poly_to (ts := [-A.num]) (.inl rfl) A.den_pos trivial (by simp) ?_
    refine L_timesx s1 sA (by omega) (by omega) (by omega) ?_
    simp [i1, g2]
    rw [polyD_X]
    refine L_timesx PBt.X s2 (by omega) (by omega) (by omega) ?_
    refine L_sumx (m := j + 4) ((PBt.X.mul s2 (by omega)).mono (Nat.le_refl _) (by omega)) ((s1.mul sA (by omega)).mono (Nat.le_refl _) (by omega)) (by omega) (by omega) ?_
    have ee : Pol.X * Pol.tu A (j + 1) + Pol.tu A j * NW.mk [-A.num] A.den = Pol.tu A (j + 2) := Pol.ext_ev fun x => by
      rw [ev_add, ev_mul, ev_mul, ev_mk A.den_pos, ev_X, ev_tu2]
      have eA := Rat.num_divInt_den A
      rw [divInt_div] at eA
      have : ((A.den : Int) : Rat) ≠ 0 := fun e => den_ne A (Rat.intCast_eq_zero_iff.mp e)
      simp only [evZ]
      conv => rhs; rw [← eA]
      simp
      grind
    rw [ee]
    refine ⟨by omega, (hI _ _ _).mpr ⟨_, _, rfl, ?_⟩⟩
    rw [← hL, List.range_succ (n := j + 2), List.map_append]
    rfl
  · intro l s h'
    obtain ⟨v, w, rfl, rfl⟩ := (hI _ _ _).mp h'
    simp
    have e1 : n - 1 + 2 = n + 1 := by omega
    rw [idxN_nat (show n < n - 1 + 2 by omega)]
    refine ⟨polyD (Pol.tu A n), ?_, h⟩
    show Option.map (fun i => polyD (Pol.tu A i)) (List.range (n - 1 + 2))[n]? = _
    rw [List.getElem?_range (by omega)]; rfl
@[simp] theorem idx_2 {n : Nat} : idxN (n + 3) 2 = some 2 := by
  unfold idxN
  rw [if_pos (by decide), if_pos (by omega)]; rfl
@[simp] theorem idx_3 {n : Nat} : idxN (n + 4) 3 = some 3 := by
  unfold idxN
  rw [if_pos (by decide), if_pos (by omega)]; rfl
end NW
namespace NW
open PySem PySem.Spec PyProof.Rows L2
def hzL (G : List Int) (B : Nat) : List Int → List Int
  | [] => []
  | [t] => [t]
  | t :: u :: ts => addZ (mulZ (hzL G B (u :: ts)) G) [t * ((B ^ (ts.length + 1) : Nat) : Int)]
theorem ev_hzL {G : List Int} {B : Nat} (hB : 0 < B) {x : Rat} : ∀ {t : Int} {ts : List Int}, evZ (hzL G B (t :: ts)) x = (((B ^ ts.length : Nat) : Int) : Rat) * evZ (t :: ts) (evZ G x / ((B : Int) : Rat))
  | t, [] => by simp [hzL, evZ]
  | t, u :: ts => by
    have hB' : ((B : Int) : Rat) ≠ 0 := fun e => by have := Rat.intCast_eq_zero_iff.mp e; omega
    have e : hzL G B (t :: u :: ts) = addZ (mulZ (hzL G B (u :: ts)) G) [t * ((B ^ (ts.length + 1) : Nat) : Int)] := rfl
    rw [e, evZ_addZ, evZ_mulZ, ev_hzL hB]
    have h3 : (((B ^ (ts.length + 1) : Nat) : Int) : Rat) = (((B ^ ts.length : Nat) : Int) : Rat) * ((B : Int) : Rat) := by rw [Nat.pow_succ, Int.natCast_mul, Rat.intCast_mul]
    have e5 : evZ [t * ((B ^ (ts.length + 1) : Nat) : Int)] x = (t : Rat) * (((B ^ (ts.length + 1) : Nat) : Int) : Rat) := by
      rw [← Rat.intCast_mul]; simp only [evZ]; grind
    have e6 : ∀ y : Rat, evZ (t :: u :: ts) y = t + y * evZ (u :: ts) y := fun y => rfl
    rw [e5, e6, List.length_cons, h3]
    have e7 : evZ G x = ((B : Int) : Rat) * (evZ G x / ((B : Int) : Rat)) := by grind
    generalize evZ G x / ((B : Int) : Rat) = y at e7
    rw [e7]
    generalize evZ (u :: ts) y = w
    generalize (((B ^ ts.length : Nat) : Int) : Rat) = c
    grind
theorem hzL_len {G : List Int} {B : Nat} : ∀ {t : Int} {ts : List Int}, (hzL G B (t :: ts)).length ≤ ts.length * G.length + 1
  | t, [] => by simp [hzL]
  | t, u :: ts => by
    have ih := hzL_len (G := G) (B := B) (t := u) (ts := ts)
    have e : hzL G B (t :: u :: ts) = addZ (mulZ (hzL G B (u :: ts)) G) [t * ((B ^ (ts.length + 1) : Nat) : Int)] := rfl
    rw [e, List.length_cons, Nat.add_mul, Nat.one_mul]
    have := mulZ_len (ts := hzL G B (u :: ts)) (us := G)
    exact addZ_len (by omega) (by simp)
theorem hzL_BZ {G : List Int} {B n n2 m : Nat} (hB : B < 2 ^ n2) (hG : ∀ u, u ∈ G → u.natAbs < 2 ^ n2) (hm : G.length ≤ m) : ∀ {t : Int} {ts : List Int}, (∀ u, u ∈ t :: ts → u.natAbs < 2 ^ n) → ts.length * m + 1 ≤ 1000 → BZ (2 ^ (n + ts.length * (n2 + 11))) (hzL G B (t :: ts))
  | t, [], ht, _ => by
    intro u hu
    have := ht u hu
    simp; omega
  | t, u :: ts, ht, hl => by
    rw [List.length_cons, Nat.add_mul, Nat.one_mul] at hl
    have ih := hzL_BZ hB hG hm (t := u) (ts := ts) (fun v hv => ht v (List.mem_cons_of_mem _ hv)) (by omega)
    have e : hzL G B (t :: u :: ts) = addZ (mulZ (hzL G B (u :: ts)) G) [t * ((B ^ (ts.length + 1) : Nat) : Int)] := rfl
    have hlen := hzL_len (G := G) (B := B) (t := u) (ts := ts)
    have hlm : ts.length * G.length ≤ ts.length * m := Nat.mul_le_mul_left _ hm
    rw [e]
    have z1 := ih.mul (us := G) (B := 2 ^ n2) fun v hv => Nat.le_of_lt (hG v hv)
    have z2 : BZ (2 ^ n * 2 ^ (n2 * (ts.length + 1))) [t * ((B ^ (ts.length + 1) : Nat) : Int)] := fun v hv => by
      have hv' : v = t * ((B ^ (ts.length + 1) : Nat) : Int) := by simpa using hv
      subst hv'
      rw [Int.natAbs_mul, Int.natAbs_natCast, Nat.pow_mul]
      exact Nat.mul_le_mul (Nat.le_of_lt (ht t (by simp))) (Nat.pow_le_pow_left (Nat.le_of_lt hB) _)
    have z := z1.add z2
    refine fun v hv => Nat.le_trans (z v hv) ?_
    rw [List.length_cons, ← Nat.pow_add, ← Nat.pow_add]
    have q1 : n2 * (ts.length + 1) = n2 * ts.length + n2 := by rw [Nat.mul_add]; omega
    have q2 : ts.length * (n2 + 11) = n2 * ts.length + 11 * ts.length := by rw [Nat.mul_add, Nat.mul_comm, Nat.mul_comm ts.length 11]
    have q3 : (ts.length + 1) * (n2 + 11) = n2 * ts.length + 11 * ts.length + n2 + 11 := by rw [Nat.add_mul, q2]; omega
    rw [q1, q2, q3]
    have p1 : (hzL G B (u :: ts)).length * 2 ^ (n + (n2 * ts.length + 11 * ts.length) + n2) ≤ 1000 * 2 ^ (n + (n2 * ts.length + 11 * ts.length) + n2) := Nat.mul_le_mul_right _ (by omega)
    have p2 : 2 ^ (n + (n2 * ts.length + n2)) ≤ 2 ^ (n + (n2 * ts.length + 11 * ts.length) + n2) := pw_le (by omega)
    have p3 : 2 ^ (n + (n2 * ts.length + 11 * ts.length + n2 + 11)) = 2048 * 2 ^ (n + (n2 * ts.length + 11 * ts.length) + n2) := by
      rw [show n + (n2 * ts.length + 11 * ts.length + n2 + 11) = (n + (n2 * ts.length + 11 * ts.length) + n2) + 11 by omega, Nat.pow_add, Nat.mul_comm]
    omega
theorem hz_sz3 {b n n2 m : Nat} {g : Pol} (hb : 0 < b) (hbn : b < 2 ^ n) (hg : PBt n2 m g) {t : Int} {ts : List Int} (ht : ∀ u, u ∈ t :: ts → u.natAbs < 2 ^ n) (hl : ts.length * m + 1 ≤ 1000) : PBt (n + ts.length * (n2 + 11) + 1) (ts.length * m + 1) (hz b g (t :: ts)) := by
  have hgb := g.hb
  have hp := Nat.pow_pos (n := ts.length) hgb
  have eq : hz b g (t :: ts) = NW.mk (hzL g.ts g.b (t :: ts)) (b * g.b ^ ts.length) := Pol.ext_ev fun x => by
    rw [ev_hz hb, ev_mk (Nat.mul_pos hb hp), ev_hzL hgb, Int.natCast_mul, Rat.intCast_mul]
    have h1 : ((b : Int) : Rat) ≠ 0 := fun e => by have := Rat.intCast_eq_zero_iff.mp e; omega
    have h2 : (((g.b ^ ts.length : Nat) : Int) : Rat) ≠ 0 := fun e => by have := Rat.intCast_eq_zero_iff.mp e; omega
    show evZ (t :: ts) (evZ g.ts x / ((g.b : Int) : Rat)) / ((b : Int) : Rat) = _
    generalize evZ (t :: ts) (evZ g.ts x / ((g.b : Int) : Rat)) = w
    grind
  rw [eq]
  have hlm : ts.length * g.ts.length ≤ ts.length * m := Nat.mul_le_mul_left _ hg.1
  refine PBt.mk (Nat.mul_pos hb hp) (Nat.le_trans hzL_len (by omega)) ?_ fun u hu => ?_
  · have h1 : g.b ^ ts.length ≤ (2 ^ n2) ^ ts.length := Nat.pow_le_pow_left (Nat.le_of_lt hg.2.1) _
    rw [← Nat.pow_mul] at h1
    have h2 : b * g.b ^ ts.length ≤ 2 ^ n * 2 ^ (n2 * ts.length) := Nat.mul_le_mul (Nat.le_of_lt hbn) h1
    rw [← Nat.pow_add] at h2
    have h3 : 2 ^ (n + n2 * ts.length) < 2 ^ (n + ts.length * (n2 + 11) + 1) := Nat.pow_lt_pow_right (by omega) (by rw [Nat.mul_add, Nat.mul_comm ts.length n2]; omega)
    omega
  · refine Nat.lt_of_le_of_lt (hzL_BZ hg.2.1 hg.2.2 hg.1 ht hl u hu) (Nat.pow_lt_pow_right (by omega) (by omega))
theorem PBt.comp3 {n n2 m1 m : Nat} {f g : Pol} (h0 : 0 < n) (hf : PBt n m1 f) (hg : PBt n2 m g) (hl : (m1 - 1) * m + 1 ≤ 1000) : PBt (n + (m1 - 1) * (n2 + 11) + 1) ((m1 - 1) * (m - 1) + 1) (f.comp g) := by
  have h3 : (f.ts.length - 1) * (g.ts.length - 1) ≤ (m1 - 1) * (m - 1) := Nat.mul_le_mul (by have := hf.1; omega) (by have := hg.1; omega)
  refine ⟨Nat.le_trans comp_len (by omega), ?_⟩
  have hfl := hf.1
  have h12 := hf.2
  unfold Pol.comp
  generalize hts : f.ts = ts at hfl h12
  cases ts with
  | nil => rw [hz]; exact (PBt.zero.mono (n' := n + (m1 - 1) * (n2 + 11) + 1) (m' := 1) (by omega) (by omega)).2
  | cons t ts =>
    simp only [List.length_cons] at hfl
    have h1 : ts.length * m ≤ (m1 - 1) * m := Nat.mul_le_mul_right _ (by omega)
    have h2 : ts.length * (n2 + 11) ≤ (m1 - 1) * (n2 + 11) := Nat.mul_le_mul_right _ (by omega)
    exact ((hz_sz3 f.hb h12.1 hg h12.2 (by omega)).mono (n' := n + (m1 - 1) * (n2 + 11) + 1) (m' := 1000) (by omega) (by omega)).2
theorem of3 {f g : Pol} {n n2 m1 m : Nat} {P : PyData → Prop} (h0 : 0 < n) (hf : PBt n m1 f) (hg : PBt n2 m g) (hm : m ≤ 1000) (hl : (m1 - 1) * m + 1 ≤ 1000) (hn : (m1 - 2) * (n2 + 11) + 2 * n + n2 + 11 ≤ 999990) (h : P (polyD (f.comp g))) : (m_L_of [polyD f, polyD g]).To P := by
  unfold m_L_of
  rw [pure_to]
  unfold b_L_of
  have hfl := hf.1
  have hfb := f.hb
  have hb9 : True := trivial
  simp [startL]
  rw [polyD_zero]
  obtain ⟨I, hI⟩ : ∃ I : List Int → NW.Loc → Sto → Prop, ∀ us l s, I us l s ↔ ∃ (v : Option U), l = [some (.d (polyD f)), some (.d (polyD g)), some (.d (polyD (hz f.b g us))), v] ∧ s = ⟨none, []⟩ := ⟨_, fun _ _ _ => Iff.rfl⟩
  refine for_rev I (fun _ _ _ _ => chk_nil) ((hI _ _ _).mpr ⟨none, rfl, rfl⟩) ?_ ?_
  · rintro as u us l s e h
    obtain ⟨v, rfl, rfl⟩ := (hI _ _ _).mp h
    have hul : us.length + 1 ≤ m1 := by
      have := congrArg List.length e
      simp at this; omega
    have ht : ∀ t, t ∈ us → t.natAbs < 2 ^ n := fun t ht => hf.2.2 t (by rw [e]; simp [ht])
    have hu := hf.2.2 u (by rw [e]; simp)
    have s2 : PBt n 1 (mk [u] f.b) := PBt.mk f.hb (by simp) hf.2.1 (by simpa using hu)
    have fin : I (u :: us) [some (U.d (polyD f)), some (U.d (polyD g)), some (U.d (polyD (hz f.b g (u :: us)))), some (U.d (.int u))] ⟨none, []⟩ := (hI _ _ _).mpr ⟨_, rfl, rfl⟩
    cases us with
    | nil =>
      simp
      refine L_timesx PBt.zero hg (by omega) (by omega) (by omega) ?_
      refine L_poly_to (ts := [u]) (.inl rfl) f.hb hb9 (by simp) ?_
      have ez : Pol.zero * g = Pol.zero := Pol.ext_ev fun x => by rw [ev_mul, ev_zero]; simp
      have e3 : hz f.b g [] * g + mk [u] f.b = hz f.b g [u] := rfl
      have e4 : hz f.b g [] = Pol.zero := rfl
      rw [e4, ez] at e3
      rw [e4, ez]
      refine L_sumx (m := 1) PBt.zero s2 (by omega) (by omega) ?_
      rw [e3]
      exact fin
    | cons w ws =>
      simp only [List.length_cons] at hul
      have e1 : ws.length * m + m ≤ (m1 - 1) * m := by
        have := Nat.mul_le_mul_right m (show ws.length + 1 ≤ m1 - 1 by omega)
        rwa [Nat.add_mul, Nat.one_mul] at this
      have e2 : ws.length * (n2 + 11) ≤ (m1 - 2) * (n2 + 11) := Nat.mul_le_mul_right (n2 + 11) (by omega)
      have sz := hz_sz3 f.hb hf.2.1 hg (t := w) (ts := ws) ht (by omega)
      have s3 := sz.mul hg (by omega)
      simp
      refine L_timesx sz hg (by omega) (by omega) (by omega) ?_
      refine L_poly_to (ts := [u]) (.inl rfl) f.hb hb9 (by simp) ?_
      refine L_sumx (m := ws.length * m + 1 + m) (s3.mono (Nat.le_refl _) (by omega)) (s2.mono (Nat.le_refl _) (by omega)) (by omega) (by omega) ?_
      exact fin
  · intro l s h'
    obtain ⟨v, rfl, rfl⟩ := (hI _ _ _).mp h'
    simp
    exact h
def Pol.deg (p : Pol) : Nat := p.ts.length - 1
theorem co_mul_top {p q : Pol} : (p * q).co (p.deg + q.deg) = p.co p.deg * q.co q.deg := by
  rw [co_mul]
  have key : ∀ (n i : Nat) (f : Nat → Rat), i < n → (∀ j, j < n → j ≠ i → f j = 0) → sm n f = f i := by
    intro n
    induction n with
    | zero => intro i f h; omega
    | succ n ih =>
      intro i f hi hz
      rw [sm]
      by_cases e : i = n
      · subst e
        rw [sm_zero fun k hk => hz k (by omega) (by omega)]; grind
      · rw [ih i f (by omega) fun j hj => hz j (by omega), hz n (by omega) (Ne.symm e)]; grind
  rw [key (p.deg + q.deg + 1) p.deg _ (by omega) fun j hj hne => ?_]
  · congr 1
    congr 1
    omega
  · unfold Pol.deg at *
    by_cases h : p.ts.length ≤ j
    · rw [co_zero_of h]; simp
    · rw [co_zero_of (p := q) (k := p.ts.length - 1 + (q.ts.length - 1) - j) (by omega)]; simp
theorem len_mul {p q : Pol} (hp : p.ts ≠ []) (hq : q.ts ≠ []) : (p * q).ts.length = p.ts.length + q.ts.length - 1 := by
  have h1 := List.length_pos_iff.mpr hp
  have h2 := List.length_pos_iff.mpr hq
  refine Nat.le_antisymm mul_len ?_
  by_cases hl : p.ts.length + q.ts.length - 1 ≤ (p * q).ts.length
  · exact hl
  · exfalso
    have := co_mul_top (p := p) (q := q)
    rw [co_zero_of (by unfold Pol.deg; omega)] at this
    have a := co_lead hp
    have b := co_lead hq
    unfold Pol.deg at this
    grind
theorem hz_top {b : Nat} (hb : 0 < b) {g : Pol} (hg : 2 ≤ g.ts.length) : ∀ (ts : List Int) (t : Int), (hz b g (t :: ts)).co (ts.length * g.deg) = Rat.divInt ((t :: ts).getD ts.length 0) b * g.co g.deg ^ ts.length
  | [], t => by
    rw [hz_one hb, co_mk hb]
    simp
  | u :: ts, t => by
    have ih := hz_top hb hg ts u
    have e : hz b g (t :: u :: ts) = hz b g (u :: ts) * g + mk [t] b := rfl
    have hl := hz_len hb (g := g) (ts := u :: ts)
    simp only [List.length_cons, Nat.add_sub_cancel] at hl
    have hgd : 1 ≤ g.deg := by unfold Pol.deg; omega
    have e1 : (ts.length + 1) * g.deg = ts.length * g.deg + g.deg := by rw [Nat.add_mul, Nat.one_mul]
    rw [e, co_add, co_mk hb, List.length_cons, e1]
    have z : ([t] : List Int).getD (ts.length * g.deg + g.deg) 0 = 0 := by
      rw [List.getD_eq_getElem?_getD, List.getElem?_eq_none (by simp; omega)]; rfl
    have hl' : (hz b g (u :: ts)).ts.length ≤ ts.length * g.deg + 1 := hl
    have key : (hz b g (u :: ts) * g).co (ts.length * g.deg + g.deg) = (hz b g (u :: ts)).co (ts.length * g.deg) * g.co g.deg := by
      rw [co_mul]
      have one : ∀ (n i : Nat) (f : Nat → Rat), i < n → (∀ j, j < n → j ≠ i → f j = 0) → sm n f = f i := by
        intro n
        induction n with
        | zero => intro i f h; omega
        | succ n ih =>
          intro i f hi hz
          rw [sm]
          by_cases e : i = n
          · subst e
            rw [sm_zero fun k hk => hz k (by omega) (by omega)]; grind
          · rw [ih i f (by omega) fun j hj => hz j (by omega), hz n (by omega) (Ne.symm e)]; grind
      rw [one _ (ts.length * g.deg) _ (by omega) fun j hj hne => ?_]
      · congr 2
        omega
      · by_cases h : ts.length * g.deg < j
        · rw [co_zero_of (by omega)]; simp
        · rw [co_zero_of (p := g) (k := ts.length * g.deg + g.deg - j) (by unfold Pol.deg at *; omega)]; simp
    rw [key, ih, z]
    have : (t :: u :: ts).getD (ts.length + 1) 0 = (u :: ts).getD ts.length 0 := by simp
    rw [this]
    simp
    grind
theorem comp_top {f g : Pol} (hf : f.ts ≠ []) (hg : 2 ≤ g.ts.length) : (f.comp g).co (f.deg * g.deg) = f.co f.deg * g.co g.deg ^ f.deg := by
  unfold Pol.comp
  have : f.co f.deg = Rat.divInt (f.ts.getD f.deg 0) f.b := rfl
  rw [this]
  unfold Pol.deg
  generalize f.ts = ts at hf
  cases ts with
  | nil => exact absurd rfl hf
  | cons t ts => exact hz_top f.hb hg ts t
theorem len_comp {f g : Pol} (hf : f.ts ≠ []) (hg : 2 ≤ g.ts.length) : (f.comp g).ts.length = (f.ts.length - 1) * (g.ts.length - 1) + 1 := by
  refine Nat.le_antisymm comp_len ?_
  by_cases hl : (f.ts.length - 1) * (g.ts.length - 1) + 1 ≤ (f.comp g).ts.length
  · exact hl
  · exfalso
    have := comp_top hf hg
    rw [co_zero_of (by unfold Pol.deg; omega)] at this
    have a := co_lead hf
    have b := co_lead (p := g) (fun e => by rw [e] at hg; simp at hg)
    have c : ∀ n : Nat, g.co (g.ts.length - 1) ^ n ≠ 0 := by
      intro n
      induction n with
      | zero => grind
      | succ n ih => grind
    have := c f.deg
    unfold Pol.deg at *
    grind
end NW
namespace NW
open PySem PySem.Spec PyProof.Rows L2
theorem mk_len_eq {ts : List Int} {t : Int} {b : Nat} (hb : 0 < b) (ht : t ≠ 0) : (mk (ts ++ [t]) b).ts.length = ts.length + 1 := len_of (fun k hk => by
  rw [co_mk hb, List.getD_eq_getElem?_getD, List.getElem?_eq_none (by simp; omega)]; simp) fun _ => by
  have e0 : (ts ++ [t])[ts.length + 1 - 1]? = some t := by simp
  rw [co_mk hb, List.getD_eq_getElem?_getD, e0]
  intro e
  have e2 : Rat.divInt t b = Rat.divInt 0 1 := by rw [Rat.zero_divInt]; exact e
  have := (Rat.divInt_eq_divInt_iff (by omega) (by omega)).mp e2
  omega
theorem any_poly_to {f : Fl} (hf : FlOk f) {many : Nat} {most : Int} {n : Nat} (hm : many ≤ 30) (h0 : 1 ≤ most) (h1 : most ≤ 10 ^ 40) (hn : most < 2 ^ n) (h2 : 3 ≤ n) (h3 : n ≤ 400000) : (m_L_any_poly [.int many, .int most] f).To fun d f' => ∃ p, d = polyD p ∧ PBt n (many + 1) p ∧ p.ts.length = many + 1 ∧ FlOk f' := by
  unfold m_L_any_poly
  rw [flow_to]
  unfold b_L_any_poly
  have hc : ((2 ^ n : Nat) : Int) = 2 ^ n := by simp
  have h4 : 2 ^ 3 ≤ 2 ^ n := pw_le h2
  simp [startL]
  refine ⟨decide_eq_true (by omega), by omega, ?_⟩
  refine lc_draw (p := fun y => ∃ t, y = .int t ∧ t.natAbs < 2 ^ n) ?_ hf ?_
  · intro x hx g og
    simp [wipeL]
    refine (L_number_to og (by omega) h1).mono ?_
    rintro _ g1 ⟨v, rfl, v1, v2, o1⟩
    refine (pick_to o1 (by omega) (by omega)).mono ?_
    rintro _ g2 ⟨i, rfl, i1, i2, o2⟩
    simp
    have hv : v.natAbs < 2 ^ n := by omega
    by_cases hi : 0 < i
    · have mc : mulC v 1 = true := mx hv (b := 1) (by decide) (by omega)
      simp [hi, mc]
      exact ⟨o2, hv⟩
    · have mc : mulC v 0 = true := mx hv (b := 1) (by decide) (by omega)
      simp [hi, mc]
      exact ⟨o2, by omega⟩
  · intro ys g1 hl hy o1
    obtain ⟨ts, rfl, ht⟩ := all_int hy
    have hl' : ts.length = many := by simpa using hl
    simp
    refine (pickx (b := 200) o1 (by omega) (by omega) (by omega) (by omega)).mono ?_
    rintro _ g2 ⟨u, rfl, u1, u2, o2⟩
    simp
    refine (pickx (b := 200) o2 (by omega) (by omega) (by omega) (by omega)).mono ?_
    rintro _ g3 ⟨v, rfl, v1, v2, o3⟩
    simp
    refine (pick_to o3 (by omega) (by omega)).mono ?_
    rintro _ g4 ⟨i, rfl, i1, i2, o4⟩
    refine ixl_to (p := fun x => ∃ j : Int, x = .int j ∧ j ≠ 0 ∧ j.natAbs < 2 ^ n) i1 i2 (by simp; omega) ?_
    rintro _ ⟨first, rfl, fz, fb⟩
    simp
    refine ⟨by omega, ?_⟩
    refine (pick_to o4 (by omega) (by omega)).mono ?_
    rintro _ g5 ⟨i, rfl, i1, i2, o5⟩
    refine ixl_to (p := fun x => ∃ j : Int, x = .int j ∧ 1 ≤ j ∧ j ≤ 6) i1 i2 (by simp) ?_
    rintro _ ⟨mb, rfl, mb0, mb1⟩
    simp
    refine (pick_to o5 (by omega) (by omega)).mono ?_
    rintro _ g6 ⟨w, rfl, w1, w2, o6⟩
    simp
    obtain ⟨B, hB⟩ : ∃ B : Nat, 1 + w = (B : Int) := ⟨(1 + w).toNat, by omega⟩
    rw [hB]
    have hB1 : B < 2 ^ n := by omega
    refine L_poly_to (ts := ts ++ [first]) (.inl (by simp)) (by omega) trivial (by simp; omega) ?_
    refine ⟨_, rfl, PBt.mk (by omega) (by simp [hl']) hB1 fun t h => ?_, by rw [mk_len_eq (by omega) fz, hl'], o6⟩
    rcases List.mem_append.mp h with h | h
    · exact ht t h
    · have : t = first := by simpa using h
      subst this; exact fb
theorem lin_eq {a b : Rat} : Pol.lin a b = NW.mk [b.num * a.den, a.num * b.den] (a.den * b.den) := Pol.ext_ev fun x => by
  rw [ev_mk (Nat.mul_pos a.den_pos b.den_pos), ev_lin]
  simp only [evZ]
  have ea := Rat.num_divInt_den a
  have eb := Rat.num_divInt_den b
  rw [divInt_div] at ea eb
  have za : ((a.den : Int) : Rat) ≠ 0 := fun e => den_ne a (Rat.intCast_eq_zero_iff.mp e)
  have zb : ((b.den : Int) : Rat) ≠ 0 := fun e => den_ne b (Rat.intCast_eq_zero_iff.mp e)
  rw [Int.natCast_mul, Rat.intCast_mul, Rat.intCast_mul, Rat.intCast_mul]
  conv => lhs; rw [← ea, ← eb]
  grind
theorem PBt.lin2 {a b : Rat} {n k : Nat} (ha : FB n a) (hb : FB k b) : PBt (n + k) 2 (Pol.lin a b) := by
  rw [lin_eq]
  refine PBt.mk (Nat.mul_pos a.den_pos b.den_pos) (by simp) (by rw [Nat.pow_add]; exact Nat.mul_lt_mul'' ha.2 hb.2) fun t ht => ?_
  simp at ht
  rcases ht with rfl | rfl
  · rw [Int.natAbs_mul, Int.natAbs_natCast, Nat.pow_add, Nat.mul_comm]; exact Nat.mul_lt_mul'' ha.2 hb.1
  · rw [Int.natAbs_mul, Int.natAbs_natCast, Nat.pow_add]; exact Nat.mul_lt_mul'' ha.1 hb.2
theorem any_straight_to {f : Fl} (hf : FlOk f) {most : Int} {n : Nat} (h0 : 1 ≤ most) (h1 : most ≤ 10 ^ 40) (hn : most < 2 ^ n) (h2 : 2 ≤ n) (h3 : n ≤ 4000) : (m_L_any_straight [.int most] f).To fun d f' => ∃ a b, d = polyD (Pol.lin a b) ∧ a ≠ 0 ∧ FB n a ∧ FB n b ∧ FlOk f' := by
  unfold m_L_any_straight
  rw [flow_to]
  unfold b_L_any_straight
  have hc : ((2 ^ n : Nat) : Int) = 2 ^ n := by simp
  have h4 : 2 ^ 2 ≤ 2 ^ n := pw_le h2
  simp [startL]
  refine (pickx (b := 200) hf (by omega) (by omega) (by omega) (by omega)).mono ?_
  rintro _ g1 ⟨t, rfl, t1, t2, o1⟩
  simp
  refine (pick_to o1 (by omega) (by omega)).mono ?_
  rintro _ g2 ⟨u, rfl, u1, u2, o2⟩
  simp
  have bt : (1 + t).natAbs < 2 ^ n := by omega
  have bu : (1 + u).natAbs < 2 ^ n := by omega
  refine L_fraction_to (by omega) trivial ?_
  have fa : FB n (Rat.divInt (1 + t) (1 + u)) := FB.of_divInt (by omega) bt bu
  have za : Rat.divInt (1 + t) (1 + u) ≠ 0 := fun e => by
    have e2 : Rat.divInt (1 + t) (1 + u) = Rat.divInt 0 1 := by rw [e, Rat.zero_divInt]
    have := (Rat.divInt_eq_divInt_iff (by omega) (by omega)).mp e2
    omega
  generalize Rat.divInt (1 + t) (1 + u) = a at fa za
  refine (pick_to o2 (by omega) (by omega)).mono ?_
  rintro _ g3 ⟨i, rfl, i1, i2, o3⟩
  refine ixl_to (p := fun x => ∃ r, x = fracD r ∧ r ≠ 0 ∧ FB n r) i1 i2 ?_ ?_
  · intro x hx
    simp at hx
    rcases hx with rfl | rfl | rfl
    · exact ⟨1, rfl, by decide, FB.one (by omega)⟩
    · exact ⟨-1, rfl, by decide, FB_m1.mono (by omega)⟩
    · exact ⟨a, rfl, za, fa⟩
  rintro _ ⟨r, rfl, rz, rb⟩
  simp
  refine (any_fraction_to o3 h0 h1 hn h2 (by omega)).mono ?_
  rintro _ g4 ⟨q, rfl, hq, o4⟩
  refine L_straight_to rb hq (by omega) ?_
  exact ⟨r, q, rfl, rz, rb, hq, o4⟩
def absI (i : Int) : Int := if i < 0 then -i else i
theorem abs_eq {i : Int} : absI i = (i.natAbs : Int) := by unfold absI; split <;> omega
theorem ten40' : (10000000000000000000000000000000000000000 : Int) ≤ 2 ^ 133 := by decide +kernel
theorem fracD_11 : PyData.tuple [.int 1, .int 1] = fracD 1 := rfl
theorem lin_ne {a b : Rat} (ha : a ≠ 0) : (Pol.lin a b).ts ≠ [] := fun e => by have := lin_len (b := b) ha; rw [e] at this; simp at this
end NW
namespace NW
open PySem PySem.Spec PyProof.Rows L2
theorem PBt.rep {p : Pol} {n m D : Nat} {N : Nat → Int} (hD : 0 < D) (h1 : ∀ k, p.co k = Rat.divInt (N k) D) (h2 : D < 2 ^ n) (h3 : ∀ k, (N k).natAbs < 2 ^ n) (h4 : ∀ k, m ≤ k → p.co k = 0) : PBt n m p := by
  have : p = NW.mk ((List.range m).map N) D := Pol.ext_co fun k => by
    rw [co_mk hD, List.getD_eq_getElem?_getD, List.getElem?_map]
    by_cases hk : k < m
    · rw [List.getElem?_range hk]; exact h1 k
    · rw [List.getElem?_eq_none (by simp; omega), h4 k (by omega)]; simp
  rw [this]
  refine PBt.mk hD (by simp) h2 fun t ht => ?_
  obtain ⟨k, _, rfl⟩ := List.mem_map.mp ht
  exact h3 k
theorem ev_con {r x : Rat} : (ofC [r]).ev x = r := by rw [ev_ofC]; simp [evQ]; grind
theorem co_con {r : Rat} {k : Nat} : (ofC [r]).co k = if k = 0 then r else 0 := by
  rw [co_ofC]
  cases k with
  | zero => rfl
  | succ k => simp
def Pol.mid (f : Pol) : Rat := f.co (f.deg - 1) / (((f.deg : Int) : Rat) * f.co f.deg)
def Pol.sh (f : Pol) : Pol := f.comp (Pol.lin 1 (-f.mid))
def Pol.pl (f : Pol) : Pol := (f.sh - NW.ofC [f.sh.co 0]).sc (1 / f.co f.deg)
theorem lead_ne {f : Pol} (hl : 1 ≤ f.ts.length) : f.co f.deg ≠ 0 := co_lead (List.length_pos_iff.mp hl)
theorem b9 {p : Pol} {n m : Nat} (h : PBt n m p) (hn : n ≤ 999990) : True := trivial
end NW
namespace NW
open PySem PySem.Spec PyProof.Rows L2
end NW
namespace NW
open PySem PySem.Spec PyProof.Rows L2
theorem maxI_all {xs : List Int} {m : Int} (h : maxI xs = some m) : ∀ y, y ∈ xs → y ≤ m := by
  cases xs with
  | nil => intro y hy; cases hy
  | cons x xs =>
    obtain ⟨a, b, _⟩ := maxI_cons h
    intro y hy
    rcases List.mem_cons.mp hy with rfl | hy
    · exact a
    · exact b y hy
end NW
namespace NW
open PySem PySem.Spec PyProof.Rows L2
def Pol.ins (w : Pol) : Pol := Pol.lin (w.co w.deg) (w.co 0)
def Pol.nm (w : Pol) : Pol := (w - NW.ofC [w.co 0]).sc (1 / w.co w.deg)
theorem ev_ins {w : Pol} {x : Rat} : w.ins.ev x = w.co w.deg * x + w.co 0 := by unfold Pol.ins; rw [ev_lin]
theorem ev_nm {w : Pol} {x : Rat} : w.nm.ev x = (w.ev x - w.co 0) / w.co w.deg := by
  unfold Pol.nm; rw [ev_sc, ev_sub, ev_con]; grind
theorem co_nm {w : Pol} {k : Nat} : w.nm.co k = if k = 0 then 0 else w.co k / w.co w.deg := by
  unfold Pol.nm
  rw [co_sc, co_sub, co_con]
  split
  · rename_i h; subst h; grind
  · grind
theorem nm_len {w : Pol} (hl : 2 ≤ w.ts.length) : w.nm.ts.length = w.ts.length := len_of (fun k hk => by
  rw [co_nm, if_neg (by omega), co_zero_of hk]; grind) fun _ => by
  have hz := lead_ne (f := w) (by omega)
  show w.nm.co w.deg ≠ 0
  rw [co_nm, if_neg (by unfold Pol.deg; omega)]
  grind
theorem nm_deg {w : Pol} (hl : 2 ≤ w.ts.length) : w.nm.deg = w.deg := by unfold Pol.deg; rw [nm_len hl]
theorem nm_top {w : Pol} (hl : 2 ≤ w.ts.length) : w.nm.co w.nm.deg = 1 ∧ w.nm.co 0 = 0 := by
  have hz := lead_ne (f := w) (by omega)
  refine ⟨?_, by rw [co_nm, if_pos rfl]⟩
  rw [nm_deg hl, co_nm, if_neg (by unfold Pol.deg; omega)]
  grind
theorem ins_len {w : Pol} (hl : 1 ≤ w.ts.length) : w.ins.ts.length = 2 := lin_len (lead_ne hl)
theorem lin_top {w : Pol} {a b : Rat} (ha : a ≠ 0) (hl : 2 ≤ w.ts.length) : ((Pol.lin a b).comp w).ts.length = w.ts.length ∧ ((Pol.lin a b).comp w).co w.deg = a * w.co w.deg ∧ ((Pol.lin a b).comp w).co 0 = a * w.co 0 + b := by
  have l := len_comp (f := Pol.lin a b) (g := w) (lin_ne ha) hl
  rw [lin_len ha] at l
  refine ⟨by omega, ?_, ?_⟩
  · have h := comp_top (f := Pol.lin a b) (g := w) (lin_ne ha) hl
    have d : (Pol.lin a b).deg = 1 := by unfold Pol.deg; rw [lin_len ha]
    rw [d, co_lin1, Nat.one_mul] at h
    rw [h]; grind
  · have e : ∀ p : Pol, p.co 0 = p.ev 0 := fun p => by
      unfold Pol.co Pol.ev
      rw [divInt_div]
      congr 1
      cases p.ts with
      | nil => simp [evZ]
      | cons t ts => simp [evZ]; grind
    rw [e, e, ev_comp, ev_lin]
theorem ins_nm {w : Pol} (hl : 2 ≤ w.ts.length) : w.ins.comp w.nm = w := Pol.ext_ev fun x => by
  have hz := lead_ne (f := w) (by omega)
  rw [ev_comp, ev_ins, ev_nm]; grind
theorem comp_assoc {f g k : Pol} : (f.comp g).comp k = f.comp (g.comp k) := Pol.ext_ev fun x => by rw [ev_comp, ev_comp, ev_comp, ev_comp]
theorem comp_lin_len {g i : Pol} (hg : g.ts ≠ []) (hi : i.ts.length = 2) : (g.comp i).ts.length = g.ts.length := by
  rw [len_comp hg (by omega), hi]
  have := List.length_pos_iff.mpr hg
  omega
end NW
namespace NW
open PySem PySem.Spec PyProof.Rows L2
theorem evC_snoc {x : Rat} : ∀ {n : Nat} {f : Nat → Rat}, evC (n + 1) f x = evC n f x + f n * x ^ n
  | 0, f => by simp [evC]; grind
  | n + 1, f => by
    rw [evC, evC_snoc (n := n) (f := fun k => f (k + 1)), evC]
    grind
theorem rpow_add {x : Rat} {a : Nat} : ∀ {b : Nat}, x ^ (a + b) = x ^ a * x ^ b
  | 0 => by simp
  | b + 1 => by rw [← Nat.add_assoc, Rat.pow_succ, rpow_add, Rat.pow_succ]; grind
theorem mul0 (t : Int) (us : List Int) : (us.map fun u => t * u).getD 0 0 = t * us.getD 0 0 := getD_map (by simp) us 0
theorem mulZ_zero {t : Int} {ts us : List Int} : (mulZ (t :: ts) us).getD 0 0 = t * us.getD 0 0 := by
  rw [mulZ, addZ_get, mul0]; simp
theorem mulZ_succ {t : Int} {ts us : List Int} {k : Nat} : (mulZ (t :: ts) us).getD (k + 1) 0 = t * us.getD (k + 1) 0 + (mulZ ts us).getD k 0 := by
  rw [mulZ, addZ_get, getD_map (by simp)]; simp
theorem addZ_length : ∀ {ts us : List Int}, (addZ ts us).length = max ts.length us.length
  | [], us => by simp [addZ]
  | t :: ts, [] => by simp [addZ]
  | t :: ts, u :: us => by rw [addZ, List.length_cons, addZ_length]; simp
theorem mulZ_length : ∀ {ts us : List Int}, us ≠ [] → ts ≠ [] → (mulZ ts us).length + 1 = ts.length + us.length
  | [], us, _, h => absurd rfl h
  | [t], us, h, _ => by
    have := List.length_pos_iff.mpr h
    simp [mulZ, addZ_length]; omega
  | t :: u :: ts, us, h, _ => by
    have ih := mulZ_length (ts := u :: ts) h (by simp)
    have := List.length_pos_iff.mpr h
    rw [mulZ, addZ_length]
    simp at ih ⊢
    omega
def WB (C E : Nat) (F : List Int) : Prop := ∀ k, (F.getD k 0).natAbs ≤ C * E ^ k
theorem WB.mul' : ∀ {F G : List Int} {C C' E : Nat}, WB C E F → WB C' E G → ∀ k, ((mulZ F G).getD k 0).natAbs ≤ (k + 1) * (C * C' * E ^ k)
  | [], G, C, C', E, _, _, k => by simp [mulZ]
  | t :: ts, G, C, C', E, hF, hG, 0 => by
    rw [mulZ_zero, Int.natAbs_mul]
    have a := hF 0
    have b := hG 0
    simp at a b ⊢
    exact Nat.mul_le_mul a (by simpa using b)
  | t :: ts, G, C, C', E, hF, hG, k + 1 => by
    rw [mulZ_succ]
    have ih := WB.mul' (F := ts) (G := G) (C := C * E) (C' := C') (E := E) (fun j => by
      have := hF (j + 1)
      rw [List.getD_cons_succ, Nat.pow_succ, Nat.mul_comm (E ^ j), ← Nat.mul_assoc] at this
      exact this) hG k
    have a := hF 0
    have b := hG (k + 1)
    simp at a
    have c := Nat.mul_le_mul a b
    rw [← Int.natAbs_mul] at c
    have e1 : C * (C' * E ^ (k + 1)) = C * C' * E ^ (k + 1) := by rw [Nat.mul_assoc]
    have e2 : C * E * C' * E ^ k = C * C' * E ^ (k + 1) := by rw [Nat.pow_succ]; ac_rfl
    rw [e1] at c
    rw [e2] at ih
    have := Int.natAbs_add_le (t * G.getD (k + 1) 0) ((mulZ ts G).getD k 0)
    have e3 : (k + 1 + 1) * (C * C' * E ^ (k + 1)) = (k + 1) * (C * C' * E ^ (k + 1)) + C * C' * E ^ (k + 1) := by rw [Nat.add_mul (k + 1) 1, Nat.one_mul]
    omega
theorem WB.mul {F G : List Int} {C C' E : Nat} (hF : WB C E F) (hG : WB C' E G) : WB (C * C') (2 * E) (mulZ F G) := fun k => by
  refine Nat.le_trans (WB.mul' hF hG k) ?_
  have h2 : k + 1 ≤ 2 ^ k := Nat.lt_two_pow_self
  rw [Nat.mul_pow]
  calc (k + 1) * (C * C' * E ^ k) ≤ 2 ^ k * (C * C' * E ^ k) := Nat.mul_le_mul_right _ h2
    _ = C * C' * (2 ^ k * E ^ k) := by ac_rfl
theorem WB.mono {F : List Int} {C C' E E' : Nat} (h : WB C E F) (hC : C ≤ C') (hE : E ≤ E') : WB C' E' F := fun k => Nat.le_trans (h k) (Nat.mul_le_mul hC (Nat.pow_le_pow_left hE k))
structure W (d D c : Nat) (F : List Int) (p : Pol) : Prop where
  len : F.length = d + 1
  D0 : 0 < D
  c0 : 0 < c
  co : ∀ k, k ≤ d → p.co (d - k) = (F.getD k 0 : Rat) / (((c * D ^ k : Nat) : Int) : Rat)
  out : ∀ j, d < j → p.co j = 0
theorem nat_ne {n : Nat} (h : 0 < n) : (((n : Nat) : Int) : Rat) ≠ 0 := fun e => by have := Rat.intCast_eq_zero_iff.mp e; omega
theorem W.plen {d D c : Nat} {F : List Int} {p : Pol} (h : W d D c F p) : p.ts.length ≤ d + 1 := by
  rcases Nat.lt_or_ge (d + 1) p.ts.length with g | g
  · have := h.out (p.ts.length - 1) (by omega)
    exact absurd this (co_lead fun e => by rw [e] at g; simp at g)
  · exact g
theorem evW {x : Rat} (hx : x ≠ 0) {D : Nat} (hD : 0 < D) : ∀ {F : List Int} {d c : Nat} {f : Nat → Rat}, 0 < c → F.length = d + 1 → (∀ k, k ≤ d → f (d - k) = (F.getD k 0 : Rat) / (((c * D ^ k : Nat) : Int) : Rat)) → evC (d + 1) f x * (((c : Nat) : Int) : Rat) = x ^ d * evZ F (1 / ((((D : Nat) : Int) : Rat) * x))
  | [], d, c, f, _, hl, _ => by simp at hl
  | [t], d, c, f, hc, hl, h => by
    have d0 : d = 0 := by simpa using hl.symm
    subst d0
    have h0 := h 0 (by omega)
    have nc := nat_ne hc
    simp at h0
    simp [evC, evZ]
    rw [h0]
    grind
  | t :: u :: F, d, c, f, hc, hl, h => by
    obtain ⟨e, rfl⟩ : ∃ e, d = e + 1 := ⟨d - 1, by simp at hl; omega⟩
    have nc := nat_ne hc
    have nD := nat_ne hD
    have ih := evW hx hD (F := u :: F) (d := e) (c := c * D) (f := f) (Nat.mul_pos hc hD) (by simpa using hl) fun k hk => by
      have := h (k + 1) (by omega)
      rw [show e + 1 - (k + 1) = e - k by omega, List.getD_cons_succ, Nat.pow_succ, Nat.mul_comm (D ^ k), ← Nat.mul_assoc] at this
      exact this
    have h0 := h 0 (by omega)
    simp at h0
    rw [evC_snoc, evZ, h0]
    rw [Int.natCast_mul, Rat.intCast_mul] at ih
    have e1 : evC (e + 1) f x * (((c : Nat) : Int) : Rat) = x ^ e * evZ (u :: F) (1 / ((((D : Nat) : Int) : Rat) * x)) / (((D : Nat) : Int) : Rat) := by grind
    rw [Rat.add_mul, e1]
    generalize evZ (u :: F) (1 / ((((D : Nat) : Int) : Rat) * x)) = Z
    grind
theorem W.ev {d D c : Nat} {F : List Int} {p : Pol} (h : W d D c F p) {x : Rat} (hx : x ≠ 0) : p.ev x * (((c : Nat) : Int) : Rat) = x ^ d * evZ F (1 / ((((D : Nat) : Int) : Rat) * x)) := by
  rw [ev_co h.plen]
  exact evW hx h.D0 h.c0 h.len h.co
theorem Pol.ext_pos {p q : Pol} (h : ∀ n : Int, 0 < n → p.ev (n : Rat) = q.ev (n : Rat)) : p = q := by
  have hp := p.hb
  have hq := q.hb
  have hp' := p.bne
  have hq' := q.bne
  refine Pol.ext_co fun k => ?_
  have key : ∀ n : Int, 0 < n → evI (p.ts.map fun t => (q.b : Int) * t) n = evI (q.ts.map fun t => (p.b : Int) * t) n := fun n hn => by
    refine Rat.intCast_inj.mp ?_
    rw [← evI_cast, ← evI_cast, evZ_mul, evZ_mul]
    have := h n hn
    unfold Pol.ev at this
    grind
  have := evI_get key k
  rw [getD_map (by simp), getD_map (by simp)] at this
  unfold Pol.co
  refine (Rat.divInt_eq_divInt_iff (by omega) (by omega)).mpr ?_
  rw [Int.mul_comm, this, Int.mul_comm]
def ofW (d D c : Nat) (F : List Int) : Pol := NW.mk ((List.range (d + 1)).map fun j => F.getD (d - j) 0 * ((D ^ j : Nat) : Int)) (c * D ^ d)
theorem ofW_W {d D c : Nat} {F : List Int} (hl : F.length = d + 1) (hD : 0 < D) (hc : 0 < c) : W d D c F (ofW d D c F) := by
  have hb : 0 < c * D ^ d := Nat.mul_pos hc (Nat.pow_pos hD)
  have g : ∀ j, (ofW d D c F).co j = if j ≤ d then Rat.divInt (F.getD (d - j) 0 * ((D ^ j : Nat) : Int)) ((c * D ^ d : Nat) : Int) else 0 := fun j => by
    unfold ofW
    rw [co_mk hb, List.getD_eq_getElem?_getD, List.getElem?_map]
    by_cases hj : j ≤ d
    · rw [List.getElem?_range (by omega), if_pos hj]; rfl
    · rw [List.getElem?_eq_none (by simp; omega), if_neg hj]; simp
  refine ⟨hl, hD, hc, fun k hk => ?_, fun j hj => by rw [g, if_neg (by omega)]⟩
  rw [g, if_pos (by omega), show d - (d - k) = k by omega, divInt_div]
  have e : D ^ d = D ^ k * D ^ (d - k) := by rw [← Nat.pow_add]; congr 1; omega
  rw [e, ← Nat.mul_assoc, Int.natCast_mul (c * D ^ k), Rat.intCast_mul, Rat.intCast_mul]
  have n1 := nat_ne (n := D ^ (d - k)) (Nat.pow_pos hD)
  have n2 := nat_ne (n := c * D ^ k) (Nat.mul_pos hc (Nat.pow_pos hD))
  grind
theorem W.of_ev {d D c : Nat} {F : List Int} {p : Pol} (hl : F.length = d + 1) (hD : 0 < D) (hc : 0 < c) (h : ∀ x : Rat, x ≠ 0 → p.ev x * (((c : Nat) : Int) : Rat) = x ^ d * evZ F (1 / ((((D : Nat) : Int) : Rat) * x))) : W d D c F p := by
  have w := ofW_W hl hD hc
  have : p = ofW d D c F := Pol.ext_pos fun n hn => by
    have nx : (n : Rat) ≠ 0 := fun e => by have := Rat.intCast_eq_zero_iff.mp e; omega
    have a := h n nx
    have b := w.ev nx
    have nc := nat_ne hc
    grind
  rw [this]; exact w
theorem W.eq_ofW {d D c : Nat} {F : List Int} {p : Pol} (h : W d D c F p) : p = ofW d D c F := Pol.ext_co fun j => by
  have w := ofW_W h.len h.D0 h.c0
  by_cases hj : j ≤ d
  · have a := h.co (d - j) (by omega)
    have b := w.co (d - j) (by omega)
    rw [show d - (d - j) = j by omega] at a b
    rw [a, b]
  · rw [h.out j (by omega), w.out j (by omega)]
theorem W.mul {d d' D c c' : Nat} {F G : List Int} {p q : Pol} (hp : W d D c F p) (hq : W d' D c' G q) : W (d + d') D (c * c') (mulZ F G) (p * q) := by
  refine W.of_ev ?_ hp.D0 (Nat.mul_pos hp.c0 hq.c0) fun x hx => ?_
  · have := mulZ_length (ts := F) (us := G) (fun e => by have := hq.len; rw [e] at this; simp at this) (fun e => by have := hp.len; rw [e] at this; simp at this)
    have := hp.len
    have := hq.len
    omega
  · have a := hp.ev hx
    have b := hq.ev hx
    rw [ev_mul, evZ_mulZ, Int.natCast_mul, Rat.intCast_mul, rpow_add]
    grind
theorem W.sz {d D c C E n : Nat} {F : List Int} {p : Pol} (h : W d D c F p) (hF : WB C E F) (hE : D ≤ E) (h1 : c * D ^ d < 2 ^ n) (h2 : C * E ^ d < 2 ^ n) : PBt n (d + 1) p := by
  rw [h.eq_ofW]
  refine PBt.mk (Nat.mul_pos h.c0 (Nat.pow_pos h.D0)) (by simp) h1 fun t ht => ?_
  obtain ⟨j, hj, rfl⟩ := List.mem_map.mp ht
  have hj' : j < d + 1 := List.mem_range.mp hj
  rw [Int.natAbs_mul, Int.natAbs_natCast]
  refine Nat.lt_of_le_of_lt (Nat.mul_le_mul (hF _) (Nat.pow_le_pow_left hE j)) ?_
  rw [Nat.mul_assoc, ← Nat.pow_add, show d - j + j = d by omega]
  exact h2
end NW
namespace NW
open PySem PySem.Spec PyProof.Rows L2
def pwZ (F : List Int) : Nat → List Int
  | 0 => [1]
  | i + 1 => mulZ (pwZ F i) F
theorem W.one {D : Nat} (hD : 0 < D) : W 0 D 1 [1] Pol.one := ⟨rfl, hD, by omega, fun k hk => by
  have : k = 0 := by omega
  subst this
  simp [Pol.co, Pol.one, divInt_div], fun j hj => by
  obtain ⟨i, rfl⟩ : ∃ i, j = i + 1 := ⟨j - 1, by omega⟩
  simp [Pol.co, Pol.one]⟩
theorem W.pw {d D : Nat} {F : List Int} {p : Pol} (h : W d D 1 F p) : ∀ {i : Nat}, W (i * d) D 1 (pwZ F i) (p.pw i)
  | 0 => by rw [Nat.zero_mul]; exact W.one h.D0
  | i + 1 => by
    rw [Nat.add_mul, Nat.one_mul]
    exact (W.pw h (i := i)).mul h
theorem WB.pw {E : Nat} {F : List Int} (h : WB 1 E F) : ∀ {i : Nat}, WB 1 (2 ^ i * E) (pwZ F i)
  | 0 => fun k => by
    cases k with
    | zero => simp [pwZ]
    | succ k => simp [pwZ]
  | i + 1 => by
    have a := (WB.pw h (i := i)).mul (h.mono (Nat.le_refl 1) (show E ≤ 2 ^ i * E from Nat.le_mul_of_pos_left _ (Nat.two_pow_pos i)))
    rw [show 2 ^ (i + 1) * E = 2 * (2 ^ i * E) by rw [Nat.pow_succ]; ac_rfl]
    exact a
def Dm (m : Int) (F : List Int) : Prop := F.getD 0 0 = 1 ∧ ∀ k, m ∣ F.getD (k + 1) 0
theorem mul_mod2 {m : Int} {G : List Int} (hG : Dm m G) : ∀ {ts : List Int}, (∀ k, m ∣ ts.getD k 0) → ∀ k, m * m ∣ (mulZ ts G).getD k 0 - ts.getD k 0
  | [], _, k => by simp [mulZ]
  | t :: ts, h, 0 => by
    rw [mulZ_zero, hG.1]; simp
  | t :: ts, h, k + 1 => by
    rw [mulZ_succ, List.getD_cons_succ]
    have ih := mul_mod2 hG (ts := ts) (fun j => by simpa using h (j + 1)) k
    have a : m * m ∣ t * G.getD (k + 1) 0 := Int.mul_dvd_mul (by simpa using h 0) (hG.2 k)
    have := Int.dvd_add a ih
    rwa [← Int.add_sub_assoc] at this
theorem cons_of {F : List Int} (h : F.getD 0 0 = 1) : ∃ ts, F = 1 :: ts := by
  cases F with
  | nil => simp at h
  | cons t ts => simp at h; exact ⟨ts, by rw [h]⟩
theorem Dm.mul {m : Int} {F G : List Int} (hF : Dm m F) (hG : Dm m G) : ∀ k, m * m ∣ (mulZ F G).getD (k + 1) 0 - (G.getD (k + 1) 0 + F.getD (k + 1) 0) := fun k => by
  obtain ⟨ts, rfl⟩ := cons_of hF.1
  have a := mul_mod2 hG (ts := ts) (fun j => by simpa using hF.2 j) k
  rw [mulZ_succ, Int.one_mul, List.getD_cons_succ]
  rwa [show G.getD (k + 1) 0 + (mulZ ts G).getD k 0 - (G.getD (k + 1) 0 + ts.getD k 0) = (mulZ ts G).getD k 0 - ts.getD k 0 by omega]
theorem Dm.prod {m : Int} {F G : List Int} (hF : Dm m F) (hG : Dm m G) : Dm m (mulZ F G) := by
  refine ⟨?_, fun k => ?_⟩
  · obtain ⟨ts, rfl⟩ := cons_of hF.1
    rw [mulZ_zero, hG.1]; rfl
  · have a := Int.dvd_trans (Int.dvd_mul_right m m) (hF.mul hG k)
    have b := Int.dvd_add (hG.2 k) (hF.2 k)
    have := Int.dvd_add a b
    rwa [show (mulZ F G).getD (k + 1) 0 - (G.getD (k + 1) 0 + F.getD (k + 1) 0) + (G.getD (k + 1) 0 + F.getD (k + 1) 0) = (mulZ F G).getD (k + 1) 0 by omega] at this
theorem Dm.one {m : Int} : Dm m [1] := ⟨rfl, fun k => by simp⟩
theorem Dm.pw {m : Int} {F : List Int} (h : Dm m F) : ∀ {i : Nat}, Dm m (pwZ F i)
  | 0 => Dm.one
  | i + 1 => (Dm.pw h (i := i)).prod h
theorem pw_mod2 {m : Int} {F : List Int} (h : Dm m F) {k : Nat} : ∀ {i : Nat}, m * m ∣ (pwZ F i).getD (k + 1) 0 - (i : Int) * F.getD (k + 1) 0
  | 0 => by simp [pwZ]
  | i + 1 => by
    have ih := pw_mod2 h (k := k) (i := i)
    have a := (Dm.pw h (i := i)).mul h k
    have := Int.dvd_add a ih
    rw [pwZ]
    rwa [show (mulZ (pwZ F i) F).getD (k + 1) 0 - (F.getD (k + 1) 0 + (pwZ F i).getD (k + 1) 0) + ((pwZ F i).getD (k + 1) 0 - (i : Int) * F.getD (k + 1) 0) = (mulZ (pwZ F i) F).getD (k + 1) 0 - ((i + 1 : Nat) : Int) * F.getD (k + 1) 0 by rw [Int.natCast_add, Int.add_mul]; omega] at this
theorem smI_congr {f g : Nat → Int} : ∀ {n : Nat}, (∀ j, j < n → f j = g j) → smI n f = smI n g
  | 0, _ => rfl
  | n + 1, h => by rw [smI, smI, smI_congr fun j hj => h j (by omega), h n (by omega)]
def Ag (k : Nat) (δ : Int) (A B : List Int) : Prop := (∀ j, j < k → A.getD j 0 = B.getD j 0) ∧ A.getD k 0 = B.getD k 0 + δ
theorem Ag.mul {k : Nat} {α β : Int} {A A' G G' : List Int} (hA : Ag (k + 1) α A A') (hG : Ag (k + 1) β G G') : Ag (k + 1) (α * G'.getD 0 0 + A'.getD 0 0 * β) (mulZ A G) (mulZ A' G') := by
  refine ⟨fun j hj => ?_, ?_⟩
  · rw [mulZ_get, mulZ_get]
    exact smI_congr fun i hi => by rw [hA.1 i (by omega), hG.1 (j - i) (by omega)]
  · rw [mulZ_get, mulZ_get, smI_succ, smI_succ (n := k + 1), smI, smI]
    rw [smI_congr (n := k) (g := fun i => A'.getD (i + 1) 0 * G'.getD (k + 1 - (i + 1)) 0) fun i hi => by rw [hA.1 (i + 1) (by omega), hG.1 (k + 1 - (i + 1)) (by omega)]]
    rw [hA.1 0 (by omega), Nat.sub_self, hG.1 0 (by omega), hA.2, show k + 1 - 0 = k + 1 by omega, hG.2]
    rw [Int.mul_add, Int.add_mul]
    omega
theorem Ag.pw {k : Nat} {δ : Int} {F G : List Int} (h : Ag (k + 1) δ F G) (h1 : G.getD 0 0 = 1) : ∀ {i : Nat}, Ag (k + 1) ((i : Int) * δ) (pwZ F i) (pwZ G i) ∧ (pwZ G i).getD 0 0 = 1
  | 0 => ⟨⟨fun j hj => rfl, by simp [pwZ]⟩, rfl⟩
  | i + 1 => by
    obtain ⟨a, b⟩ := Ag.pw h h1 (i := i)
    have := a.mul h
    rw [h1, b] at this
    refine ⟨?_, ?_⟩
    · rw [pwZ, pwZ, show ((i + 1 : Nat) : Int) * δ = (i : Int) * δ * 1 + 1 * δ by rw [Int.natCast_add, Int.add_mul]; omega]
      exact this
    · rw [pwZ]
      obtain ⟨ts, e⟩ := cons_of b
      rw [e, mulZ_zero, h1]; rfl
end NW
namespace NW
open PySem PySem.Spec PyProof.Rows L2
theorem polyx {S : PyData} {qs : List Rat} {n L : Nat} {P : PyData → Prop} (hS : SeqD S (qs.map fracD)) (hq : ∀ q, q ∈ qs → FB n q) (hL : lcms 1 qs < 2 ^ L) (hL0 : 0 < L) (hn : L ≤ 400000) (h0 : 0 < n) (hn' : n ≤ 400000) (hl : qs.length ≤ 16777216) (h : P (polyD (ofC qs))) : (m_poly [S]).To P := by
  unfold m_poly
  rw [pure_to]
  unfold b_poly
  simp [startL, hS.src]
  try refine ⟨_, _, ⟨rfl, rfl⟩, ?_⟩
  refine for_to (I := fun zs l s => s = ⟨none, []⟩ ∧ ∃ (as bs : List Rat) (v w : Option U) (c : Nat), qs = as ++ bs ∧ zs = bs.map fracD ∧ l = [some (.d S), some (.d (.int c)), v, w] ∧ lcms c bs = lcms 1 qs ∧ 0 < c ∧ c < 2 ^ L) (fun _ _ _ _ => chk_nil) ?_ ?_ _ _ _ ⟨rfl, [], qs, none, none, 1, rfl, rfl, rfl, rfl, by decide, Nat.lt_of_le_of_lt (Nat.le_of_dvd (lcms_pos (by decide)) lcms_dvd.1) hL⟩
  · rintro x zs l s ⟨rfl, as, bs, v, w, c, e1, e2, rfl, e3, e4, e5⟩
    cases bs with
    | nil => cases e2
    | cons q bs =>
      cases e2
      have fq := hq q (by rw [e1]; simp)
      have m1 : mulC c q.den = true := mulC_of (a := L) (b := n) (by simpa using e5) (by simpa using fq.2) hL0 h0 (by omega)
      have hg : 0 < Nat.gcd c q.den := Nat.gcd_pos_of_pos_left _ e4
      have hg2 : True := trivial
      simp [fracD, m1]
      refine common_part_to ?_
      simp [divC_nat hg hg2, lcm_eq c q.den e4]
      refine ⟨as ++ [q], bs, by rw [e1]; simp, rfl, _, _, _, ⟨rfl, rfl, rfl⟩, e3, Nat.lcm_pos e4 q.den_pos, ?_⟩
      have e3' : lcms (Nat.lcm c q.den) bs = lcms 1 qs := e3
      have := (lcms_dvd (qs := bs) (b := Nat.lcm c q.den)).1
      rw [e3'] at this
      exact Nat.lt_of_le_of_lt (Nat.le_of_dvd (lcms_pos (by decide)) this) hL
  · rintro l s ⟨rfl, as, bs, v, w, c, e1, e2, rfl, e3, e4, e5⟩
    have : bs = [] := by cases bs with | nil => rfl | cons c bs => cases e2
    subst this
    have e3' : c = lcms 1 qs := e3
    subst e3'
    rw [List.append_nil] at e1
    subst e1
    have hB : True := trivial
    simp [hS.src]
    first | refine ⟨_, _, ⟨rfl, rfl⟩, by simpa using hl, ?_⟩ | refine ⟨by simpa using hl, ?_⟩
    refine lc_mapA (g := fun q => .int (q.num * ((lcms 1 qs / q.den : Nat) : Int))) chk_nil ?_ ?_
    · intro q hq'
      have fq := hq q hq'
      have hd : 0 < q.den := q.den_pos
      have hq1 : True := trivial
      have hl2 : True := trivial
      have e : ((lcms 1 qs : Nat) : Int).fdiv (q.den : Int) = ((lcms 1 qs / q.den : Nat) : Int) := by
        rw [Int.fdiv_eq_ediv_of_nonneg _ (by omega), Int.natCast_ediv]
      have m1 : mulC q.num ((lcms 1 qs / q.den : Nat) : Int) = true := mulC_of (a := n) (b := L) fq.1 (by rw [Int.natAbs_natCast]; exact Nat.lt_of_le_of_lt (Nat.div_le_self _ _) hL) h0 (by omega) (by omega)
      rw [Int.natCast_ediv] at m1 e
      simp [wipeL, fracD, divC_nat hd hq1, e, m1]
    · unfold ofC at h
      refine over_to (.inl ?_) (lcms_pos (by decide)) hB ?_ h
      · rw [List.map_map]; rfl
      · simpa using hl
theorem powerx {p : Pol} {n m k : Nat} {P : PyData → Prop} (hp : PBt n m p) (hk : k * m + 1 + m ≤ 1000) (hn : (k - 1) * (n + 10) + 1 + n ≤ 999990) (hk9 : k ≤ 100) (h : P (polyD (p.pw k))) : (m_power [polyD p, .int k]).To P := by
  unfold m_power
  rw [pure_to]
  unfold b_power
  simp [startL]
  refine ⟨decide_eq_true (by omega), ?_⟩
  rw [range_map]
  obtain ⟨I, hI⟩ : ∃ I : Nat → NW.Loc → Sto → Prop, ∀ j l s, I j l s ↔ j ≤ k ∧ ∃ (v : Option U), l = [some (.d (polyD p)), some (.d (.int k)), some (.d (polyD (p.pw j))), v] ∧ s = ⟨none, []⟩ := ⟨_, fun _ _ _ => Iff.rfl⟩
  refine for_ix I (fun _ _ _ _ => chk_nil) ((hI _ _ _).mpr ⟨by omega, none, rfl, rfl⟩) ?_ ?_
  · rintro j x l s hx h
    obtain ⟨hj, v, rfl, rfl⟩ := (hI _ _ _).mp h
    have hx' := (List.getElem?_eq_some_iff.mp hx).1
    simp at hx'
    have e1 : j * m ≤ k * m := Nat.mul_le_mul_right _ hj
    have e2 : j * (n + 10) ≤ (k - 1) * (n + 10) := Nat.mul_le_mul_right _ (by omega)
    simp
    refine timesx (hp.pw (by omega)) hp (by omega) (by omega) (by omega) ?_
    exact (hI _ _ _).mpr ⟨by omega, _, rfl, rfl⟩
  · intro l s h'
    obtain ⟨hj, v, rfl, rfl⟩ := (hI _ _ _).mp h'
    simp at hj ⊢
    exact h
def mono (c : Rat) (e : Nat) : Pol := NW.ofC (List.replicate e 0 ++ [c])
theorem co_mono {c : Rat} {e j : Nat} : (mono c e).co j = if j = e then c else 0 := by
  unfold mono
  rw [co_ofC, List.getD_eq_getElem?_getD]
  rcases Nat.lt_trichotomy j e with h | h | h
  · rw [List.getElem?_append_left (by simpa using h), if_neg (by omega), List.getElem?_replicate, if_pos h]; rfl
  · rw [List.getElem?_append_right (by simp; omega), if_pos h]
    simp [h]
  · rw [List.getElem?_eq_none (by simp; omega), if_neg (by omega)]; rfl
theorem lcms_mono {c : Rat} : ∀ {e b : Nat}, 0 < b → lcms b (List.replicate e (0 : Rat) ++ [c]) = Nat.lcm b c.den
  | 0, b, _ => rfl
  | e + 1, b, hb => by
    rw [List.replicate_succ, List.cons_append, lcms]
    have : (0 : Rat).den = 1 := rfl
    rw [this, Nat.lcm_one_right, lcms_mono hb]
theorem mono_sz {c : Rat} {e n : Nat} (h : FB n c) : PBt n (e + 1) (mono c e) := by
  refine PBt.rep (D := c.den) (N := fun j => if j = e then c.num else 0) c.den_pos (fun j => ?_) h.2 (fun j => ?_) fun j hj => by rw [co_mono, if_neg (by omega)]
  · rw [co_mono]
    split
    · exact (Rat.num_divInt_den c).symm
    · simp
  · show (if j = e then c.num else 0).natAbs < _
    split
    · exact h.1
    · simp [Nat.two_pow_pos]
theorem flat1 {x : PyData} : ∀ n : Nat, (List.replicate n [x]).flatten = List.replicate n x
  | 0 => rfl
  | n + 1 => by rw [List.replicate_succ, List.flatten_cons, flat1, List.replicate_succ]; rfl
theorem fMulA_k {x : PyData} {k : Int} {st : Sto} (h0 : 0 ≤ k) (h1 : k ≤ 1000) {r : Nat} (hr : k.toNat = r) : fMulA (.d (.list [x])) (.d (.int k)) st = .ok (.d (.list (List.replicate r x))) st := by
  have e : fMulA (.d (.list [x])) (.d (.int k)) st = if (decide (-(2 ^ 63) ≤ k ∧ k < 2 ^ 63) && lenOk ([x].length * k.toNat)) = true then Res.ok (U.d (.list (List.replicate k.toNat [x]).flatten)) st else .no := rfl
  have c : (decide (-(2 ^ 63) ≤ k ∧ k < 2 ^ 63) && lenOk ([x].length * k.toNat)) = true := by
    rw [Bool.and_eq_true, decide_eq_true_eq, lenOk_small, List.length_singleton, Nat.one_mul]
    exact ⟨⟨by omega, by omega⟩, by omega⟩
  rw [e, if_pos c, flat1, hr]
theorem one_power_to {c : Rat} {e n : Nat} {P : PyData → Prop} (h : FB n c) (h0 : 0 < n) (hn : n ≤ 400000) (he : e ≤ 1000) (hP : P (polyD (mono c e))) : (m_one_power [fracD c, .int e]).To P := by
  unfold m_one_power
  rw [pure_to]
  unfold b_one_power
  simp [startL]
  rw [fMulA_k (r := e) (by omega) (by omega) (by omega)]
  simp
  rw [fracD_0]
  have e1 : List.replicate e (fracD 0) ++ [fracD c] = (List.replicate e (0 : Rat) ++ [c]).map fracD := by simp
  rw [e1]
  refine ⟨by omega, ?_⟩
  refine polyx (n := n) (L := n) (.inl rfl) (fun q hq => ?_) ?_ h0 hn h0 hn (by simp; omega) hP
  · rcases List.mem_append.mp hq with hq | hq
    · rw [(List.mem_replicate.mp hq).2]; exact FB.zero h0
    · have : q = c := by simpa using hq
      rw [this]; exact h
  · rw [lcms_mono (by decide), Nat.lcm_one_left]
    exact h.2
end NW
namespace NW
open PySem PySem.Spec PyProof.Rows L2
theorem cut {a b : MS} {l : NW.Loc} {st : Sto} {N : NW.Loc → Sto → Prop} {R : U → Sto → Prop} (M : NW.Loc → Sto → Prop) (h1 : (a l st).To M R) (h2 : ∀ l s, M l s → (b l s).To N R) : (sSeq a b l st).To N R := by
  rw [to_sSeq]
  exact h1.mono h2 fun _ _ h => h
end NW
namespace NW
open PySem PySem.Spec PyProof.Rows L2
def rw_ (w : Nat) (f : Nat → Rat) : List PyData := (List.range w).map fun j => fracD (f j)
def sumsD (n m : Nat) (M : Nat → Nat → Rat) : PyData := .tuple ((List.range n).map fun i => .tuple [.tuple (rw_ m (M i)), fracD (M i m)])
theorem nought_eq : c_NONE_AT_ALL = fracD 0 := rfl
theorem once_eq : c_ONCE = fracD 1 := rfl
@[simp] theorem rw_len {w : Nat} {f : Nat → Rat} : (rw_ w f).length = w := by simp [rw_]
theorem rw_get {w : Nat} {f : Nat → Rat} {j : Nat} (h : j < w) : (rw_ w f)[j]? = some (fracD (f j)) := by simp [rw_, h]
theorem rw_congr {w : Nat} {f g : Nat → Rat} (h : ∀ j, j < w → f j = g j) : rw_ w f = rw_ w g := by
  unfold rw_
  exact List.map_congr_left fun j hj => by rw [h j (List.mem_range.mp hj)]
theorem zip_rw {w : Nat} {f g : Nat → Rat} : zipD (rw_ w f) (rw_ w g) = (List.range w).map fun j => .tuple [fracD (f j), fracD (g j)] := by
  unfold zipD rw_
  rw [List.zip_map', List.map_map]
  rfl
theorem FB.subm {p q : Rat} {a b : Nat} (hp : FB a p) (hq : FB b q) : FB (a + b + 1) (p - q) := by
  have h1 := hp.mono (show a ≤ a + b by omega)
  rw [← sub_divInt]
  refine FB.of_divInt (Int.mul_ne_zero (den_ne p) (den_ne q)) ?_ ?_
  · have x1 : (p.num * q.den).natAbs < 2 ^ (a + b) := by
      rw [Int.natAbs_mul, Nat.pow_add]
      exact Nat.mul_lt_mul'' hp.1 hq.2
    have x2 : (q.num * p.den).natAbs < 2 ^ (a + b) := by
      rw [Int.natAbs_mul, Nat.add_comm, Nat.pow_add]
      exact Nat.mul_lt_mul'' hq.1 hp.2
    rw [Nat.pow_succ]
    omega
  · have x1 : ((p.den : Int) * q.den).natAbs < 2 ^ (a + b) := by
      rw [Int.natAbs_mul, Nat.pow_add]
      exact Nat.mul_lt_mul'' hp.2 hq.2
    rw [Nat.pow_succ]
    omega
theorem FB.mulm {p q : Rat} {a b : Nat} (hp : FB a p) (hq : FB b q) : FB (a + b) (p * q) := by
  rw [← mul_divInt]
  refine FB.of_divInt (Int.mul_ne_zero (den_ne p) (den_ne q)) ?_ ?_
  · rw [Int.natAbs_mul, Nat.pow_add]
    exact Nat.mul_lt_mul'' hp.1 hq.1
  · rw [Int.natAbs_mul, Nat.pow_add]
    exact Nat.mul_lt_mul'' hp.2 hq.2
theorem less_to {β w : Nat} {f g : Nat → Rat} {r : Rat} (hf : ∀ j, j < w → FB β (f j)) (hg : ∀ j, j < w → FB (2 * β) (g j)) (hr : FB β r) (hβ : β ≤ 240000) (hw : w ≤ 1000) {P : PyData → Prop} (h : P (.list (rw_ w fun j => f j - r * g j))) :
    (m_less_times [.list (rw_ w f), .list (rw_ w g), fracD r]).To P := by
  unfold m_less_times
  rw [pure_to]
  unfold b_less_times
  simp [startL]
  refine ⟨_, _, ⟨rfl, rfl⟩, _, _, rfl, _, _, rfl, by simp; omega, ?_⟩
  rw [zip_rw]
  refine lc_mapA (f := fun j => PyData.tuple [fracD (f j), fracD (g j)]) (g := fun j => fracD (f j - r * g j)) chk_nil (fun j hj => ?_) ?_
  · have hj := List.mem_range.mp hj
    simp [wipeL]
    refine multipliedx hr (hg j hj) (by omega) ?_
    refine takenx (hf j hj) (FB.mulm hr (hg j hj)) (by omega) ?_
    simp
  · simpa [rw_] using h
def rowsL (n w : Nat) (A : Nat → Nat → Rat) : List PyData := (List.range n).map fun i => .list (rw_ w (A i))
@[simp] theorem rowsL_len {n w : Nat} {A : Nat → Nat → Rat} : (rowsL n w A).length = n := by simp [rowsL]
theorem rowsL_get {n w : Nat} {A : Nat → Nat → Rat} {i : Nat} (h : i < n) : (rowsL n w A)[i]? = some (.list (rw_ w (A i))) := by simp [rowsL, h]
theorem rowsL_snoc {n w : Nat} {A : Nat → Nat → Rat} : rowsL (n + 1) w A = rowsL n w A ++ [.list (rw_ w (A n))] := by simp [rowsL, List.range_succ]
theorem idxN_of {n k : Nat} (h : k < n) : idxN n (k : Int) = some k := by
  unfold idxN
  rw [if_pos (by omega), if_pos (by omega)]
  simp
theorem cleared_to {β n w k t : Nat} {A : Nat → Nat → Rat} (hA : ∀ i, i < n → ∀ j, j < w → FB β (A i j)) (hk : k < n) (ht : t < w) (hp : A k t ≠ 0) (hβ : β ≤ 240000) (hw : w ≤ 1000) (hn : n ≤ 1000) {P : PyData → Prop} (h : P (.list (rowsL n w (clr A k t)))) :
    (m_cleared [.list (rowsL n w A), .int k, .int t]).To P := by
  unfold m_cleared
  rw [pure_to]
  unfold b_cleared
  simp [startL, idxN_of hk, rowsL_get hk]
  refine ⟨by omega, ?_⟩
  refine lc_mapA (f := fun j => fracD (A k j)) (g := fun j => fracD (A k j / A k t)) chk_nil (fun j hj => ?_) ?_
  · have hj := List.mem_range.mp hj
    simp [wipeL, idxN_of hk, rowsL_get hk, idxN_of ht, rw_get ht]
    exact dividedx (hA k hk j hj) (hA k hk t ht) hp (by omega) (by simp)
  · rw [show (List.range w).map (fun j => fracD (A k j / A k t)) = rw_ w (fun j => A k j / A k t) from rfl]
    obtain ⟨I, hI⟩ : ∃ I : Nat → NW.Loc → Sto → Prop, ∀ i l s, I i l s ↔ ∃ v5 v6 : Option U, l = [some (.d (.list (rowsL n w A))), some (.d (.int k)), some (.d (.int t)), some (.d (.list (rw_ w fun j => A k j / A k t))), some (.ref 0), v5, v6, none] ∧ s = ⟨none, [.lst (rowsL i w (clr A k t))]⟩ := ⟨_, fun _ _ _ => Iff.rfl⟩
    refine for_ix I (fun i l s h => by obtain ⟨_, _, _, rfl⟩ := (hI _ _ _).mp h; exact chk_nil) ((hI _ _ _).mpr ⟨none, none, rfl, rfl⟩) ?_ ?_
    · rintro i x l s e hi
      obtain ⟨v5, v6, rfl, rfl⟩ := (hI _ _ _).mp hi
      obtain ⟨y, hy, rfl⟩ := enumD_get e
      have hin : i < n := by simpa using (List.getElem?_eq_some_iff.mp hy).1
      rw [rowsL_get hin] at hy
      cases hy
      simp
      by_cases e : i = k
      · refine .inr ⟨by rw [e], by omega, (hI _ _ _).mpr ⟨_, _, rfl, ?_⟩⟩
        rw [rowsL_snoc, e, rw_congr (f := clr A k t k) (g := fun j => A k j / A k t) fun j _ => clr_k]
      · refine .inl ⟨by omega, fracD (A i t), by simp [idxN_of ht, rw_get ht], ?_⟩
        refine less_to (β := β) (hA i hin) (fun j hj => (hA k hk j hj).div (hA k hk t ht) hp) (hA i hin t ht) hβ hw ?_
        refine ⟨by omega, (hI _ _ _).mpr ⟨_, _, rfl, ?_⟩⟩
        rw [rowsL_snoc, rw_congr (f := clr A k t i) fun j _ => clr_n e]
    · intro l s hi
      obtain ⟨v5, v6, rfl, rfl⟩ := (hI _ _ _).mp hi
      simp [enumD_len] at *
      exact h
theorem pureU_to {n : Nat} {b : MS} {us : List U} {P : PyData → Prop} : (pureU n b us).To P ↔ (b (startL n us) ⟨none, []⟩).To (fun _ _ => P .none) (retP P) := outP_to
def NoK (es : List (Int × PyData)) (k : Nat) : Prop := ∀ e, e ∈ es → e.1 ≠ (k : Int)
theorem noK_iff {es : List (Int × PyData)} {k : Nat} : (es.any fun e => decide (e.1 = (k : Int))) = false ↔ NoK es k := by
  rw [List.any_eq_false]
  unfold NoK
  simp
theorem rangeD_get {n i : Nat} {x : PyData} : ∀ {s : Int}, (rangeD s 1 n)[i]? = some x → i < n ∧ x = .int (s + i) := by
  induction n generalizing i with
  | zero => intro s h; simp [rangeD] at h
  | succ n ih =>
    intro s h
    rw [rangeD_cons] at h
    cases i with
    | zero => simp at h; exact ⟨by omega, by rw [← h]; simp⟩
    | succ i =>
      rw [List.getElem?_cons_succ] at h
      obtain ⟨a, rfl⟩ := ih h
      exact ⟨by omega, by congr 1; omega⟩
theorem rangeD_len {s : Int} : ∀ {n : Nat}, (rangeD s 1 n).length = n := by
  intro n
  induction n generalizing s with
  | zero => rfl
  | succ n ih => rw [rangeD_cons, List.length_cons, ih]
theorem pivot_to {n w t : Nat} {A : Nat → Nat → Rat} {es : List (Int × PyData)} (ht : t < w) (hn : n ≤ 1000) :
    (m_pivot [.d (.list (rowsL n w A)), .dct es, .d (.int t)]).To fun d => (∃ k : Nat, d = .int k ∧ k < n ∧ NoK es k ∧ A k t ≠ 0) ∨ (d = .none ∧ ∀ i, i < n → NoK es i → A i t = 0) := by
  unfold m_pivot
  rw [pureU_to]
  unfold b_pivot
  simp [startL]
  refine ⟨by unfold rOk; simp; omega, ?_⟩
  obtain ⟨I, hI⟩ : ∃ I : Nat → NW.Loc → Sto → Prop, ∀ i l s, I i l s ↔ (∀ i', i' < i → NoK es i' → A i' t = 0) ∧ ∃ v3 : Option U, l = [some (.d (.list (rowsL n w A))), some (.dct es), some (.d (.int t)), v3] ∧ s = ⟨none, []⟩ := ⟨_, fun _ _ _ => Iff.rfl⟩
  refine for_ix I (fun i l s h => by obtain ⟨_, _, _, rfl⟩ := (hI _ _ _).mp h; exact chk_nil) ((hI _ _ _).mpr ⟨by omega, none, rfl, rfl⟩) ?_ ?_
  · rintro i x l s e hi
    obtain ⟨hz, v3, rfl, rfl⟩ := (hI _ _ _).mp hi
    obtain ⟨hin, rfl⟩ := rangeD_get e
    rw [show ((0 : Int) + (i : Int)) = (i : Int) by omega]
    have hx : ∀ v : Option U, I (i + 1) [some (.d (.list (rowsL n w A))), some (.dct es), some (.d (.int t)), v] ⟨none, []⟩ ↔ (NoK es i → A i t = 0) := fun v => by
      rw [hI]
      constructor
      · rintro ⟨h, _⟩
        exact h i (by omega)
      · intro h
        refine ⟨fun i' hi' => ?_, v, rfl, rfl⟩
        by_cases e2 : i' = i
        · rw [e2]; exact h
        · exact hz i' (by omega)
    simp [hx, nought_eq]
    by_cases hk : NoK es i
    · refine .inr ⟨fun a b hab => hk (a, b) hab, .list (rw_ w (A i)), by simp [idxN_of hin, rowsL_get hin], ?_⟩
      simp [idxN_of ht, rw_get ht, hx]
      by_cases hz2 : A i t = 0
      · exact .inl ⟨hz2, fun _ => hz2⟩
      · exact .inr ⟨hz2, i, rfl, hin, hk, hz2⟩
    · refine .inl ⟨?_, fun h => absurd h hk⟩
      unfold NoK at hk
      simp at hk
      exact hk
  · intro l s hi
    obtain ⟨hz, v3, rfl, rfl⟩ := (hI _ _ _).mp hi
    rw [rangeD_len] at hz
    exact hz
def doneD (D : List (Nat × Nat)) : List (Int × PyData) := D.map fun p => ((p.1 : Int), .int (p.2 : Nat))
theorem noK_done {D : List (Nat × Nat)} {k : Nat} : NoK (doneD D) k ↔ ∀ c, (k, c) ∉ D := by
  unfold NoK doneD
  constructor
  · intro h c hc
    exact h _ (List.mem_map.mpr ⟨(k, c), hc, rfl⟩) rfl
  · intro h e he z
    obtain ⟨p, hp, rfl⟩ := List.mem_map.mp he
    have : p.1 = k := Int.ofNat.inj z
    exact h p.2 (by rw [← this]; exact hp)
theorem aug_row {n m i : Nat} {M : Nat → Nat → Rat} (hi : i < n) : rw_ m (M i) ++ [fracD (M i m)] ++ (List.replicate n (fracD 0)).set i (fracD 1) = rw_ (m + 1 + n) (aug m M i) := by
  refine List.ext_getElem? fun j => ?_
  by_cases h1 : j < m
  · rw [List.append_assoc, List.getElem?_append_left (by simpa using h1), rw_get h1, rw_get (by omega)]
    unfold aug
    rw [if_pos (by omega)]
  · by_cases h2 : j = m
    · subst h2
      rw [List.append_assoc, List.getElem?_append_right (by simp), rw_get (by omega)]
      unfold aug
      rw [if_pos (by omega)]
      simp
    · rw [List.getElem?_append_right (by simp; omega)]
      by_cases h3 : j < m + 1 + n
      · rw [rw_get h3]
        unfold aug
        rw [if_neg (by omega), List.getElem?_set]
        simp
        by_cases h4 : j = m + 1 + i
        · rw [if_pos (by omega), if_pos (by omega), if_pos h4]
        · rw [if_neg (by omega), if_neg h4, List.getElem?_replicate, if_pos (by omega)]
      · rw [List.getElem?_eq_none (by simp; omega), List.getElem?_eq_none (by simp; omega)]
theorem with_weights_to {n m : Nat} {M : Nat → Nat → Rat} (hn : n ≤ 500) (hm : m ≤ 400) {P : PyData → Prop} (h : P (.list (rowsL n (m + 1 + n) (aug m M)))) : (m_with_weights [sumsD n m M]).To P := by
  unfold m_with_weights
  rw [pure_to]
  unfold b_with_weights sumsD
  generalize hR : ((List.range n).map fun i => PyData.tuple [.tuple (rw_ m (M i)), fracD (M i m)]) = R
  have hRl : R.length = n := by rw [← hR]; simp
  simp [startL]
  obtain ⟨I, hI⟩ : ∃ I : Nat → NW.Loc → Sto → Prop, ∀ i l s, I i l s ↔ ∃ (v2 v3 v4 v5 : Option U) (os : List Ob), l = [some (.d (.tuple R)), some (.ref 0), v2, v3, v4, v5] ∧ s = ⟨none, .lst (rowsL i (m + 1 + n) (aug m M)) :: os⟩ := ⟨_, fun _ _ _ => Iff.rfl⟩
  refine for_ix I (fun i l s h => by obtain ⟨_, _, _, _, _, _, rfl⟩ := (hI _ _ _).mp h; exact chk_nil) ((hI _ _ _).mpr ⟨none, none, none, none, [], rfl, rfl⟩) ?_ ?_
  · rintro i x l s e hi
    obtain ⟨v2, v3, v4, v5, os, rfl, rfl⟩ := (hI _ _ _).mp hi
    obtain ⟨y, hy, rfl⟩ := enumD_get e
    have hin : i < n := by
      have := (List.getElem?_eq_some_iff.mp hy).1
      omega
    have : R[i]? = some (.tuple [.tuple (rw_ m (M i)), fracD (M i m)]) := by rw [← hR]; simp [hin]
    rw [this] at hy
    cases hy
    simp [hRl, nought_eq, once_eq]
    refine ⟨⟨by omega, by omega⟩, ?_⟩
    rw [show (U.d (fracD 1)) = .d (.tuple [.int (1 : Rat).num, .int ((1 : Rat).den : Int)]) from rfl, to_gSubT]
    simp [idxN_of hin]
    refine ⟨by omega, by omega, by omega, (hI _ _ _).mpr ⟨_, _, _, _, os ++ [Ob.lst ((List.replicate n (fracD 0)).set i (fracD 1))], rfl, ?_⟩⟩
    rw [rowsL_snoc, ← aug_row hin, List.append_assoc]
    rfl
  · intro l s hi
    obtain ⟨v2, v3, v4, v5, os, rfl, rfl⟩ := (hI _ _ _).mp hi
    rw [enumD_len, hRl] at *
    simp
    exact h
theorem look_done {D : List (Nat × Nat)} {k c : Nat} (h : (k, c) ∈ D) (u : ∀ c', (k, c') ∈ D → c' = c) : lookI (doneD D) (k : Int) = some (.int (c : Nat)) := by
  unfold lookI doneD
  have : ∃ e, ((D.map fun p => (((p.1 : Int), PyData.int (p.2 : Nat)) : Int × PyData)).find? fun e => decide (e.1 = (k : Int))) = some e := by
    cases e : (D.map fun p => (((p.1 : Int), PyData.int (p.2 : Nat)) : Int × PyData)).find? fun e => decide (e.1 = (k : Int)) with
    | some e => exact ⟨_, rfl⟩
    | none =>
      rw [List.find?_eq_none] at e
      have := e _ (List.mem_map.mpr ⟨(k, c), h, rfl⟩)
      simp at this
  obtain ⟨e, he⟩ := this
  have h1 := List.find?_some he
  obtain ⟨p, hp, rfl⟩ := List.mem_map.mp (List.mem_of_find?_eq_some he)
  have h2 : p.1 = k := Int.ofNat.inj (of_decide_eq_true h1)
  have h3 : p.2 = c := u p.2 (by rw [← h2]; exact hp)
  rw [he]
  simp [h3]
theorem cut_from {xs : List PyData} {k : Nat} : cutD xs (some ((k : Int) + 1)) none = xs.drop (k + 1) := by
  have : ((k : Int) + 1) = ((k + 1 : Nat) : Int) := by omega
  rw [this]
  unfold cutD
  rw [HT.sIx_nat, HT.sIx_none, List.take_of_length_le (by simp)]
  by_cases h : k + 1 ≤ xs.length
  · rw [Nat.min_eq_left h]
  · rw [Nat.min_eq_right (by omega), List.drop_eq_nil_of_le (Nat.le_refl _), List.drop_eq_nil_of_le (by omega)]
theorem rw_drop {a n : Nat} {f : Nat → Rat} : (rw_ (a + n) f).drop a = rw_ n fun r => f (a + r) := by
  refine List.ext_getElem? fun j => ?_
  rw [List.getElem?_drop]
  by_cases h : j < n
  · rw [rw_get h, rw_get (by omega)]
  · rw [List.getElem?_eq_none (by simp; omega), List.getElem?_eq_none (by simp; omega)]
theorem rw_set {n c : Nat} {f : Nat → Rat} {q : Rat} (h : c < n) : (rw_ n f).set c (fracD q) = rw_ n fun j => if j = c then q else f j := by
  refine List.ext_getElem? fun j => ?_
  rw [List.getElem?_set]
  by_cases e : c = j
  · subst e
    rw [if_pos rfl, if_pos (by simpa using h), rw_get h, if_pos rfl]
  · rw [if_neg e]
    by_cases h2 : j < n
    · rw [rw_get h2, rw_get h2, if_neg (by omega)]
    · rw [List.getElem?_eq_none (by simp; omega), List.getElem?_eq_none (by simp; omega)]
theorem solved_to {n m β : Nat} {M : Nat → Nat → Rat} (h0 : 0 < n) (hn : n ≤ 400) (hm : m ≤ 400) (hβ : β ≤ 240000) (b0 : 0 < β) (Pz : Nat → (Nat → Nat → Rat) → List (Nat × Nat) → Prop) (p0 : Pz 0 (aug m M) [])
    (pf : ∀ t A D, Lin n m M A D t → Pz t A D → ∀ i, i < n → ∀ j, j < m + 1 + n → FB β (A i j))
    (pk : ∀ t A D, t < m → Lin n m M A D t → Pz t A D → (∀ i, i < n → (∀ c, (i, c) ∉ D) → A i t = 0) → Pz (t + 1) A D)
    (ps : ∀ t A D k, t < m → Lin n m M A D t → k < n → (∀ c, (k, c) ∉ D) → A k t ≠ 0 → Pz t A D → Pz (t + 1) (clr A k t) (D ++ [(k, t)])) :
    (m_solved [sumsD n m M]).To fun d => (∃ x : Nat → Rat, d = .tuple [.str "numbers", .tuple (rw_ m x)] ∧ (∀ i, i < n → sm m (fun j => M i j * x j) = M i m) ∧ ∀ j, j < m → FB β (x j)) ∨
      (∃ y : Nat → Rat, d = .tuple [.str "weights", .tuple (rw_ n y)] ∧ ((∀ j, j < m → sm n (fun r => y r * M r j) = 0) ∧ sm n (fun r => y r * M r m) ≠ 0) ∧ ∀ r, r < n → FB β (y r)) := by
  unfold m_solved
  rw [pure_to]
  unfold b_solved
  have e0 : ((List.range n).map fun i => PyData.tuple [.tuple (rw_ m (M i)), fracD (M i m)])[0]? = some (.tuple [.tuple (rw_ m (M 0)), fracD (M 0 m)]) := by simp [h0]
  refine cut (fun l st => l = [some (.d (sumsD n m M)), some (.d (.int m)), none, none, none, none, none, none] ∧ st = ⟨none, []⟩) ?_ ?_
  · simp [startL]
    unfold sumsD
    simp
    refine ⟨.tuple [.tuple (rw_ m (M 0)), fracD (M 0 m)], ?_, ?_⟩
    · rw [show idxN n 0 = some 0 from idxN_of h0]
      simp [h0]
    · simp
  rintro l st ⟨hL, hS⟩
  refine cut (fun l st => l = [some (.d (sumsD n m M)), some (.d (.int m)), some (.d (.list (rowsL n (m + 1 + n) (aug m M)))), none, none, none, none, none] ∧ st = ⟨none, []⟩) ?_ ?_
  · simp [hL, hS]
    exact with_weights_to (by omega) hm rfl
  clear hL hS
  rintro l st ⟨hL, hS⟩
  refine cut (fun l st => l = [some (.d (sumsD n m M)), some (.d (.int m)), some (.d (.list (rowsL n (m + 1 + n) (aug m M)))), some (.ref 0), none, none, none, none] ∧ st = ⟨none, [.dct []]⟩) ?_ ?_
  · simp [hL, hS, Sto.addO]
  clear hL hS
  rintro l st ⟨hL, hS⟩
  generalize sumsD n m M = R at *
  obtain ⟨I, hI⟩ : ∃ I : Nat → NW.Loc → Sto → Prop, ∀ t l s, I t l s ↔ ∃ A D, Lin n m M A D t ∧ Pz t A D ∧ D.length ≤ t ∧ ∃ v4 v5 : Option U, l = [some (.d R), some (.d (.int m)), some (.d (.list (rowsL n (m + 1 + n) A))), some (.ref 0), v4, v5, none, none] ∧ s = ⟨none, [.dct (doneD D)]⟩ := ⟨_, fun _ _ _ => Iff.rfl⟩
  refine cut (fun l st => I m l st) ?_ ?_
  · simp [hL, hS]
    refine ⟨by unfold rOk; simp; omega, ?_⟩
    refine for_ix I (fun i l s h => by obtain ⟨_, _, _, _, _, _, _, _, rfl⟩ := (hI _ _ _).mp h; exact chk_nil) ((hI _ _ _).mpr ⟨aug m M, [], Lin.init, p0, Nat.le_refl _, none, none, rfl, rfl⟩) ?_ ?_
    · rintro t x l s e hi
      obtain ⟨A, D, L, hz, hD, v4, v5, rfl, rfl⟩ := (hI _ _ _).mp hi
      obtain ⟨ht, rfl⟩ := rangeD_get e
      rw [show ((0 : Int) + (t : Int)) = (t : Int) by omega]
      simp
      refine to_with (j := 0) (es := doneD D) rfl rfl ?_
      simp
      refine callU_to rfl rfl ?_
      refine (pivot_to (A := A) (es := doneD D) (show t < m + 1 + n by omega) (by omega)).mono ?_
      rintro d (⟨k, rfl, hk, nk, hp⟩ | ⟨rfl, hno⟩)
      · refine ⟨_, rfl, rfl, .inr ⟨rfl, ?_⟩⟩
        have nk' := noK_done.mp nk
        simp
        refine cleared_to (pf t A D L hz) hk (by omega) hp hβ (by omega) (by omega) ?_
        refine ⟨_, rfl, ⟨fun a b hab => nk (a, b) hab, by simp [doneD]; omega⟩, (hI _ _ _).mpr ⟨clr A k t, D ++ [(k, t)], L.step ht hk nk' hp, ps t A D k ht L hk nk' hp hz, by simp; omega, _, _, rfl, ?_⟩⟩
        simp [doneD, Sto.putO]
      · refine ⟨_, rfl, rfl, .inl ⟨rfl, ?_⟩⟩
        have hno' : ∀ i, i < n → (∀ c, (i, c) ∉ D) → A i t = 0 := fun i hi h => hno i hi (noK_done.mpr h)
        exact (hI _ _ _).mpr ⟨A, D, L.skip hno', pk t A D ht L hz hno', by omega, _, _, rfl, rfl⟩
    · intro l s hi
      rw [rangeD_len] at hi
      exact hi
  clear hL hS
  rintro l st hi
  obtain ⟨A, D, L, hz, hD, v4, v5, rfl, rfl⟩ := (hI _ _ _).mp hi
  refine cut (fun l st => (∀ i, i < n → (∀ c, (i, c) ∉ D) → A i m = 0) ∧ ∃ v5 v6, l = [some (.d R), some (.d (.int m)), some (.d (.list (rowsL n (m + 1 + n) A))), some (.ref 0), v4, v5, v6, none] ∧ st = ⟨none, [.dct (doneD D)]⟩) ?_ ?_
  · simp
    obtain ⟨J, hJ⟩ : ∃ J : Nat → NW.Loc → Sto → Prop, ∀ t l s, J t l s ↔ (∀ i, i < t → (∀ c, (i, c) ∉ D) → A i m = 0) ∧ ∃ v5 v6, l = [some (.d R), some (.d (.int m)), some (.d (.list (rowsL n (m + 1 + n) A))), some (.ref 0), v4, v5, v6, none] ∧ s = ⟨none, [.dct (doneD D)]⟩ := ⟨_, fun _ _ _ => Iff.rfl⟩
    refine for_ix J (fun i l s h => by obtain ⟨_, _, _, _, rfl⟩ := (hJ _ _ _).mp h; exact chk_nil) ((hJ _ _ _).mpr ⟨by omega, _, _, rfl, rfl⟩) ?_ ?_
    · rintro i x l s e hi
      obtain ⟨hz2, v5, v6, rfl, rfl⟩ := (hJ _ _ _).mp hi
      obtain ⟨y, hy, rfl⟩ := enumD_get e
      have hin : i < n := by simpa using (List.getElem?_eq_some_iff.mp hy).1
      rw [rowsL_get hin] at hy
      cases hy
      simp
      rw [to_dinR (es := doneD D) rfl]
      have hx : ∀ v5 v6 : Option U, J (i + 1) [some (.d R), some (.d (.int m)), some (.d (.list (rowsL n (m + 1 + n) A))), some (.ref 0), v4, v5, v6, none] ⟨none, [.dct (doneD D)]⟩ ↔ ((∀ c, (i, c) ∉ D) → A i m = 0) := fun v5 v6 => by
        rw [hJ]
        constructor
        · rintro ⟨h, _⟩
          exact h i (by omega)
        · intro h
          refine ⟨fun i' hi' => ?_, v5, v6, rfl, rfl⟩
          by_cases e2 : i' = i
          · rw [e2]; exact h
          · exact hz2 i' (by omega)
      rw [idxN_of (show m < m + 1 + n by omega), cut_from, show m + 1 + n = (m + 1) + n from rfl, rw_drop]
      simp only [hx, Option.bind_some, rw_get (show m < m + 1 + n by omega)]
      cases hb : ((doneD D).any fun e => decide (e.1 = (i : Int))) with
      | false =>
        have nk := noK_done.mp (noK_iff.mp hb)
        refine .inr ⟨rfl, fracD (A i m), rfl, ⟨rfl, rfl⟩, ?_⟩
        rw [nought_eq, eqv_frac]
        by_cases hz3 : A i m = 0
        · exact .inl ⟨by simp [hz3], fun _ => hz3⟩
        · exact .inr ⟨by simp [hz3], .inr ⟨fun r => A i (m + 1 + r), rfl, L.weights hin nk hz3, fun r hr => pf m A D L hz i hin _ (by omega)⟩⟩
      | true =>
        refine .inl ⟨rfl, fun h => ?_⟩
        have := noK_iff.mpr (noK_done.mpr h)
        rw [hb] at this
        cases this
    · intro l s hi
      rw [enumD_len, rowsL_len] at hi
      obtain ⟨hz2, v5, v6, rfl, rfl⟩ := (hJ _ _ _).mp hi
      exact ⟨hz2, ⟨_, _, rfl⟩, rfl⟩
  rintro l st ⟨hz0, v5, v6, hL, hS⟩
  refine cut (fun l st => l = [some (.d R), some (.d (.int m)), some (.d (.list (rowsL n (m + 1 + n) A))), some (.ref 0), v4, v5, v6, some (.ref 1)] ∧ st = ⟨none, [.dct (doneD D), .lst (List.replicate m (fracD 0))]⟩) ?_ ?_
  · simp [hL, hS, nought_eq]
    omega
  clear hL hS
  rintro l st ⟨hL, hS⟩
  refine cut (fun l st => ∃ x : Nat → Rat, (∀ k c, (k, c) ∈ D → x c = A k m) ∧ (∀ c, c < m → (∀ k, (k, c) ∉ D) → x c = 0) ∧ ∃ v5, l = [some (.d R), some (.d (.int m)), some (.d (.list (rowsL n (m + 1 + n) A))), some (.dct (doneD D)), v4, v5, v6, some (.ref 1)] ∧ st = ⟨none, [.dead, .lst (rw_ m x)]⟩) ?_ ?_
  · rw [hL, hS]
    rw [to_lkS (j := 0) (es := doneD D) rfl rfl]
    simp
    obtain ⟨K, hK⟩ : ∃ K : Nat → NW.Loc → Sto → Prop, ∀ i l s, K i l s ↔ ∃ x : Nat → Rat, (∀ k c, (k, c) ∈ D.take i → x c = A k m) ∧ (∀ c, c < m → (∀ k, (k, c) ∉ D.take i) → x c = 0) ∧ ∃ v5, l = [some (.d R), some (.d (.int m)), some (.d (.list (rowsL n (m + 1 + n) A))), some (.dct (doneD D)), v4, v5, v6, some (.ref 1)] ∧ s = ⟨none, [.dead, .lst (rw_ m x)]⟩ := ⟨_, fun _ _ _ => Iff.rfl⟩
    refine for_ix K (fun i l s h => by obtain ⟨_, _, _, _, _, rfl⟩ := (hK _ _ _).mp h; exact chk_nil) ((hK _ _ _).mpr ⟨fun _ => 0, by simp, by simp, v5, rfl, ?_⟩) ?_ ?_
    · have : List.replicate m (fracD 0) = rw_ m (fun _ => 0) := List.ext_getElem? fun j => by
        by_cases h : j < m <;> simp [rw_, h]
      rw [this]
      rfl
    · rintro i x l s e hi
      obtain ⟨y, h1, h2, v5, rfl, rfl⟩ := (hK _ _ _).mp hi
      rw [List.getElem?_map] at e
      unfold doneD at e
      rw [List.getElem?_map] at e
      cases e2 : D[i]? with
      | none => rw [e2] at e; cases e
      | some p =>
        obtain ⟨k, c⟩ := p
        rw [e2] at e
        cases e
        have hm2 := List.mem_of_getElem? e2
        obtain ⟨hk, hc, o1, o2⟩ := L.one k c hm2
        simp [idxN_of hk, rowsL_get hk, idxN_of (show m < m + 1 + n by omega), rw_get (show m < m + 1 + n by omega)]
        rw [show (U.d (fracD (A k m))) = .d (.tuple [.int (A k m).num, .int ((A k m).den : Int)]) from rfl, to_gSubT]
        simp [look_done hm2 (fun c' h' => L.nd k c' c h' hm2), idxN_of hc]
        refine (hK _ _ _).mpr ⟨fun j => if j = c then A k m else y j, fun k' c' h' => ?_, fun c' hc' h' => ?_, _, rfl, ?_⟩
        · rw [List.take_add_one, e2] at h'
          simp at h'
          dsimp only
          by_cases ec : c' = c
          · subst ec
            rw [if_pos rfl]
            have hD' : (k', c') ∈ D := h'.elim (fun h => List.mem_of_mem_take h) fun h => by rw [h.1]; exact hm2
            by_cases ek : k' = k
            · rw [ek]
            · have := (L.one k' c' hD').2.2.1
              rw [o2 k' (L.one k' c' hD').1 ek] at this
              exact absurd this (by decide)
          · rw [if_neg ec]
            rcases h' with h' | h'
            · exact h1 k' c' h'
            · exact absurd h'.2 ec
        · rw [List.take_add_one, e2] at h'
          simp at h'
          dsimp only
          have ec : c' ≠ c := fun z => (h' k).2 rfl z
          rw [if_neg ec]
          exact h2 c' hc' fun k' => (h' k').1
        · rw [← rw_set hc]
          rfl
    · intro l s hi
      obtain ⟨y, h1, h2, v5, rfl, rfl⟩ := (hK _ _ _).mp hi
      rw [List.length_map, doneD, List.length_map, List.take_length] at h1 h2
      exact ⟨y, h1, h2, ⟨v5, rfl⟩, rfl⟩
  rintro l st ⟨x, hx, hx0, v5, hL, hS⟩
  simp [hL, hS]
  refine .inl ⟨x, rfl, L.numbers hz0 hx hx0, fun j hj => ?_⟩
  by_cases hd : ∃ k, (k, j) ∈ D
  · obtain ⟨k, hk⟩ := hd
    rw [hx k j hk]
    exact pf m A D L hz k (L.one k j hk).1 m (by omega)
  · rw [hx0 j hj fun k h => hd ⟨k, h⟩]
    exact FB.zero b0
end NW
namespace NW
open PySem PySem.Spec PyProof.Rows L2
theorem pigeon : ∀ (K N : Nat) (f : Nat → Nat), (∀ x, x < N → f x < K) → K < N → ∃ x y, x < y ∧ y < N ∧ f x = f y := by
  intro K
  induction K with
  | zero =>
    intro N f h hN
    have := h 0 hN
    omega
  | succ K ih =>
    intro N f h hN
    obtain ⟨N, rfl⟩ : ∃ j, N = j + 1 := ⟨N - 1, by omega⟩
    by_cases hd : ∃ x, x < N ∧ f x = f N
    · obtain ⟨x, hx, e⟩ := hd
      exact ⟨x, N, hx, by omega, e⟩
    · have hd' : ∀ x, x < N → f x ≠ f N := fun x hx e => hd ⟨x, hx, e⟩
      -- the number f N is given free: what is K goes there
      obtain ⟨x, y, h1, h2, h3⟩ := ih N (fun x => if f x = K then f N else f x) (fun x hx => by
        have a := h x (by omega)
        have b := h N (by omega)
        have c := hd' x hx
        split <;> omega) (by omega)
      refine ⟨x, y, h1, by omega, ?_⟩
      have a := hd' x (by omega)
      have b := hd' y h2
      split at h3 <;> split at h3 <;> omega
def dig (b x r : Nat) : Nat := x / b ^ r % b
theorem dig_succ {b x r : Nat} : dig b x (r + 1) = dig b (x / b) r := by
  unfold dig
  rw [Nat.pow_succ, Nat.mul_comm, ← Nat.div_div_eq_div_mul]
theorem dig_inj {b : Nat} (hb : 0 < b) : ∀ {n x y : Nat}, x < b ^ n → y < b ^ n → (∀ r, r < n → dig b x r = dig b y r) → x = y
  | 0, x, y, hx, hy, _ => by simp at hx hy; omega
  | n + 1, x, y, hx, hy, h => by
    have h0 := h 0 (by omega)
    unfold dig at h0
    rw [Nat.pow_zero, Nat.div_one, Nat.div_one] at h0
    have q : x / b = y / b := dig_inj hb (n := n) (by rw [Nat.div_lt_iff_lt_mul hb, ← Nat.pow_succ]; exact hx) (by rw [Nat.div_lt_iff_lt_mul hb, ← Nat.pow_succ]; exact hy) fun r hr => by
      rw [← dig_succ, ← dig_succ]; exact h (r + 1) (by omega)
    rw [← Nat.div_add_mod x b, ← Nat.div_add_mod y b, q, h0]
def enc (L : Nat) : Nat → (Nat → Nat) → Nat
  | 0, _ => 0
  | n + 1, h => h 0 + L * enc L n fun l => h (l + 1)
theorem enc_lt {L : Nat} : ∀ {n : Nat} {h : Nat → Nat}, (∀ l, l < n → h l < L) → enc L n h < L ^ n
  | 0, h, _ => by simp [enc]
  | n + 1, h, k => by
    have a := k 0 (by omega)
    have b := enc_lt (n := n) (h := fun l => h (l + 1)) fun l hl => k (l + 1) (by omega)
    rw [enc, Nat.pow_succ, Nat.mul_comm (L ^ n)]
    have c : L * enc L n (fun l => h (l + 1)) + L ≤ L * L ^ n := by
      rw [← Nat.mul_succ]
      exact Nat.mul_le_mul_left _ b
    omega
theorem enc_inj {L : Nat} : ∀ {n : Nat} {h k : Nat → Nat}, (∀ l, l < n → h l < L) → (∀ l, l < n → k l < L) → enc L n h = enc L n k → ∀ l, l < n → h l = k l
  | 0, h, k, _, _, _ => by intro l hl; omega
  | n + 1, h, k, a, b, e => by
    rw [enc, enc] at e
    have a0 := a 0 (by omega)
    have b0 := b 0 (by omega)
    have e0 : h 0 = k 0 := by
      have := congrArg (· % L) e
      simpa [Nat.add_mul_mod_self_left, Nat.mod_eq_of_lt a0, Nat.mod_eq_of_lt b0] using this
    have e1 : enc L n (fun l => h (l + 1)) = enc L n (fun l => k (l + 1)) := by
      rw [e0] at e
      exact Nat.eq_of_mul_eq_mul_left (by omega) (Nat.add_left_cancel e)
    intro l hl
    cases l with
    | zero => exact e0
    | succ l => exact enc_inj (n := n) (h := fun l => h (l + 1)) (k := fun l => k (l + 1)) (fun l hl => a _ (by omega)) (fun l hl => b _ (by omega)) e1 l (by omega)
theorem smI_abs {C : Nat} {f : Nat → Int} : ∀ {n : Nat}, (∀ j, j < n → (f j).natAbs ≤ C) → (smI n f).natAbs ≤ n * C
  | 0, _ => by simp [smI]
  | n + 1, h => by
    have a := smI_abs (n := n) fun j hj => h j (by omega)
    have b := h n (by omega)
    rw [smI, Nat.succ_mul]
    omega
theorem smI_sub {f g : Nat → Int} : ∀ {n : Nat}, smI n (fun j => f j - g j) = smI n f - smI n g
  | 0 => rfl
  | n + 1 => by rw [smI, smI, smI, smI_sub]; omega
theorem siegel {n s B : Nat} {Us : List Nat} (hU : Us.Nodup) {E : Nat → Nat → Int} (hs : s < Us.length) (hE : ∀ l, l < s → ∀ ρ, ρ < n → (E l ρ).natAbs ≤ B) (hB : 1 ≤ B) (hn : 1 ≤ n) :
    ∃ z : Nat → Int, (∀ ρ, ρ ∉ Us → z ρ = 0) ∧ (∃ ρ, ρ ∈ Us ∧ z ρ ≠ 0) ∧ (∀ ρ, (z ρ).natAbs ≤ (2 * n * B) ^ s) ∧ ∀ l, l < s → smI n (fun ρ => z ρ * E l ρ) = 0 := by
  have hZ : ∃ Z, Z = (2 * n * B) ^ s := ⟨_, rfl⟩
  obtain ⟨Z, hZ⟩ := hZ
  rw [← hZ]
  have nB : 1 ≤ n * B := Nat.mul_pos hn hB
  let X : Nat → Nat → Int := fun x ρ => if ρ ∈ Us then (dig (Z + 1) x (Us.idxOf ρ) : Int) else 0
  have X0 : ∀ x ρ, 0 ≤ X x ρ ∧ X x ρ ≤ Z := fun x ρ => by
    show 0 ≤ (if ρ ∈ Us then (dig (Z + 1) x (Us.idxOf ρ) : Int) else 0) ∧ (if ρ ∈ Us then (dig (Z + 1) x (Us.idxOf ρ) : Int) else 0) ≤ Z
    split
    · have : dig (Z + 1) x (Us.idxOf ρ) < Z + 1 := Nat.mod_lt _ (by omega)
      omega
    · omega
  let F : Nat → Nat → Int := fun x l => smI n fun ρ => X x ρ * E l ρ
  have hF : ∀ x l, l < s → (F x l).natAbs ≤ n * (Z * B) := fun x l hl => smI_abs fun ρ hρ => by
    rw [Int.natAbs_mul]
    have := X0 x ρ
    exact Nat.mul_le_mul (by omega) (hE l hl ρ hρ)
  have hL : ∀ x l, l < s → (F x l + n * (Z * B) : Int).toNat < 2 * (n * (Z * B)) + 1 := fun x l hl => by
    have := hF x l hl
    have e : ((n * (Z * B) : Nat) : Int) = (n : Int) * (Z * B) := by simp
    omega
  obtain ⟨x, y, hxy, hy, he⟩ := pigeon ((2 * (n * (Z * B)) + 1) ^ s) ((Z + 1) ^ (s + 1)) (fun x => enc (2 * (n * (Z * B)) + 1) s fun l => (F x l + n * (Z * B) : Int).toNat) (fun x _ => enc_lt fun l hl => hL x l hl) (by
    have h1 : 2 * (n * (Z * B)) + 1 ≤ (Z + 1) * (2 * n * B) := by
      have : (Z + 1) * (2 * n * B) = 2 * (n * (Z * B)) + 2 * (n * B) := by
        rw [Nat.add_mul, Nat.one_mul]
        have : Z * (2 * n * B) = 2 * (n * (Z * B)) := by
          rw [Nat.mul_assoc, Nat.mul_left_comm, Nat.mul_left_comm Z n B]
        rw [this, Nat.mul_assoc]
      omega
    have h2 := Nat.pow_le_pow_left h1 s
    rw [Nat.mul_pow, ← hZ] at h2
    have h3 : (Z + 1) ^ s * Z < (Z + 1) ^ (s + 1) := by
      rw [Nat.pow_succ]
      exact Nat.mul_lt_mul_of_pos_left (by omega) (Nat.pow_pos (by omega))
    omega)
  have hFe : ∀ l, l < s → F x l = F y l := fun l hl => by
    have := enc_inj (fun l hl => hL x l hl) (fun l hl => hL y l hl) he l hl
    have a := hF x l hl
    have b := hF y l hl
    have e : ((n * (Z * B) : Nat) : Int) = (n : Int) * (Z * B) := by simp
    omega
  refine ⟨fun ρ => X x ρ - X y ρ, fun ρ hρ => ?_, ?_, fun ρ => ?_, fun l hl => ?_⟩
  · show (if ρ ∈ Us then (dig (Z + 1) x (Us.idxOf ρ) : Int) else 0) - (if ρ ∈ Us then (dig (Z + 1) y (Us.idxOf ρ) : Int) else 0) = 0
    rw [if_neg hρ, if_neg hρ]
    rfl
  · by_cases hz : ∃ ρ, ρ ∈ Us ∧ X x ρ - X y ρ ≠ 0
    · exact hz
    · exfalso
      have : x = y := dig_inj (b := Z + 1) (by omega) (n := s + 1) (by omega) hy fun r hr => by
        have hr' : r < Us.length := by omega
        have hm : Us[r] ∈ Us := List.getElem_mem hr'
        have hi : Us.idxOf Us[r] = r := by
          have h1 : Us.idxOf Us[r] < Us.length := List.idxOf_lt_length_of_mem hm
          have h2 : Us[Us.idxOf Us[r]] = Us[r] := List.getElem_idxOf h1
          exact (List.getElem_inj hU).mp h2
        by_cases hd : X x Us[r] - X y Us[r] = 0
        · have e1 : X x Us[r] = (dig (Z + 1) x r : Int) := by
            show (if Us[r] ∈ Us then (dig (Z + 1) x (Us.idxOf Us[r]) : Int) else 0) = _
            rw [if_pos hm, hi]
          have e2 : X y Us[r] = (dig (Z + 1) y r : Int) := by
            show (if Us[r] ∈ Us then (dig (Z + 1) y (Us.idxOf Us[r]) : Int) else 0) = _
            rw [if_pos hm, hi]
          rw [e1, e2] at hd
          omega
        · exact absurd ⟨_, hm, hd⟩ hz
      omega
  · have a := X0 x ρ
    have b := X0 y ρ
    dsimp only
    omega
  · have : (fun ρ => (X x ρ - X y ρ) * E l ρ) = fun ρ => X x ρ * E l ρ - X y ρ * E l ρ := funext fun ρ => Int.sub_mul _ _ _
    show smI n (fun ρ => (X x ρ - X y ρ) * E l ρ) = 0
    rw [this, smI_sub]
    have := hFe l hl
    show F x l - F y l = 0
    omega
end NW
namespace NW
open PySem PySem.Spec PyProof.Rows L2
def keyD (D : List (Nat × Nat)) (r : Nat) : Bool := (D.map (·.1)).contains r
theorem keyD_iff {D : List (Nat × Nat)} {r : Nat} : keyD D r = true ↔ ∃ c, (r, c) ∈ D := by
  unfold keyD
  rw [List.contains_iff_mem, List.mem_map]
  constructor
  · rintro ⟨p, hp, rfl⟩; exact ⟨p.2, hp⟩
  · rintro ⟨c, hc⟩; exact ⟨(r, c), hc, rfl⟩
theorem keyD_not {D : List (Nat × Nat)} {r : Nat} : keyD D r = false ↔ ∀ c, (r, c) ∉ D := by
  rw [← Bool.not_eq_true, keyD_iff]
  exact ⟨fun h c hc => h ⟨c, hc⟩, fun h ⟨c, hc⟩ => h c hc⟩
structure Dual (n m : Nat) (M A : Nat → Nat → Rat) (D : List (Nat × Nat)) (t : Nat) : Prop where
  du : ∀ z : Nat → Rat, (∀ k c, (k, c) ∈ D → sm n (fun r => z r * M r c) = 0) → ∀ j, j < m + 1 + n → sm n (fun r => z r * aug m M r j) = sm n fun r => (if keyD D r = true then 0 else z r) * A r j
  su : ∀ i, i < n → ∀ r, r < n → keyD D r = false → r ≠ i → A i (m + 1 + r) = 0
  nd : (D.map (·.1)).Nodup
  le : D.length ≤ t
section
variable {n m t k : Nat} {M A : Nat → Nat → Rat} {D : List (Nat × Nat)}
theorem Dual.init : Dual n m M (aug m M) [] 0 := by
  refine ⟨fun z _ j _ => sm_congr fun r _ => ?_, fun i hi r hr _ ne => ?_, by simp, by simp⟩
  · rw [if_neg (show ¬ keyD [] r = true by unfold keyD; simp)]
  · unfold aug
    rw [if_neg (by omega), if_neg (by omega)]
theorem Dual.skip (Q : Dual n m M A D t) : Dual n m M A D (t + 1) := ⟨Q.du, Q.su, Q.nd, by have := Q.le; omega⟩
theorem sm_sub2 {f g : Nat → Rat} {c : Rat} : ∀ {n : Nat}, sm n (fun r => f r - c * g r) = sm n f - c * sm n g
  | 0 => by simp only [sm]; grind
  | n + 1 => by rw [sm, sm, sm, sm_sub2]; grind
theorem Dual.step (Q : Dual n m M A D t) (ht : t < m) (hk : k < n) (nk : ∀ c, (k, c) ∉ D) (hp : A k t ≠ 0) : Dual n m M (clr A k t) (D ++ [(k, t)]) (t + 1) := by
  have key2 : ∀ r, keyD (D ++ [(k, t)]) r = (keyD D r || decide (r = k)) := fun r => by
    unfold keyD
    rw [List.map_append, List.contains_append]
    simp
  refine ⟨fun z hz j hj => ?_, fun i hi r hr hd ne => ?_, ?_, ?_⟩
  · have ih := Q.du z fun k' c hc => hz k' c (by simp [hc])
    have i1 := ih j hj
    have i2 := ih t (by omega)
    have e0 : sm n (fun r => z r * aug m M r t) = 0 := by
      rw [← hz k t (by simp)]
      exact sm_congr fun r _ => by unfold aug; rw [if_pos (by omega)]
    rw [e0] at i2
    have e1 : (sm n fun r => (if keyD (D ++ [(k, t)]) r = true then 0 else z r) * clr A k t r j) = sm n fun r => (if keyD D r = true then 0 else z r) * A r j - (A k j / A k t) * ((if keyD D r = true then 0 else z r) * A r t) := by
      refine sm_congr fun r hr => ?_
      rw [key2]
      by_cases e : r = k
      · subst e
        have := keyD_not.mpr nk
        rw [this, clr_k]
        simp
        grind
      · rw [clr_n e]
        simp only [e, decide_false, Bool.or_false]
        grind
    rw [e1, sm_sub2, ← i1, ← i2]
    grind
  · rw [key2, Bool.or_eq_false_iff] at hd
    have h1 := Q.su i hi r hr hd.1 ne
    have h2 := Q.su k hk r hr hd.1 (by simpa using hd.2)
    unfold clr
    split
    · rw [h2]; grind
    · rw [h1, h2]; grind
  · rw [List.map_append, List.nodup_append]
    refine ⟨Q.nd, by simp, fun a ha b hb => ?_⟩
    simp at hb
    rintro rfl
    obtain ⟨p, hp, rfl⟩ := List.mem_map.mp ha
    exact nk p.2 (by rw [← hb]; exact hp)
  · have := Q.le
    simp
    omega
theorem Lin.combA (L : Lin n m M A D t) {i j : Nat} (hi : i < n) (hj : j < m + 1 + n) : A i j = sm n fun r => A i (m + 1 + r) * aug m M r j := by
  by_cases h : j ≤ m
  · rw [L.comb i hi j h]
    exact sm_congr fun r _ => by unfold aug; rw [if_pos h]
  · obtain ⟨r, rfl⟩ : ∃ r, j = m + 1 + r := ⟨j - (m + 1), by omega⟩
    rw [sm_single (c := r) (by omega) fun r' _ ne => ?_]
    · unfold aug
      rw [if_neg (by omega), if_pos rfl]
      grind
    · unfold aug
      rw [if_neg (by omega), if_neg (by omega)]
      grind
theorem aug_pick {z : Nat → Rat} {r : Nat} (hr : r < n) : sm n (fun ρ => z ρ * aug m M ρ (m + 1 + r)) = z r := by
  rw [sm_single (c := r) hr fun r' _ ne => ?_]
  · unfold aug
    rw [if_neg (by omega), if_pos rfl]
    grind
  · unfold aug
    rw [if_neg (by omega), if_neg (by omega)]
    grind
theorem q1L (a t b : Rat) : a * (t / b) = 1 / b * (a * t) := by grind
theorem q2L (b s : Rat) : 1 / b * s = s / b := by grind
theorem q3L {x y : Rat} (h : y - x = 0) : x = y := by grind
theorem q4L (q : Rat) : q - q * 1 = 0 := by grind
theorem q5L (q : Rat) : 0 - q * 0 = 0 := by grind
theorem q7L (a b : Rat) : 0 / b * a = 0 := by grind
theorem q8L (a : Rat) : (0 - 0) * a = 0 := by grind
theorem q9L {S d A P b : Rat} (h1 : S ≠ 0) (h2 : d ≠ 0) (h3 : b ≠ 0) (h : S / d * A = P / b) : A = P * d / (b * S) := by grind
theorem q6L (x : Rat) : x / 1 = x := by grind
theorem Lin.small {τ : Nat} {T : Nat → Nat → Int} {b : Nat → Nat} (L : Lin n m M A D t) (Q : Dual n m M A D t) (ht : t ≤ m) (n0 : 1 ≤ n) (hM : ∀ r, r < n → ∀ j, j ≤ m → M r j = (T r j : Rat) / ((b j : Int) : Rat)) (hT : ∀ r, r < n → ∀ j, j ≤ m → (T r j).natAbs < 2 ^ τ) (hb : ∀ j, j ≤ m → 0 < b j ∧ b j < 2 ^ τ) {i : Nat} (hi : i < n) :
    ∃ (z : Nat → Int) (S : Int) (d : Nat), S ≠ 0 ∧ 0 < d ∧ d ≤ 2 ^ τ ∧ (∀ r, (z r).natAbs ≤ (2 * n * 2 ^ τ) ^ m) ∧ S.natAbs ≤ n * ((2 * n * 2 ^ τ) ^ m * 2 ^ τ) ∧ ∀ j, j < m + 1 + n → (S : Rat) / ((d : Int) : Rat) * A i j = sm n fun r => (z r : Rat) * aug m M r j := by
  have B1 : 1 ≤ 2 ^ τ := Nat.one_le_two_pow
  have nB : 1 ≤ 2 * n * 2 ^ τ := Nat.mul_pos (by omega) B1
  have pw : ∀ s, s ≤ m → (2 * n * 2 ^ τ) ^ s ≤ (2 * n * 2 ^ τ) ^ m := fun s hs => Nat.pow_le_pow_right nB hs
  have kill : ∀ (z : Nat → Int) c, c ≤ m → smI n (fun r => z r * T r c) = 0 → sm n (fun r => (z r : Rat) * M r c) = 0 := fun z c hc h => by
    have : (sm n fun r => (z r : Rat) * M r c) = (1 / ((b c : Int) : Rat)) * sm n fun r => ((z r * T r c : Int) : Rat) := by
      rw [← sm_mul]
      exact sm_congr fun r hr => by rw [hM r hr c hc, Rat.intCast_mul, q1L]
    rw [this, ← smI_cast, h]
    simp
  by_cases hd : keyD D i = true
  · obtain ⟨c0, hc0⟩ := keyD_iff.mp hd
    obtain ⟨E, hE⟩ : ∃ E, E = D.filter fun p => decide (p.1 ≠ i) := ⟨_, rfl⟩
    have hEl : E.length < (D.map (·.1)).length := by
      rw [List.length_map, hE]
      exact List.length_filter_lt_length_iff_exists.mpr ⟨(i, c0), hc0, by simp⟩
    have hEm : ∀ l, l < E.length → (E.getD l (0, 0)) ∈ D ∧ (E.getD l (0, 0)).1 ≠ i := fun l hl => by
      have : E.getD l (0, 0) ∈ E := by
        rw [List.getD_eq_getElem?_getD, List.getElem?_eq_getElem hl]
        exact List.getElem_mem hl
      rw [hE] at this
      have := List.mem_filter.mp this
      rw [← hE] at this
      exact ⟨this.1, by simpa using this.2⟩
    obtain ⟨z, z0, ⟨ρ, hρ, hne⟩, zb, zk⟩ := siegel (n := n) (s := E.length) (B := 2 ^ τ) Q.nd (E := fun l ρ => T ρ (E.getD l (0, 0)).2) hEl (fun l hl ρ hρ => by
      have := (L.one (E.getD l (0, 0)).1 (E.getD l (0, 0)).2 (hEm l hl).1).2.1
      exact Nat.le_of_lt (hT ρ hρ _ (by omega))) B1 n0
    have hEle : E.length ≤ m := by
      have := Q.le
      rw [List.length_map] at hEl
      omega
    have zb' : ∀ r, (z r).natAbs ≤ (2 * n * 2 ^ τ) ^ m := fun r => Nat.le_trans (zb r) (pw _ hEle)
    obtain ⟨i1, i2, i3, i4⟩ := L.one i c0 hc0
    have hq : sm n (fun r => (z r : Rat) * M r c0) = (smI n (fun r => z r * T r c0) : Rat) / ((b c0 : Int) : Rat) := by
      have : (sm n fun r => (z r : Rat) * M r c0) = (1 / ((b c0 : Int) : Rat)) * sm n fun r => ((z r * T r c0 : Int) : Rat) := by
        rw [← sm_mul]
        exact sm_congr fun r hr => by rw [hM r hr c0 (by omega), Rat.intCast_mul, q1L]
      rw [this, ← smI_cast, q2L]
    have main : ∀ j, j < m + 1 + n → sm n (fun r => (z r : Rat) * M r c0) * A i j = sm n fun r => (z r : Rat) * aug m M r j := by
      intro j hj
      generalize hqq : sm n (fun r => (z r : Rat) * M r c0) = q
      have d1 := Q.du (fun r => (z r : Rat) - q * A i (m + 1 + r)) (fun k c hc => ?_) j hj
      · have e1 : (sm n fun r => ((z r : Rat) - q * A i (m + 1 + r)) * aug m M r j) = sm n (fun r => (z r : Rat) * aug m M r j) - q * sm n (fun r => A i (m + 1 + r) * aug m M r j) := sm_lin
        have r0 : (sm n fun r => (if keyD D r = true then 0 else (z r : Rat) - q * A i (m + 1 + r)) * A r j) = 0 := by
          refine sm_zero fun r hr => ?_
          by_cases hk : keyD D r = true
          · rw [if_pos hk, Rat.zero_mul]
          · have hk' : keyD D r = false := by simpa using hk
            have zr : z r = 0 := z0 r fun h => hk (by
              obtain ⟨p, hp, rfl⟩ := List.mem_map.mp h
              exact keyD_iff.mpr ⟨p.2, hp⟩)
            rw [if_neg hk, zr, Q.su i hi r hr hk' fun e => hk (e ▸ hd)]
            simp
            exact q8L _
        rw [e1, ← L.combA hi hj, r0] at d1
        exact q3L d1
      · have e1 : (sm n fun r => ((z r : Rat) - q * A i (m + 1 + r)) * M r c) = sm n (fun r => (z r : Rat) * M r c) - q * sm n (fun r => A i (m + 1 + r) * M r c) := sm_lin
        obtain ⟨o1, o2, o3, o4⟩ := L.one k c hc
        rw [e1, ← L.comb i hi c (by omega)]
        by_cases ek : k = i
        · subst ek
          have ec := L.nd k c c0 hc hc0
          subst ec
          rw [hqq, o3, q4L]
        · have hl : ∃ l, l < E.length ∧ E.getD l (0, 0) = (k, c) := by
            have : (k, c) ∈ E := by
              rw [hE]
              exact List.mem_filter.mpr ⟨hc, by simpa using ek⟩
            obtain ⟨l, hl, e⟩ := List.getElem_of_mem this
            exact ⟨l, hl, by rw [List.getD_eq_getElem?_getD, List.getElem?_eq_getElem hl, e]; rfl⟩
          obtain ⟨l, hl, el⟩ := hl
          have zz := zk l hl
          rw [el] at zz
          rw [kill z c (by omega) zz, o4 i hi fun e => ek e.symm, q5L]
    refine ⟨z, smI n (fun r => z r * T r c0), b c0, fun h0 => ?_, (hb c0 (by omega)).1, Nat.le_of_lt (hb c0 (by omega)).2, zb', smI_abs fun r hr => ?_, fun j hj => by rw [← hq]; exact main j hj⟩
    · have hρn : ρ < n := by
        obtain ⟨p, hp, rfl⟩ := List.mem_map.mp hρ
        exact (L.one p.1 p.2 hp).1
      have := main (m + 1 + ρ) (by omega)
      rw [aug_pick hρn, hq, h0] at this
      have hz : (z ρ : Rat) = 0 := by rw [← this]; exact q7L _ _
      exact hne (by exact_mod_cast hz)
    · rw [Int.natAbs_mul]
      exact Nat.mul_le_mul (zb' r) (Nat.le_of_lt (hT r hr c0 (by omega)))
  · have hd' : keyD D i = false := by simpa using hd
    have ni := keyD_not.mp hd'
    have hDm : ∀ l, l < D.length → (D.getD l (0, 0)) ∈ D := fun l hl => by
      rw [List.getD_eq_getElem?_getD, List.getElem?_eq_getElem hl]
      exact List.getElem_mem hl
    obtain ⟨z, z0, ⟨ρ, hρ, hne⟩, zb, zk⟩ := siegel (n := n) (s := D.length) (B := 2 ^ τ) (Us := D.map (·.1) ++ [i]) (by
      rw [List.nodup_append]
      refine ⟨Q.nd, by simp, fun a ha b hb => ?_⟩
      simp at hb
      subst hb
      rintro rfl
      obtain ⟨p, hp, e⟩ := List.mem_map.mp ha
      exact ni p.2 (e ▸ hp)) (E := fun l ρ => T ρ (D.getD l (0, 0)).2) (by simp) (fun l hl ρ hρ => by
      have := (L.one (D.getD l (0, 0)).1 (D.getD l (0, 0)).2 (hDm l hl)).2.1
      exact Nat.le_of_lt (hT ρ hρ _ (by omega))) B1 n0
    have hDle : D.length ≤ m := by
      have := Q.le
      omega
    have zb' : ∀ r, (z r).natAbs ≤ (2 * n * 2 ^ τ) ^ m := fun r => Nat.le_trans (zb r) (pw _ hDle)
    have main : ∀ j, j < m + 1 + n → (z i : Rat) * A i j = sm n fun r => (z r : Rat) * aug m M r j := by
      intro j hj
      have d1 := Q.du (fun r => (z r : Rat)) (fun k c hc => ?_) j hj
      · rw [d1, sm_single (c := i) hi fun r hr ne => ?_]
        · rw [if_neg hd]
        · by_cases hk : keyD D r = true
          · rw [if_pos hk, Rat.zero_mul]
          · have zr : z r = 0 := z0 r fun h => by
              rcases List.mem_append.mp h with h | h
              · obtain ⟨p, hp, rfl⟩ := List.mem_map.mp h
                exact hk (keyD_iff.mpr ⟨p.2, hp⟩)
              · exact ne (by simpa using h)
            rw [if_neg hk, zr]
            simp
      · obtain ⟨l, hl, e⟩ := List.getElem_of_mem hc
        have zz := zk l hl
        have el : D.getD l (0, 0) = (k, c) := by rw [List.getD_eq_getElem?_getD, List.getElem?_eq_getElem hl, e]; rfl
        rw [el] at zz
        have := (L.one k c hc).2.1
        exact kill z c (by omega) zz
    refine ⟨z, z i, 1, fun h0 => ?_, by omega, B1, zb', ?_, fun j hj => by rw [← main j hj, show (((1 : Nat) : Int) : Rat) = 1 from rfl, q6L]⟩
    · have hρn : ρ < n := by
        rcases List.mem_append.mp hρ with h | h
        · obtain ⟨p, hp, rfl⟩ := List.mem_map.mp h
          exact (L.one p.1 p.2 hp).1
        · have : ρ = i := by simpa using h
          omega
      have := main (m + 1 + ρ) (by omega)
      rw [aug_pick hρn, h0] at this
      have hz : (z ρ : Rat) = 0 := by rw [← this]; simp
      exact hne (by exact_mod_cast hz)
    · refine Nat.le_trans (zb' i) ?_
      have : 1 * ((2 * n * 2 ^ τ) ^ m * 1) ≤ n * ((2 * n * 2 ^ τ) ^ m * 2 ^ τ) := Nat.mul_le_mul n0 (Nat.mul_le_mul_left _ B1)
      omega
theorem Lin.fb {τ : Nat} {T : Nat → Nat → Int} {b : Nat → Nat} (L : Lin n m M A D t) (Q : Dual n m M A D t) (ht : t ≤ m) (n0 : 1 ≤ n) (n1 : n ≤ 64) (hM : ∀ r, r < n → ∀ j, j ≤ m → M r j = (T r j : Rat) / ((b j : Int) : Rat)) (hT : ∀ r, r < n → ∀ j, j ≤ m → (T r j).natAbs < 2 ^ τ) (hb : ∀ j, j ≤ m → 0 < b j ∧ b j < 2 ^ τ) {i j : Nat} (hi : i < n) (hj : j < m + 1 + n) :
    FB ((τ + 7) * m + 2 * τ + 7) (A i j) := by
  obtain ⟨z, S, d, S0, d0, d1, hz, hS, main⟩ := L.small Q ht n0 hM hT hb hi
  have hZ : (2 * n * 2 ^ τ) ^ m ≤ 2 ^ ((τ + 7) * m) := by
    rw [Nat.pow_mul]
    refine Nat.pow_le_pow_left ?_ m
    rw [Nat.pow_add, Nat.mul_comm (2 ^ τ)]
    exact Nat.mul_le_mul_right _ (by omega)
  have big : n * ((2 * n * 2 ^ τ) ^ m * 2 ^ τ) ≤ 2 ^ ((τ + 7) * m + τ + 6) := by
    have : n * ((2 * n * 2 ^ τ) ^ m * 2 ^ τ) ≤ 2 ^ 6 * (2 ^ ((τ + 7) * m) * 2 ^ τ) := Nat.mul_le_mul n1 (Nat.mul_le_mul_right _ hZ)
    rw [← Nat.pow_add, ← Nat.pow_add] at this
    rwa [show 6 + ((τ + 7) * m + τ) = (τ + 7) * m + τ + 6 by omega] at this
  have fin : ∀ x y : Nat, x ≤ 2 ^ ((τ + 7) * m + τ + 6) → y ≤ 2 ^ τ → x * y < 2 ^ ((τ + 7) * m + 2 * τ + 7) := fun x y hx hy => by
    have := Nat.mul_le_mul hx hy
    rw [← Nat.pow_add] at this
    exact Nat.lt_of_le_of_lt this (Nat.pow_lt_pow_right (by omega) (by omega))
  have Sr : ((S : Int) : Rat) ≠ 0 := by exact_mod_cast S0
  have dr : ((d : Int) : Rat) ≠ 0 := by
    have : (d : Int) ≠ 0 := by omega
    exact_mod_cast this
  have go : ∀ (P : Int) (c : Nat), 0 < c → c ≤ 2 ^ τ → P.natAbs ≤ 2 ^ ((τ + 7) * m + τ + 6) → (S : Rat) / ((d : Int) : Rat) * A i j = (P : Rat) / ((c : Int) : Rat) → FB ((τ + 7) * m + 2 * τ + 7) (A i j) := by
    intro P c c0 c1 hP h
    have cr : ((c : Int) : Rat) ≠ 0 := by
      have : (c : Int) ≠ 0 := by omega
      exact_mod_cast this
    have cS : (c : Int) * S ≠ 0 := Int.mul_ne_zero (by omega) S0
    have e : A i j = Rat.divInt (P * d) (c * S) := by
      rw [divInt_div, Rat.intCast_mul, Rat.intCast_mul]
      exact q9L Sr dr cr h
    rw [e]
    refine FB.of_divInt cS ?_ ?_
    · rw [Int.natAbs_mul]
      exact fin _ _ hP d1
    · rw [Int.natAbs_mul, Nat.mul_comm]
      exact fin _ _ (Nat.le_trans hS big) c1
  have mj := main j hj
  by_cases h : j ≤ m
  · refine go (smI n fun r => z r * T r j) (b j) (hb j h).1 (Nat.le_of_lt (hb j h).2) (Nat.le_trans (smI_abs fun r hr => ?_) big) ?_
    · rw [Int.natAbs_mul]
      exact Nat.mul_le_mul (hz r) (Nat.le_of_lt (hT r hr j h))
    · rw [mj, smI_cast, ← q2L, ← sm_mul]
      exact sm_congr fun r hr => by
        unfold aug
        rw [if_pos h, hM r hr j h, Rat.intCast_mul, q1L]
  · obtain ⟨r, rfl⟩ : ∃ r, j = m + 1 + r := ⟨j - (m + 1), by omega⟩
    refine go (z r) 1 (by omega) Nat.one_le_two_pow (Nat.le_trans (hz r) ?_) ?_
    · exact Nat.le_trans hZ (Nat.pow_le_pow_right (by omega) (by omega))
    · rw [mj, aug_pick (by omega), show (((1 : Nat) : Int) : Rat) = 1 from rfl, q6L]
end
theorem solved_toB {n m τ : Nat} {M : Nat → Nat → Rat} {T : Nat → Nat → Int} {b : Nat → Nat} (n0 : 0 < n) (n1 : n ≤ 64) (hm : m ≤ 400) (hs : (τ + 7) * m + 2 * τ + 7 ≤ 240000) (hM : ∀ r, r < n → ∀ j, j ≤ m → M r j = (T r j : Rat) / ((b j : Int) : Rat)) (hT : ∀ r, r < n → ∀ j, j ≤ m → (T r j).natAbs < 2 ^ τ) (hb : ∀ j, j ≤ m → 0 < b j ∧ b j < 2 ^ τ) :
    (m_solved [sumsD n m M]).To fun d => (∃ x : Nat → Rat, d = .tuple [.str "numbers", .tuple (rw_ m x)] ∧ (∀ i, i < n → sm m (fun j => M i j * x j) = M i m) ∧ ∀ j, j < m → FB ((τ + 7) * m + 2 * τ + 7) (x j)) ∨
      (∃ y : Nat → Rat, d = .tuple [.str "weights", .tuple (rw_ n y)] ∧ ((∀ j, j < m → sm n (fun r => y r * M r j) = 0) ∧ sm n (fun r => y r * M r m) ≠ 0) ∧ ∀ r, r < n → FB ((τ + 7) * m + 2 * τ + 7) (y r)) :=
  solved_to (β := (τ + 7) * m + 2 * τ + 7) n0 (by omega) hm hs (by omega) (fun t A D => t ≤ m ∧ Dual n m M A D t) ⟨by omega, Dual.init⟩
    (fun t A D L h i hi j hj => L.fb h.2 h.1 n0 n1 hM hT hb hi hj) (fun t A D ht L h _ => ⟨by omega, h.2.skip⟩) (fun t A D k ht L hk nk hp h => ⟨by omega, h.2.step ht hk nk hp⟩)
end NW
namespace NW
open PySem PySem.Spec PyProof.Rows L2
def AZ (f : Pol) (m n k : Nat) : Int := f.ts.getD (n - k) 0 * (f.ts.getD n 0).sign * ((m * m) ^ k * (f.ts.getD n 0).natAbs ^ (k - 1) : Nat)
def DD (f : Pol) (m n : Nat) : Nat := m * m * (f.ts.getD n 0).natAbs
theorem AZ_co {f : Pol} {m n k : Nat} (ht : f.ts.getD n 0 ≠ 0) (hm : 0 < m) (hk : 0 < k) : f.co (n - k) / f.co n = (AZ f m n k : Rat) / (((DD f m n ^ k : Nat) : Int) : Rat) := by
  unfold AZ DD Pol.co
  obtain ⟨j, rfl⟩ : ∃ j, k = j + 1 := ⟨k - 1, by omega⟩
  generalize f.ts.getD n 0 = t at *
  generalize f.ts.getD (n - (j + 1)) 0 = A
  have hb := f.bne
  have t0 : 0 < t.natAbs := by omega
  have nt := nat_ne t0
  have e : (t : Rat) = ((t.sign : Int) : Rat) * (((t.natAbs : Nat) : Int) : Rat) := by
    rw [← Rat.intCast_mul, Int.sign_mul_natAbs]
  have hs2 : ((t.sign : Int) : Rat) * ((t.sign : Int) : Rat) = 1 := by
    rw [← Rat.intCast_mul]
    rcases Int.lt_trichotomy t 0 with h | h | h
    · rw [Int.sign_eq_neg_one_of_neg h]; rfl
    · exact absurd h ht
    · rw [Int.sign_eq_one_of_pos h]; rfl
  have n1 := nat_ne (n := (m * m) ^ (j + 1)) (Nat.pow_pos (Nat.mul_pos hm hm))
  have n2 := nat_ne (n := t.natAbs ^ j) (Nat.pow_pos t0)
  rw [divInt_div, divInt_div, Nat.mul_pow (m * m) t.natAbs (j + 1), Nat.pow_succ (n := t.natAbs) (m := j), show j + 1 - 1 = j by omega]
  rw [Rat.intCast_mul, Rat.intCast_mul, Int.natCast_mul, Int.natCast_mul ((m * m) ^ (j + 1)), Int.natCast_mul (t.natAbs ^ j), Rat.intCast_mul, Rat.intCast_mul, Rat.intCast_mul, e]
  generalize ((t.sign : Int) : Rat) = s at *
  generalize (((t.natAbs : Nat) : Int) : Rat) = T at *
  generalize (((t.natAbs ^ j : Nat) : Int) : Rat) = U at *
  generalize ((((m * m) ^ (j + 1) : Nat) : Int) : Rat) = M at *
  have hs : s ≠ 0 := by grind
  grind
theorem AZ_dvd {f : Pol} {m n k : Nat} : (m : Int) * m ∣ AZ f m n (k + 1) := by
  unfold AZ
  refine Int.dvd_trans ?_ (Int.dvd_mul_left _ _)
  rw [Nat.pow_succ, Int.natCast_mul, Int.natCast_mul, Int.natCast_mul]
  exact ⟨((m * m) ^ k : Nat) * (((f.ts.getD n 0).natAbs ^ (k + 1 - 1) : Nat) : Int), by ac_rfl⟩
theorem AZ_le {f : Pol} {m n k B : Nat} (h : ∀ j, (f.ts.getD j 0).natAbs ≤ B) : (AZ f m n (k + 1)).natAbs ≤ (B * (m * m)) ^ (k + 1) := by
  unfold AZ
  rw [Int.natAbs_mul, Int.natAbs_mul, Int.natAbs_natCast]
  have hs : (f.ts.getD n 0).sign.natAbs ≤ 1 := by
    rw [Int.natAbs_sign]; split <;> omega
  have h1 := h (n - (k + 1))
  have h2 : (f.ts.getD n 0).natAbs ^ (k + 1 - 1) ≤ B ^ k := Nat.pow_le_pow_left (h n) _
  have a : (f.ts.getD (n - (k + 1)) 0).natAbs * (f.ts.getD n 0).sign.natAbs ≤ B * 1 := Nat.mul_le_mul h1 hs
  refine Nat.le_trans (Nat.mul_le_mul a (Nat.mul_le_mul_left ((m * m) ^ (k + 1)) h2)) ?_
  rw [Nat.mul_pow B (m * m) (k + 1), Nat.pow_succ (n := B) (m := k)]
  refine Nat.le_of_eq ?_
  ac_rfl
def CS (f : Pol) (m s n k : Nat) (B : Nat) (h : Pol) : Prop := ∃ H : List Int, W s (DD f m n) 1 H h ∧ Dm m H ∧ WB 1 (2 ^ (9 * k) * (B * (m * m))) H ∧ (∀ j, k < j → H.getD j 0 = 0) ∧ ∀ j, j < k → (pwZ H m).getD (j + 1) 0 = AZ f m n (j + 1)
theorem set_get {H : List Int} {i j : Nat} {a : Int} (hi : i < H.length) : (H.set i a).getD j 0 = if j = i then a else H.getD j 0 := by
  rw [List.getD_eq_getElem?_getD, List.getElem?_set]
  by_cases h : i = j
  · rw [if_pos h, if_pos h.symm, if_pos (by omega)]; rfl
  · rw [if_neg h, if_neg fun e => h e.symm, List.getD_eq_getElem?_getD]
theorem CS.init {f : Pol} {m s n B : Nat} (hs : 0 < s) (hD : 0 < DD f m n) : CS f m s n 0 B (mono 1 s) := by
  refine ⟨1 :: List.replicate s 0, ⟨by simp, hD, by omega, fun k hk => ?_, fun j hj => by rw [co_mono, if_neg (by omega)]⟩, ⟨rfl, fun k => ?_⟩, fun k => ?_, fun j hj => ?_, fun j hj => by omega⟩
  · rw [co_mono]
    cases k with
    | zero => simp; grind
    | succ k =>
      rw [if_neg (by omega), List.getD_cons_succ, List.getD_eq_getElem?_getD, List.getElem?_replicate]
      split <;> simp <;> grind
  · rw [List.getD_cons_succ, List.getD_eq_getElem?_getD, List.getElem?_replicate]
    split <;> simp
  · cases k with
    | zero => simp
    | succ k =>
      rw [List.getD_cons_succ, List.getD_eq_getElem?_getD, List.getElem?_replicate]
      split <;> simp
  · obtain ⟨i, rfl⟩ : ∃ i, j = i + 1 := ⟨j - 1, by omega⟩
    rw [List.getD_cons_succ, List.getD_eq_getElem?_getD, List.getElem?_replicate]
    split <;> simp
theorem CS.step {f : Pol} {m s n k B : Nat} {h : Pol} (hc : CS f m s n k B h) (hn : n = m * s) (hm : 0 < m) (hm6 : m ≤ 8) (hk : k + 1 < s) (ht : f.ts.getD n 0 ≠ 0) (hB : ∀ j, (f.ts.getD j 0).natAbs ≤ B) : CS f m s n (k + 1) B (h + mono ((f.co (n - (k + 1)) / f.co n - (h.pw m).co (n - (k + 1))) / ((m : Int) : Rat)) (s - (k + 1))) ∧ ∃ δ : Int, (f.co (n - (k + 1)) / f.co n - (h.pw m).co (n - (k + 1))) / ((m : Int) : Rat) = Rat.divInt δ ((DD f m n ^ (k + 1) : Nat) : Int) ∧ δ.natAbs ≤ (2 ^ (9 * (k + 1)) * (B * (m * m))) ^ (k + 1) := by
  obtain ⟨H, w, dm, wb, z, eqs⟩ := hc
  have hle : k + 1 ≤ m * s := by
    have : 1 * s ≤ m * s := Nat.mul_le_mul_right _ hm
    omega
  have wp := w.pw (i := m)
  have cp := wp.co (k + 1) hle
  rw [← hn, Nat.one_mul] at cp
  have hz : H.getD (k + 1) 0 = 0 := z (k + 1) (by omega)
  have d1 := pw_mod2 dm (k := k) (i := m)
  rw [hz, Int.mul_zero, Int.sub_zero] at d1
  have d2 : (m : Int) * m ∣ AZ f m n (k + 1) - (pwZ H m).getD (k + 1) 0 := Int.dvd_sub AZ_dvd d1
  obtain ⟨v, hv⟩ := d2
  have mz : ((m : Int) : Rat) ≠ 0 := nat_ne hm
  have nD := nat_ne (n := DD f m n ^ (k + 1)) (Nat.pow_pos w.D0)
  -- the new number
  have hval : (f.co (n - (k + 1)) / f.co n - (h.pw m).co (n - (k + 1))) / ((m : Int) : Rat) = Rat.divInt ((m : Int) * v) ((DD f m n ^ (k + 1) : Nat) : Int) := by
    rw [AZ_co ht hm (by omega), cp, divInt_div]
    have hv' : (AZ f m n (k + 1) : Rat) - (((pwZ H m).getD (k + 1) 0 : Int) : Rat) = ((m : Int) : Rat) * ((m : Int) : Rat) * (v : Rat) := by
      rw [← Rat.intCast_sub, hv, Rat.intCast_mul, Rat.intCast_mul]
    rw [Rat.intCast_mul]
    grind
  have hδ : ((m : Int) * v).natAbs ≤ (2 ^ (9 * (k + 1)) * (B * (m * m))) ^ (k + 1) := by
    have a1 := AZ_le (f := f) (m := m) (n := n) (k := k) hB
    have a2 := (wb.pw (i := m)) (k + 1)
    rw [Nat.one_mul] at a2
    have a3 : ((m : Int) * v).natAbs ≤ (AZ f m n (k + 1)).natAbs + ((pwZ H m).getD (k + 1) 0).natAbs := by
      have b1 : ((m : Int) * v).natAbs ≤ ((m : Int) * m * v).natAbs := by
        rw [Int.natAbs_mul, Int.natAbs_mul, Int.natAbs_mul, Int.natAbs_natCast, Nat.mul_assoc]
        exact Nat.le_mul_of_pos_left _ hm
      rw [← hv] at b1
      omega
    have e7 : 2 ^ (9 * (k + 1)) = 2 * (2 ^ 8 * 2 ^ (9 * k)) := by
      rw [← Nat.pow_add, ← Nat.pow_succ']; congr 1; omega
    have p6 : 2 ^ m ≤ 2 ^ 8 := pw_le hm6
    have E1 : B * (m * m) ≤ 2 ^ 8 * 2 ^ (9 * k) * (B * (m * m)) := Nat.le_mul_of_pos_left _ (Nat.mul_pos (Nat.two_pow_pos _) (Nat.two_pow_pos _))
    have E2 : 2 ^ m * (2 ^ (9 * k) * (B * (m * m))) ≤ 2 ^ 8 * 2 ^ (9 * k) * (B * (m * m)) := by
      rw [← Nat.mul_assoc]; exact Nat.mul_le_mul_right _ (Nat.mul_le_mul_right _ p6)
    have c1 := Nat.pow_le_pow_left E1 (k + 1)
    have c2 := Nat.pow_le_pow_left E2 (k + 1)
    have two : 2 * (2 ^ 8 * 2 ^ (9 * k) * (B * (m * m))) ^ (k + 1) ≤ (2 ^ (9 * (k + 1)) * (B * (m * m))) ^ (k + 1) := by
      rw [e7, Nat.mul_assoc 2, Nat.mul_pow 2]
      refine Nat.mul_le_mul_right _ ?_
      have : 2 ^ 1 ≤ 2 ^ (k + 1) := pw_le (by omega)
      omega
    omega
  refine ⟨⟨H.set (k + 1) ((m : Int) * v), ?_, ?_, ?_, ?_, ?_⟩, _, hval, hδ⟩
  · refine ⟨by simp [w.len], w.D0, w.c0, fun j hj => ?_, fun j hj => ?_⟩
    · rw [co_add, co_mono, w.co j hj, set_get (by rw [w.len]; omega), hval]
      by_cases e : j = k + 1
      · subst e
        rw [if_pos rfl, if_pos rfl, hz, divInt_div, Nat.one_mul]
        grind
      · rw [if_neg (by omega), if_neg e]; grind
    · rw [co_add, co_mono, w.out j hj, if_neg (by omega)]; grind
  · refine ⟨by rw [set_get (by rw [w.len]; omega), if_neg (by omega)]; exact dm.1, fun j => ?_⟩
    rw [set_get (by rw [w.len]; omega)]
    split
    · exact Int.dvd_mul_right _ _
    · exact dm.2 j
  · intro j
    rw [set_get (by rw [w.len]; omega)]
    split
    · rename_i e; subst e; rw [Nat.one_mul]; exact hδ
    · exact wb.mono (Nat.le_refl 1) (Nat.mul_le_mul_right _ (pw_le (by omega))) j
  · intro j hj
    rw [set_get (by rw [w.len]; omega), if_neg (by omega)]
    exact z j (by omega)
  · intro j hj
    have ag : Ag (k + 1) ((m : Int) * v) (H.set (k + 1) ((m : Int) * v)) H := ⟨fun i hi => by rw [set_get (by rw [w.len]; omega), if_neg (by omega)], by rw [set_get (by rw [w.len]; omega), if_pos rfl, hz]; omega⟩
    obtain ⟨⟨p1, p2⟩, _⟩ := ag.pw dm.1 (i := m)
    by_cases e : j = k
    · subst e
      rw [p2, ← Int.mul_assoc, ← hv]; omega
    · rw [p1 (j + 1) (by omega)]
      exact eqs j (by omega)
end NW
namespace NW
open PySem PySem.Spec PyProof.Rows L2
theorem CS.bits {β : Nat} {m k N : Nat} (hk : k ≤ 15) (hm : m ≤ 16) : 2 ^ (9 * k) * (2 ^ β * (m * m)) ≤ 2 ^ (β + 143) := by
  have a : 2 ^ (9 * k) ≤ 2 ^ 135 := pw_le (by omega)
  have b : m * m ≤ 16 * 16 := Nat.mul_le_mul hm hm
  have c : 2 ^ β * (m * m) ≤ 2 ^ β * 2 ^ 8 := Nat.mul_le_mul_left _ (Nat.le_trans b (by decide))
  refine Nat.le_trans (Nat.mul_le_mul a c) ?_
  rw [← Nat.pow_add, ← Nat.pow_add]
  exact pw_le (by omega)
theorem CS.sz {β : Nat} {f : Pol} {m s n k : Nat} {h : Pol} (hc : CS f m s n k (2 ^ β) h) (hk : k ≤ 15) (hm : m ≤ 16) (hB : ∀ j, (f.ts.getD j 0).natAbs ≤ 2 ^ β) : PBt ((β + 143) * s + 1) (s + 1) h := by
  obtain ⟨H, w, dm, wb, z, eqs⟩ := hc
  have hE := CS.bits (β := β) (N := 0) hk hm
  have hD : DD f m n ≤ 2 ^ (9 * k) * (2 ^ β * (m * m)) := by
    unfold DD
    refine Nat.le_trans ?_ (Nat.le_mul_of_pos_left _ (Nat.two_pow_pos _))
    rw [Nat.mul_comm]
    exact Nat.mul_le_mul_right _ (hB n)
  have hp : (2 ^ (9 * k) * (2 ^ β * (m * m))) ^ s < 2 ^ ((β + 143) * s + 1) := by
    refine Nat.lt_of_le_of_lt (Nat.pow_le_pow_left hE s) ?_
    rw [← Nat.pow_mul]
    exact Nat.pow_lt_pow_right (by omega) (by omega)
  exact w.sz wb hD (by rw [Nat.one_mul]; exact Nat.lt_of_le_of_lt (Nat.pow_le_pow_left hD s) hp) (by rw [Nat.one_mul]; exact hp)
theorem CS.cFB {β : Nat} {f : Pol} {m n k : Nat} {δ : Int} (ht : f.ts.getD n 0 ≠ 0) (h0 : 0 < m) (hk : k + 1 ≤ 15) (hm : m ≤ 16) (hB : ∀ j, (f.ts.getD j 0).natAbs ≤ 2 ^ β) (hδ : δ.natAbs ≤ (2 ^ (9 * (k + 1)) * (2 ^ β * (m * m))) ^ (k + 1)) : FB (15 * β + 2146) (Rat.divInt δ ((DD f m n ^ (k + 1) : Nat) : Int)) := by
  have hE := CS.bits (β := β) (N := 0) hk hm
  have hD : DD f m n ≤ 2 ^ (9 * (k + 1)) * (2 ^ β * (m * m)) := by
    unfold DD
    refine Nat.le_trans ?_ (Nat.le_mul_of_pos_left _ (Nat.two_pow_pos _))
    rw [Nat.mul_comm]
    exact Nat.mul_le_mul_right _ (hB n)
  have hp : (2 ^ (9 * (k + 1)) * (2 ^ β * (m * m))) ^ (k + 1) < 2 ^ (15 * β + 2146) := by
    refine Nat.lt_of_le_of_lt (Nat.pow_le_pow_left hE (k + 1)) ?_
    rw [← Nat.pow_mul]
    have := Nat.mul_le_mul_left (β + 143) (show k + 1 ≤ 15 by omega)
    exact Nat.pow_lt_pow_right (by omega) (by omega)
  have D0 : 0 < DD f m n := Nat.mul_pos (Nat.mul_pos h0 h0) (by omega)
  have D1 : 0 < DD f m n ^ (k + 1) := Nat.pow_pos D0
  refine FB.of_divInt (by omega) (Nat.lt_of_le_of_lt hδ hp) ?_
  rw [Int.natAbs_natCast]
  exact Nat.lt_of_le_of_lt (Nat.pow_le_pow_left hD (k + 1)) hp
theorem CS.same {f : Pol} {m s n k B : Nat} {h : Pol} (hc : CS f m s n k B h) (hn : n = m * s) (hm : 0 < m) (ht : f.ts.getD n 0 ≠ 0) : (∀ j, j ≤ k → j ≤ n → (h.pw m).co (n - j) * f.co n = f.co (n - j)) ∧ h.co s = 1 ∧ (k < s → h.co 0 = 0) ∧ h.ts.length = s + 1 := by
  obtain ⟨H, w, dm, wb, z, eqs⟩ := hc
  have lead : h.co s = 1 := by
    have := w.co 0 (by omega)
    rw [dm.1] at this
    simp at this
    rw [this]; grind
  have fz : f.co n ≠ 0 := by
    unfold Pol.co
    rw [divInt_div]
    have := f.bne
    have : ((f.ts.getD n 0 : Int) : Rat) ≠ 0 := fun e => ht (Rat.intCast_eq_zero_iff.mp e)
    grind
  refine ⟨fun j hj hjn => ?_, lead, fun hks => ?_, len_of (fun j hj => w.out j (by omega)) fun _ => by show h.co s ≠ 0; rw [lead]; decide⟩
  · have cp := (w.pw (i := m)).co j (by omega)
    rw [← hn, Nat.one_mul] at cp
    rw [cp]
    cases j with
    | zero => rw [(Dm.pw dm (i := m)).1]; simp; grind
    | succ j =>
      rw [eqs j (by omega), ← AZ_co ht hm (by omega)]
      grind
  · have := w.co s (by omega)
    rw [Nat.sub_self, z s hks] at this
    rw [this]; simp <;> grind
theorem candidate_to {β : Nat} {f : Pol} {m s n : Nat} (hf : PBt β (n + 1) f) (hl : f.ts.length = n + 1) (hn : n = m * s) (hm : 0 < m) (hs : 0 < s) (hβ : β ≤ 15000) (h12 : n ≤ 16) : (m_candidate [polyD f, .int s]).To fun d => ∃ h, d = polyD h ∧ CS f m s n (s - 1) (2 ^ β) h := by
  have ht : f.ts.getD n 0 ≠ 0 := by
    have := tr_get f.ht (fun e => by rw [e] at hl; simp at hl)
    rwa [hl] at this
  have hB : ∀ j, (f.ts.getD j 0).natAbs ≤ 2 ^ β := fun j => Nat.le_of_lt (hf.get j)
  have hsn : s ≤ n := by rw [hn]; exact Nat.le_mul_of_pos_left _ hm
  have hmn : m ≤ n := by rw [hn]; exact Nat.le_mul_of_pos_right _ hs
  have sz := fun k (hk : k ≤ 15) (h : Pol) (hc : CS f m s n k (2 ^ β) h) => hc.sz hk (by omega) hB
  have st := fun k (hk : k + 1 < s) (h : Pol) (hc : CS f m s n k (2 ^ β) h) => hc.step hn hm (by
    have : m * 2 ≤ m * s := Nat.mul_le_mul_left _ (by omega)
    omega) hk ht hB
  have cf := fun k (hk : k + 1 ≤ 15) (δ : Int) hd => CS.cFB (f := f) (m := m) (n := n) (k := k) (δ := δ) ht hm hk (by omega) hB hd
  have ini : CS f m s n 0 (2 ^ β) (mono 1 s) := CS.init hs (Nat.mul_pos (Nat.mul_pos hm hm) (by omega))
  clear hB
  generalize (2 : Nat) ^ β = B at *
  unfold m_candidate
  rw [pure_to]
  unfold b_candidate
  simp [startL]
  refine degree_to ?_
  rw [fracD_11]
  refine one_power_to (n := 1) (FB.one (by omega)) (by omega) (by omega) (by omega) ?_
  have el : (f.ts.length : Int) - 1 = (n : Int) := by omega
  have eS : ((s : Int) - 1).toNat = s - 1 := by omega
  rw [el]
  refine ⟨1, s, ⟨rfl, rfl⟩, ⟨rfl, decide_eq_true (by omega)⟩, ?_⟩
  rw [eS]
  obtain ⟨I, hI⟩ : ∃ I : Nat → NW.Loc → Sto → Prop, ∀ k l st, I k l st ↔ st = ⟨none, []⟩ ∧ k ≤ s - 1 ∧ ∃ h a b c, l = [some (U.d (polyD f)), some (U.d (PyData.int s)), some (U.d (PyData.int n)), some (U.d (polyD h)), a, b, c] ∧ CS f m s n k B h := ⟨_, fun _ _ _ => Iff.rfl⟩
  refine for_ix I (fun k l st h => by obtain ⟨rfl, _⟩ := (hI _ _ _).mp h; exact chk_nil) ((hI _ _ _).mpr ⟨rfl, by omega, _, _, _, _, rfl, ini⟩) ?_ ?_
  · intro k x l st' hx hh
    obtain ⟨rfl, hk, h, a, b, c, rfl, hc⟩ := (hI _ _ _).mp hh
    have hx' : k < s - 1 ∧ x = .int ((k + 1 : Nat) : Int) := by
      unfold rangeD at hx
      rw [List.getElem?_map] at hx
      by_cases g : k < s - 1
      · rw [List.getElem?_range g] at hx
        refine ⟨g, ?_⟩
        have := Option.some.inj hx
        rw [← this]
        congr 1
        simp; omega
      · rw [List.getElem?_eq_none (by simp; omega)] at hx; cases hx
    obtain ⟨hks, rfl⟩ := hx'
    obtain ⟨hc', δ, hval, hδ⟩ := st k (by omega) h hc
    have shp := sz k (by omega) h hc
    have cfb := cf k (by omega) δ hδ
    have e1 : (n : Int) - ((k : Int) + 1) = ((n - (k + 1) : Nat) : Int) := by omega
    have e2 : (s : Int) - ((k : Int) + 1) = ((s - (k + 1) : Nat) : Int) := by omega
    have e3 : (n : Int).fdiv (s : Int) = (m : Int) := by
      rw [hn, Int.natCast_mul, Int.fdiv_eq_ediv_of_nonneg _ (by omega)]
      exact Int.mul_ediv_cancel _ (by omega)
    have fz : f.co n ≠ 0 := by
      have := lead_ne (f := f) (by omega)
      unfold Pol.deg at this
      rwa [hl] at this
    have hms : m * s ≤ 16 := by omega
    have hEs : (β + 143) * (m * s) ≤ 16 * β + 2288 := Nat.le_trans (Nat.mul_le_mul_left _ hms) (by omega)
    have hEs1 : (β + 143) * s ≤ 16 * β + 2288 := Nat.le_trans (Nat.mul_le_mul_left _ (show s ≤ 16 by omega)) (by omega)
    have q1 : m * ((β + 143) * s + 1 + 10) = (β + 143) * (m * s) + 11 * m := by
      rw [Nat.add_assoc, Nat.mul_add, Nat.mul_left_comm, Nat.mul_comm m (1 + 10)]
    have q2 : (m - 1) * ((β + 143) * s + 1 + 10) ≤ m * ((β + 143) * s + 1 + 10) := Nat.mul_le_mul_right _ (by omega)
    have q3 : m * (s + 1) = m * s + m := by rw [Nat.mul_add, Nat.mul_one]
    have pwp := (shp.pw (k := m) (by omega)).mono (n' := 16 * β + 2500) (m' := 1000) (by omega) (by omega)
    have dv : divC (n : Int) (s : Int) = true := divC_nat hs trivial
    have fm : FB 5 ((m : Int) : Rat) := FB.int (by simp; omega) (by omega)
    have fq := (co_FB (k := n - (k + 1)) hf).div2 (co_FB (k := n) hf) fz
    have ft := fq.sub2 (co_FB (k := n - (k + 1)) pwp)
    simp
    rw [e1, e2, e3]
    refine fraction_at_to (b9 hf (by omega)) ?_
    refine lead_to (b9 hf (by omega)) ?_
    rw [hl, Nat.add_sub_cancel]
    refine dividedx (co_FB hf) (co_FB hf) fz (by omega) ?_
    refine ⟨dv, ?_⟩
    refine powerx shp (by omega) (by omega) (by omega) ?_
    refine fraction_at_to (b9 pwp (by omega)) ?_
    refine takenx fq (co_FB pwp) (by omega) ?_
    refine ⟨dv, ?_⟩
    rw [fracD_int]
    refine dividedx ft fm (nat_ne hm) (by omega) ?_
    refine one_power_to (n := 15 * β + 2146) (by rw [hval]; exact cfb) (by omega) (by omega) (by omega) ?_
    have ms := mono_sz (e := s - (k + 1)) (show FB (15 * β + 2146) ((f.co (n - (k + 1)) / f.co n - (h.pw m).co (n - (k + 1))) / ((m : Int) : Rat)) by rw [hval]; exact cfb)
    refine plusx shp (ms.mono (Nat.le_refl _) (by omega)) (by omega) (by omega) ?_
    exact (hI _ _ _).mpr ⟨rfl, by omega, _, _, _, _, rfl, hc'⟩
  · intro l st' hh
    obtain ⟨rfl, hk, h, a, b, c, rfl, hc⟩ := (hI _ _ _).mp hh
    have : (rangeD 1 1 (s - 1)).length = s - 1 := by unfold rangeD; simp
    rw [this] at hc
    simp
    exact ⟨h, rfl, hc⟩
end NW
namespace NW
open PySem PySem.Spec PyProof.Rows L2
theorem L_powerx {p : Pol} {n m k : Nat} {P : PyData → Prop} (hp : PBt n m p) (hk : k * m + 1 + m ≤ 1000) (hn : (k - 1) * (n + 10) + 1 + n ≤ 999990) (hk9 : k ≤ 100) (h : P (polyD (p.pw k))) : (m_L_power [polyD p, .int k]).To P := by
  unfold m_L_power
  rw [pure_to]
  unfold b_L_power
  simp [startL]
  rw [polyD_one]
  refine ⟨decide_eq_true (by omega), ?_⟩
  rw [range_map]
  obtain ⟨I, hI⟩ : ∃ I : Nat → NW.Loc → Sto → Prop, ∀ j l s, I j l s ↔ j ≤ k ∧ ∃ (v : Option U), l = [some (.d (polyD p)), some (.d (.int k)), some (.d (polyD (p.pw j))), v] ∧ s = ⟨none, []⟩ := ⟨_, fun _ _ _ => Iff.rfl⟩
  refine for_ix I (fun j l s h => by obtain ⟨_, _, _, rfl⟩ := (hI _ _ _).mp h; exact chk_nil) ((hI _ _ _).mpr ⟨by omega, none, rfl, rfl⟩) ?_ ?_
  · rintro j x l s hx h
    obtain ⟨hj, v, rfl, rfl⟩ := (hI _ _ _).mp h
    have hx' := (List.getElem?_eq_some_iff.mp hx).1
    simp at hx'
    have e1 : j * m ≤ k * m := Nat.mul_le_mul_right _ hj
    have e2 : j * (n + 10) ≤ (k - 1) * (n + 10) := Nat.mul_le_mul_right _ (by omega)
    simp
    refine L_timesx (hp.pw (by omega)) hp (by omega) (by omega) (by omega) ?_
    exact (hI _ _ _).mpr ⟨by omega, _, rfl, rfl⟩
  · intro l s h'
    obtain ⟨hj, v, rfl, rfl⟩ := (hI _ _ _).mp h'
    simp at hj ⊢
    exact h
theorem tu_top {A : Rat} {b : Nat} (hA : FB b A) : ∀ n, (Pol.tu A (n + 1)).co (n + 1) = 1 ∧ (Pol.tu A (n + 1)).ts.length = n + 2
  | 0 => ⟨by show Pol.X.co 1 = 1; simp [Pol.co, Pol.X, divInt_div]; grind, rfl⟩
  | n + 1 => by
    obtain ⟨a, l⟩ := tu_top hA n
    have l2 : (Pol.tu A (n + 1 + 1)).ts.length ≤ n + 1 + 2 := (PBt.tu hA (n + 2)).1
    have l0 := (PBt.tu hA n).1
    have top : (Pol.tu A (n + 2)).co (n + 2) = 1 := by
      rw [Pol.tu, co_sub, co_sc, co_zero_of (p := Pol.tu A n) (by omega)]
      have h := co_mul_top (p := Pol.X) (q := Pol.tu A (n + 1))
      have d1 : Pol.X.deg = 1 := rfl
      have d2 : (Pol.tu A (n + 1)).deg = n + 1 := by unfold Pol.deg; omega
      have x1 : Pol.X.co 1 = 1 := by simp [Pol.co, Pol.X, divInt_div]; grind
      rw [d1, d2, x1, a, show 1 + (n + 1) = n + 2 by omega] at h
      rw [h]; grind
    exact ⟨top, len_of (fun k hk => co_zero_of (by omega)) fun _ => by show (Pol.tu A (n + 2)).co (n + 2) ≠ 0; rw [top]; decide⟩
def P2 (x : PyData) : Prop := ∃ m k : Nat, x = .tuple [.int m, .int k] ∧ 2 ≤ m ∧ 2 ≤ k ∧ m * k ≤ 12
theorem P2.mk (m k : Nat) (h : 2 ≤ m ∧ 2 ≤ k ∧ m * k ≤ 12) : P2 (.tuple [.int (m : Int), .int (k : Int)]) := ⟨m, k, rfl, h⟩
end NW
namespace NW
open PySem PySem.Spec PyProof.Rows L2
end NW
namespace NW
open PySem PySem.Spec PyProof.Rows L2
def offZ (r : Int) : List Int → List Int → List Int
  | [], _ => []
  | t :: R, [] => t :: R
  | t :: R, u :: G => (t - r * u) :: offZ r R G
theorem offZ_len {r : Int} : ∀ {R G : List Int}, (offZ r R G).length = R.length
  | [], _ => by simp [offZ]
  | t :: R, [] => by simp [offZ]
  | t :: R, u :: G => by rw [offZ, List.length_cons, offZ_len]; rfl
theorem offZ_get {r : Int} : ∀ {R G : List Int} {k : Nat}, k < R.length → (offZ r R G).getD k 0 = R.getD k 0 - r * G.getD k 0
  | [], _, k, h => by simp at h
  | t :: R, [], k, _ => by simp [offZ]
  | t :: R, u :: G, 0, _ => by simp [offZ]
  | t :: R, u :: G, k + 1, h => by
    rw [offZ, List.getD_cons_succ, List.getD_cons_succ, List.getD_cons_succ]
    exact offZ_get (by simpa using h)
theorem WB.off {C E : Nat} {R G : List Int} (hR : WB C E R) (hG : WB 1 E G) : WB (2 * C * E) E (offZ (R.getD 0 0) R G).tail := fun k => by
  have e : ∀ l : List Int, l.tail.getD k 0 = l.getD (k + 1) 0 := fun l => by cases l <;> simp
  rw [e]
  by_cases h : k + 1 < R.length
  · rw [offZ_get h]
    have a := hR (k + 1)
    have b := hR 0
    have c := hG (k + 1)
    rw [Nat.pow_zero, Nat.mul_one] at b
    rw [Nat.one_mul] at c
    have m := Nat.mul_le_mul b c
    rw [← Int.natAbs_mul] at m
    have s := Int.natAbs_sub_le (R.getD (k + 1) 0) (R.getD 0 0 * G.getD (k + 1) 0)
    have p : 2 * C * E * E ^ k = C * E ^ (k + 1) + C * E ^ (k + 1) := by rw [Nat.pow_succ, Nat.mul_assoc 2, Nat.mul_assoc 2, Nat.two_mul]; congr 1 <;> ac_rfl
    omega
  · rw [List.getD_eq_getElem?_getD, List.getElem?_eq_none (by rw [offZ_len]; omega)]
    simp
theorem evQ_mono {c x : Rat} : ∀ {e : Nat}, evQ (List.replicate e (0 : Rat) ++ [c]) x = c * x ^ e
  | 0 => by simp [evQ]; grind
  | e + 1 => by
    rw [List.replicate_succ, List.cons_append, evQ, evQ_mono, Rat.pow_succ]
    grind
theorem ev_mono {c x : Rat} {e : Nat} : (mono c e).ev x = c * x ^ e := by unfold mono; rw [ev_ofC, evQ_mono]
theorem evZ_off {r : Int} {x : Rat} : ∀ {R G : List Int}, G.length ≤ R.length → evZ (offZ r R G) x = evZ R x - (r : Rat) * evZ G x
  | [], [], _ => by simp [offZ, evZ]; grind
  | [], u :: G, h => by simp at h
  | t :: R, [], _ => by simp [offZ, evZ]; grind
  | t :: R, u :: G, h => by
    rw [offZ, evZ, evZ, evZ, evZ_off (by simpa using h), Rat.intCast_sub, Rat.intCast_mul]
    grind
theorem W.step {r s D c : Nat} {R G : List Int} {p g : Pol} (hp : W (r + 1) D c R p) (hg : W s D 1 G g) (h1 : G.getD 0 0 = 1) (hs : s ≤ r + 1) : W r D (c * D) (offZ (R.getD 0 0) R G).tail (p - mono (p.co (r + 1)) (r + 1 - s) * g) := by
  have hl := hp.len
  have hgl := hg.len
  refine W.of_ev (by rw [List.length_tail, offZ_len]; omega) hp.D0 (Nat.mul_pos hp.c0 hp.D0) fun x hx => ?_
  have a := hp.ev hx
  have b := hg.ev hx
  have l := hp.co 0 (by omega)
  have nc := nat_ne hp.c0
  have nD := nat_ne hp.D0
  have e := evZ_off (r := R.getD 0 0) (x := 1 / ((((D : Nat) : Int) : Rat) * x)) (R := R) (G := G) (by omega)
  have head : evZ (offZ (R.getD 0 0) R G) (1 / ((((D : Nat) : Int) : Rat) * x)) = 1 / ((((D : Nat) : Int) : Rat) * x) * evZ (offZ (R.getD 0 0) R G).tail (1 / ((((D : Nat) : Int) : Rat) * x)) := by
    have z := offZ_get (r := R.getD 0 0) (R := R) (G := G) (k := 0) (by omega)
    rw [h1, Int.mul_one, Int.sub_self] at z
    cases h : offZ (R.getD 0 0) R G with
    | nil => simp [evZ]
    | cons t ts =>
      rw [h] at z
      simp at z
      subst z
      rw [evZ, List.tail_cons]
      simp
      grind
  rw [ev_sub, ev_mul, ev_mono]
  rw [Nat.pow_zero, Nat.mul_one, Nat.sub_zero] at l
  simp at b
  rw [l]
  have px : x ^ (r + 1) = x ^ (r + 1 - s) * x ^ s := by rw [← rpow_add]; congr 1; omega
  have px2 : x ^ (r + 1) = x ^ r * x := Rat.pow_succ ..
  rw [Int.natCast_mul, Rat.intCast_mul]
  generalize hz : 1 / ((((D : Nat) : Int) : Rat) * x) = z at *
  generalize evZ (offZ (R.getD 0 0) R G) z = O at *
  generalize evZ (offZ (R.getD 0 0) R G).tail z = T at *
  generalize evZ R z = ER at *
  generalize evZ G z = EG at *
  have dz : (((D : Nat) : Int) : Rat) * x * z = 1 := by grind
  generalize x ^ (r + 1 - s) = y at *
  generalize x ^ s = w at *
  generalize x ^ r = v at *
  generalize x ^ (r + 1) = u at *
  generalize ((R.getD 0 0 : Int) : Rat) = R0 at *
  generalize (((D : Nat) : Int) : Rat) = DD at *
  generalize (((c : Nat) : Int) : Rat) = cc at *
  have k1 : (p.ev x - R0 / cc * y * g.ev x) * (cc * DD) = DD * (p.ev x * cc - R0 * (y * w * EG)) := by rw [b]; grind
  rw [k1, a, ← px, px2]
  have k2 : DD * (v * x * ER - R0 * (v * x * EG)) = DD * x * v * (ER - R0 * EG) := by grind
  rw [k2, ← e, head]
  grind
end NW
namespace NW
open PySem PySem.Spec PyProof.Rows L2
theorem getD_tail {l : List Int} {k : Nat} : l.tail.getD k 0 = l.getD (k + 1) 0 := by cases l <;> simp
theorem WB.tail {C E : Nat} {R : List Int} (h : WB C E R) : WB (C * E) E R.tail := fun k => by
  rw [getD_tail]
  refine Nat.le_trans (h (k + 1)) (Nat.le_of_eq ?_)
  rw [Nat.pow_succ, Nat.mul_assoc, Nat.mul_comm E]
theorem W.drop {r D c : Nat} {R : List Int} {p : Pol} (h : W (r + 1) D c R p) (h0 : p.co (r + 1) = 0) : W r D (c * D) R.tail p := by
  refine ⟨by rw [List.length_tail, h.len]; rfl, h.D0, Nat.mul_pos h.c0 h.D0, fun k hk => ?_, fun j hj => ?_⟩
  · have := h.co (k + 1) (by omega)
    rw [show r + 1 - (k + 1) = r - k by omega, Nat.pow_succ, Nat.mul_comm (D ^ k), ← Nat.mul_assoc] at this
    rw [getD_tail, this]
  · by_cases e : j = r + 1
    · subst e; exact h0
    · exact h.out j (by omega)
def RS (D c C E n r : Nat) (p : Pol) : Prop := ∃ R, W r D (c * D ^ (n - r)) R p ∧ WB (C * (2 * E) ^ (n - r)) E R
theorem RS.down {D c C E n r : Nat} {p : Pol} (h : RS D c C E n (r + 1) p) (hr : r + 1 ≤ n) (h0 : p.co (r + 1) = 0) : RS D c C E n r p := by
  obtain ⟨R, w, wb⟩ := h
  have e : n - r = n - (r + 1) + 1 := by omega
  refine ⟨R.tail, ?_, ?_⟩
  · have := w.drop h0
    rw [e, Nat.pow_succ, ← Nat.mul_assoc]; exact this
  · refine wb.tail.mono ?_ (Nat.le_refl _)
    rw [e, Nat.pow_succ, ← Nat.mul_assoc]
    exact Nat.mul_le_mul_left _ (by omega)
theorem RS.norm {D c C E n s : Nat} {p : Pol} (hs : 0 < s) : ∀ {r : Nat}, RS D c C E n r p → r ≤ n → s ≤ r + 1 → ∃ r', r' ≤ r ∧ s ≤ r' + 1 ∧ RS D c C E n r' p ∧ (s ≤ r' → p.ts.length = r' + 1) := by
  intro r
  induction r with
  | zero =>
    intro h hn hr
    exact ⟨0, by omega, hr, h, fun _ => by omega⟩
  | succ r ih =>
    intro h hn hr
    by_cases e : p.co (r + 1) = 0
    · by_cases e2 : s ≤ r + 1
      · obtain ⟨r', a, b, c, d⟩ := ih (h.down hn e) (by omega) e2
        exact ⟨r', by omega, b, c, d⟩
      · exact ⟨r + 1, by omega, hr, h, fun _ => by omega⟩
    · refine ⟨r + 1, by omega, hr, h, fun _ => ?_⟩
      obtain ⟨R, w, _⟩ := h
      exact len_of (fun k hk => w.out k (by omega)) fun _ => by simpa using e
theorem RS.step {D c C E n r s : Nat} {G : List Int} {p g : Pol} (h : RS D c C E n (r + 1) p) (hr : r + 1 ≤ n) (hg : W s D 1 G g) (h1 : G.getD 0 0 = 1) (hG : WB 1 E G) (hs : s ≤ r + 1) : RS D c C E n r (p - mono (p.co (r + 1)) (r + 1 - s) * g) := by
  obtain ⟨R, w, wb⟩ := h
  have e : n - r = n - (r + 1) + 1 := by omega
  refine ⟨_, ?_, (wb.off hG).mono ?_ (Nat.le_refl _)⟩
  · have := w.step hg h1 hs
    rw [e, Nat.pow_succ, ← Nat.mul_assoc]; exact this
  · rw [e, Nat.pow_succ]
    exact Nat.le_of_eq (by ac_rfl)
theorem RS.sz {D c C E n r N : Nat} {p : Pol} (h : RS D c C E n r p) (hr : r ≤ n) (hDE : D ≤ E) (hb : c * D ^ n < 2 ^ N) (hC : C * (2 * E) ^ n < 2 ^ N) : PBt N (r + 1) p := by
  obtain ⟨R, w, wb⟩ := h
  refine w.sz wb hDE ?_ ?_
  · rw [Nat.mul_assoc, ← Nat.pow_add, show n - r + r = n by omega]; exact hb
  · refine Nat.lt_of_le_of_lt ?_ hC
    rw [Nat.mul_assoc]
    refine Nat.mul_le_mul_left _ ?_
    refine Nat.le_trans (Nat.mul_le_mul_left _ (Nat.pow_le_pow_left (show E ≤ 2 * E by omega) r)) ?_
    rw [← Nat.pow_add, show n - r + r = n by omega]
    exact Nat.le_refl _
def cD (c D M : Nat) : Rat := (((c * D ^ M : Nat) : Int) : Rat)
theorem RS.den {D c C E n r M B : Nat} {p : Pol} (h : RS D c C E n r p) (hr : r ≤ n) (hM : n ≤ M) (hDE : D ≤ E) (hB : C * (2 * E) ^ n * D ^ (M - n) < B) (k : Nat) : ∃ T : Int, p.co k = (T : Rat) / cD c D M ∧ T.natAbs < B := by
  unfold cD
  obtain ⟨R, w, wb⟩ := h
  have c0 : 0 < c := Nat.pos_of_ne_zero fun e => by have := w.c0; rw [e] at this; simp at this
  by_cases hk : k ≤ r
  · have := w.co (r - k) (by omega)
    rw [show r - (r - k) = k by omega] at this
    refine ⟨R.getD (r - k) 0 * ((D ^ (M - (n - k)) : Nat) : Int), ?_, ?_⟩
    · have e : c * D ^ M = c * D ^ (n - r) * D ^ (r - k) * D ^ (M - (n - k)) := by
        rw [Nat.mul_assoc, Nat.mul_assoc, ← Nat.pow_add, ← Nat.pow_add]
        congr 2; omega
      rw [this, e, Int.natCast_mul (c * D ^ (n - r) * D ^ (r - k)), Rat.intCast_mul, Rat.intCast_mul]
      have n1 := nat_ne (n := D ^ (M - (n - k))) (Nat.pow_pos w.D0)
      have n2 := nat_ne (n := c * D ^ (n - r) * D ^ (r - k)) (Nat.mul_pos w.c0 (Nat.pow_pos w.D0))
      grind
    · refine Nat.lt_of_le_of_lt ?_ hB
      rw [Int.natAbs_mul, Int.natAbs_natCast, show M - (n - k) = k + (M - n) by omega, Nat.pow_add, ← Nat.mul_assoc]
      refine Nat.mul_le_mul_right _ ?_
      have a1 := wb (r - k)
      have a2 : D ^ k ≤ (2 * E) ^ k := Nat.pow_le_pow_left (by omega) k
      have a3 : E ^ (r - k) ≤ (2 * E) ^ (r - k) := Nat.pow_le_pow_left (by omega) _
      have a4 := Nat.mul_le_mul (Nat.le_trans a1 (Nat.mul_le_mul_left _ a3)) a2
      refine Nat.le_trans a4 (Nat.le_of_eq ?_)
      rw [Nat.mul_assoc, Nat.mul_assoc, ← Nat.pow_add, ← Nat.pow_add]
      congr 2; omega
  · exact ⟨0, by rw [w.out k (by omega)]; simp; grind, by omega⟩
def Qo (D c C E n s r : Nat) (q : Pol) : Prop := ∃ Q, W (n - s) D c Q q ∧ WB C (2 * E) Q ∧ ∀ k, n - r ≤ k → Q.getD k 0 = 0
theorem rep_getD {n k : Nat} : (List.replicate n (0 : Int)).getD k 0 = 0 := by
  rw [List.getD_eq_getElem?_getD, List.getElem?_replicate]; split <;> rfl
theorem co_zero {k : Nat} : Pol.zero.co k = 0 := by
  unfold Pol.co Pol.zero; simp
theorem Qo.init {D c C E n s : Nat} (hD : 0 < D) (hc : 0 < c) : Qo D c C E n s n Pol.zero :=
  ⟨List.replicate (n - s + 1) 0, ⟨by simp, hD, hc, fun k hk => by rw [co_zero, rep_getD]; simp <;> grind, fun j hj => co_zero⟩, fun k => by rw [rep_getD]; simp, fun k _ => rep_getD⟩
theorem Qo.step {D c C E n s r : Nat} {p q : Pol} (hq : Qo D c C E n s r q) (hp : RS D c C E n r p) (hr : r ≤ n) (hs : s ≤ r) {r' : Nat} (hr' : r' < r) : Qo D c C E n s r' (q + mono (p.co r) (r - s)) := by
  obtain ⟨Q, w, wb, z⟩ := hq
  obtain ⟨R, v, vb⟩ := hp
  have hl := w.len
  have pc := v.co 0 (by omega)
  rw [Nat.pow_zero, Nat.mul_one, Nat.sub_zero] at pc
  have hz := z (n - r) (Nat.le_refl _)
  have nc := nat_ne (n := c * D ^ (n - r)) v.c0
  refine ⟨Q.set (n - r) (R.getD 0 0), ⟨by simpa using hl, w.D0, w.c0, fun k hk => ?_, fun j hj => ?_⟩, fun k => ?_, fun k hk => ?_⟩
  · rw [co_add, co_mono, w.co k hk, set_get (by omega)]
    by_cases e : k = n - r
    · subst e
      rw [if_pos (by omega), if_pos rfl, hz, pc]
      simp; grind
    · rw [if_neg (by omega), if_neg e]; grind
  · rw [co_add, co_mono, w.out j hj, if_neg (by omega)]; grind
  · rw [set_get (by omega)]
    split
    · rename_i e; subst e
      have := vb 0
      rw [Nat.pow_zero, Nat.mul_one] at this
      exact this
    · exact wb k
  · rw [set_get (by omega), if_neg (by omega)]
    exact z k (by omega)
theorem Qo.weak {D c C E n s r r' : Nat} {q : Pol} (hq : Qo D c C E n s r q) (h : r' ≤ r) : Qo D c C E n s r' q := by
  obtain ⟨Q, w, wb, z⟩ := hq
  exact ⟨Q, w, wb, fun k hk => z k (by omega)⟩
theorem Qo.sz {D c C E n s r N : Nat} {q : Pol} (h : Qo D c C E n s r q) (hDE : D ≤ E) (hE : 0 < E) (hb : c * D ^ n < 2 ^ N) (hC : C * (2 * E) ^ n < 2 ^ N) : PBt N (n - s + 1) q := by
  obtain ⟨Q, w, wb, z⟩ := h
  refine w.sz wb (by omega) (Nat.lt_of_le_of_lt (Nat.mul_le_mul_left _ (Nat.pow_le_pow_right w.D0 (by omega))) hb) (Nat.lt_of_le_of_lt (Nat.mul_le_mul_left _ (Nat.pow_le_pow_right (by omega) (by omega))) hC)
theorem Qo.rs {D c C E n s r : Nat} {q : Pol} (h : Qo D c C E n s r q) : RS D c C (2 * E) (n - s) (n - s) q := by
  obtain ⟨Q, w, wb, z⟩ := h
  exact ⟨Q, by simpa using w, by simpa using wb⟩
theorem sc_len {p : Pol} {r : Rat} (hr : r ≠ 0) : (p.sc r).ts.length = p.ts.length := by
  refine len_of (fun k hk => by rw [co_sc, co_zero_of hk]; grind) fun h => ?_
  rw [co_sc]
  have := co_lead (p := p) fun e => h (by rw [e]; rfl)
  grind
theorem parted_small {f h : Pol} (hl : f.ts.length < h.ts.length) {P : PyData → Prop} (hP : P (.tuple [polyD Pol.zero, polyD f])) : (m_parted_2 [polyD f, polyD h]).To P := by
  unfold m_parted_2
  rw [pure_to]
  unfold b_parted_2
  simp [startL]
  refine while_to (I := fun n l s => s = ⟨none, []⟩ ∧ l = [some (.d (polyD f)), some (.d (polyD h)), some (.d (polyD Pol.zero)), some (.d (polyD f)), none]) ?_ 0 _ _ ⟨rfl, rfl⟩
  rintro n l s ⟨rfl, rfl⟩
  simp
  refine degree_to ?_
  refine degree_to ?_
  have e : ¬ (h.ts.length : Int) ≤ f.ts.length := by omega
  simp [e]
  exact hP
theorem parted_to {f g : Pol} {G : List Int} {L μ : Rat} {n s D c C E N κ η : Nat} (hf : RS D c C E n n f) (hg : W s D 1 G g) (h1 : G.getD 0 0 = 1) (hG : WB 1 E G) (hDE : D ≤ E)
    (hL : L ≠ 0) (hμ : μ ≠ 0) (h2 : FB κ μ) (h3 : FB κ (μ / L)) (h4 : PBt η (s + 1) (g.sc L)) (hb : c * D ^ n < 2 ^ N) (hC : C * (2 * E) ^ n < 2 ^ N) (hN : 0 < N) (hs : 0 < s) (hsn : s ≤ n) (hn : n ≤ 100) (hsz : 2 * N + 2 * κ + η + 30 ≤ 799990) :
    (m_parted_2 [polyD (f.sc μ), polyD (g.sc L)]).To fun d => ∃ q r : Pol, d = .tuple [polyD (q.sc (μ / L)), polyD (r.sc μ)] ∧ (∀ x, f.ev x = q.ev x * g.ev x + r.ev x) ∧ RS D c C (2 * E) (n - s) (n - s) q ∧ r.ts.length ≤ s ∧ PBt (N + κ) s (r.sc μ) ∧ ∀ M B, n ≤ M → C * (2 * E) ^ n * D ^ (M - n) < B → ∀ k, ∃ T : Int, r.co k = (T : Rat) / cD c D M ∧ T.natAbs < B := by
  have hE : 0 < E := Nat.lt_of_lt_of_le hg.D0 hDE
  have c0 : 0 < c := by obtain ⟨R, w, _⟩ := hf; have := w.c0; rw [Nat.sub_self, Nat.pow_zero, Nat.mul_one] at this; exact this
  have hD0 := hg.D0
  have gl : g.ts.length = s + 1 := len_of (fun k hk => hg.out k (by omega)) fun _ => by
    have := hg.co 0 (by omega)
    rw [h1] at this
    simp at this
    rw [Nat.add_sub_cancel, this]; grind
  have gtop : g.co s = 1 := by
    have := hg.co 0 (by omega)
    rw [h1] at this
    simp at this
    rw [this]; grind
  have hlen : (g.sc L).ts.length = s + 1 := by rw [sc_len hL, gl]
  unfold m_parted_2
  rw [pure_to]
  unfold b_parted_2
  simp [startL]
  obtain ⟨I, hI⟩ : ∃ I : Nat → NW.Loc → Sto → Prop, ∀ k l st, I k l st ↔ st = ⟨none, []⟩ ∧ k ≤ n ∧ s ≤ k + 1 ∧ ∃ (q r : Pol) (a : Option U), l = [some (.d (polyD (f.sc μ))), some (.d (polyD (g.sc L))), some (.d (polyD (q.sc (μ / L)))), some (.d (polyD (r.sc μ))), a] ∧ RS D c C E n k r ∧ (s ≤ k → r.ts.length = k + 1) ∧ Qo D c C E n s k q ∧ ∀ x, f.ev x = q.ev x * g.ev x + r.ev x := ⟨_, fun _ _ _ => Iff.rfl⟩
  obtain ⟨k, k1, k2, k3, k4⟩ := hf.norm hs (Nat.le_refl _) (by omega)
  have e0 : Pol.zero.sc (μ / L) = Pol.zero := Pol.ext_co fun j => by rw [co_sc, co_zero]; grind
  refine while_to (I := I) ?_ k _ _ ((hI _ _ _).mpr ⟨rfl, k1, k2, Pol.zero, f, none, by rw [e0]; rfl, k3, k4, (Qo.init hD0 c0).weak k1, fun x => by rw [ev_zero]; grind⟩)
  clear k1 k2 k3 k4 k e0 hf
  intro k l st hi
  obtain ⟨rfl, k1, k2, q, r, a, rfl, hr, hrl, hq, hev⟩ := (hI _ _ _).mp hi
  have rsz := hr.sz k1 hDE hb hC
  have qsz := hq.sz hDE hE hb hC
  have rsc := rsz.sc h2
  have qsc := qsz.sc h3
  have lr : (r.sc μ).ts.length = r.ts.length := sc_len hμ
  simp
  refine degree_to ?_
  refine degree_to ?_
  by_cases hk : s ≤ k
  · have hl := hrl hk
    have c1 : ((g.sc L).ts.length : Int) ≤ (r.sc μ).ts.length := by rw [hlen, lr, hl]; omega
    obtain ⟨j, rfl⟩ : ∃ j, k = j + 1 := ⟨k - 1, by omega⟩
    have gz : (g.sc L).co s ≠ 0 := by rw [co_sc, gtop]; grind
    have f1 : FB (N + κ) ((r.sc μ).co (j + 1)) := co_FB rsc
    have f2 : FB η ((g.sc L).co s) := co_FB h4
    have val : (r.sc μ).co (j + 1) / (g.sc L).co s = r.co (j + 1) * (μ / L) := by rw [co_sc, co_sc, gtop]; grind
    have f3 : FB (N + κ) (r.co (j + 1) * (μ / L)) := (co_FB rsz).mul2 h3
    have m1 := mono_sz (e := j + 1 - s) f3
    simp [c1]
    refine lead_to (b9 rsc (by omega)) ?_
    refine lead_to (b9 h4 (by omega)) ?_
    rw [lr, hl, hlen, Nat.add_sub_cancel, Nat.add_sub_cancel]
    refine dividedx f1 f2 gz (by omega) ?_
    refine degree_to ?_
    refine degree_to ?_
    rw [lr, hl, hlen, val]
    have ee : (((j + 1 + 1 : Nat) : Int) - 1 - (((s + 1 : Nat) : Int) - 1)) = ((j + 1 - s : Nat) : Int) := by omega
    rw [to_subI, ee, callP_2]
    refine one_power_to f3 (by omega) (by omega) (by omega) ?_
    simp
    refine plusx qsc (m1.mono (Nat.le_refl _) (show j + 1 - s + 1 ≤ n - s + 1 by omega)) (by omega) (by omega) ?_
    refine timesx m1 h4 (by omega) (by omega) (by omega) ?_
    have tsz := m1.mul h4 (by omega)
    refine minusx (rsc.mono (Nat.le_refl _) (show j + 1 + 1 ≤ 400 by omega)) (tsz.mono (Nat.le_refl _) (by omega)) (by omega) (by omega) ?_
    have hst := hr.step k1 hg h1 hG hk
    obtain ⟨k', a1, a2, a3, a4⟩ := hst.norm hs (by omega) hk
    have u1 : q.sc (μ / L) + mono (r.co (j + 1) * (μ / L)) (j + 1 - s) = (q + mono (r.co (j + 1)) (j + 1 - s)).sc (μ / L) := Pol.ext_ev fun x => by
      rw [ev_add, ev_sc, ev_sc, ev_add, ev_mono, ev_mono]; grind
    have u2 : r.sc μ - mono (r.co (j + 1) * (μ / L)) (j + 1 - s) * g.sc L = (r - mono (r.co (j + 1)) (j + 1 - s) * g).sc μ := Pol.ext_ev fun x => by
      rw [ev_sub, ev_sc, ev_mul, ev_sc, ev_sc, ev_sub, ev_mul, ev_mono, ev_mono]; grind
    rw [u1, u2]
    refine ⟨k', by omega, (hI _ _ _).mpr ⟨rfl, by omega, a2, q + mono (r.co (j + 1)) (j + 1 - s), r - mono (r.co (j + 1)) (j + 1 - s) * g, _, rfl, a3, a4, hq.step hr k1 hk (by omega), fun x => ?_⟩⟩
    · rw [ev_add, ev_sub, ev_mul, hev x, ev_mono]; grind
  · have rl : r.ts.length ≤ s := by
      obtain ⟨R, w, _⟩ := hr
      have := w.plen
      omega
    have c1 : ¬ ((g.sc L).ts.length : Int) ≤ (r.sc μ).ts.length := by rw [hlen, lr]; omega
    simp [c1]
    exact ⟨q, r, ⟨rfl, rfl⟩, hev, hq.rs, rl, rsc.mono (Nat.le_refl _) (by omega), fun M B hM hB j => hr.den k1 hM hDE hB j⟩
end NW
namespace NW
open PySem PySem.Spec PyProof.Rows L2
def evD : List Pol → Rat → Rat → Rat
  | [], _, _ => 0
  | c :: cs, y, x => c.ev x + y * evD cs y x
theorem evD_snoc {c : Pol} {y x : Rat} : ∀ {cs : List Pol}, evD (cs ++ [c]) y x = evD cs y x + y ^ cs.length * c.ev x
  | [] => by simp [evD]; grind
  | d :: cs => by rw [List.cons_append, evD, evD, evD_snoc, List.length_cons, Rat.pow_succ]; grind
def hzp (h : Pol) : List Pol → Pol
  | [] => Pol.zero
  | c :: cs => hzp h cs * h + c
theorem ev_hzp {h : Pol} {x : Rat} : ∀ {cs : List Pol}, (hzp h cs).ev x = evD cs (h.ev x) x
  | [] => by rw [hzp, ev_zero]; rfl
  | c :: cs => by rw [hzp, ev_add, ev_mul, ev_hzp, evD]; grind
structure Dg (h f : Pol) (cs : List Pol) : Prop where
  ev : ∀ x, f.ev x = evD cs (h.ev x) x
  lt : ∀ c, c ∈ cs → c.ts.length < h.ts.length
  last : cs = [] ∨ ∃ ds c, cs = ds ++ [c] ∧ c.ts ≠ []
theorem Dg.eq {h f : Pol} {cs : List Pol} (d : Dg h f cs) : hzp h cs = f := Pol.ext_ev fun x => by rw [ev_hzp, d.ev x]
theorem zero_of {p : Pol} (h : p.ts = []) : p = Pol.zero := Pol.ext_co fun k => by rw [co_zero_of (by rw [h]; simp), co_zero]
theorem split_h {h c c' q q' : Pol} (h0 : h.ts ≠ []) (hc : c.ts.length < h.ts.length) (hc' : c'.ts.length < h.ts.length) (e : ∀ x, c.ev x + h.ev x * q.ev x = c'.ev x + h.ev x * q'.ev x) : c = c' ∧ q = q' := by
  have key : (q - q') * h = c' - c := Pol.ext_ev fun x => by
    have := e x
    rw [ev_mul, ev_sub, ev_sub]; grind
  have small : (c' - c).ts.length < h.ts.length := by
    have : (c' - c).ts.length ≤ max c'.ts.length c.ts.length := len_le fun k hk => by
      rw [co_sub, co_zero_of (by omega), co_zero_of (by omega)]; grind
    omega
  have z : (q - q').ts = [] := by
    by_cases z : (q - q').ts = []
    · exact z
    · exfalso
      have := len_mul z h0
      rw [key] at this
      have := List.length_pos_iff.mpr z
      omega
  have z2 := zero_of z
  have qq : q = q' := Pol.ext_ev fun x => by
    have := congrArg (fun p => p.ev x) z2
    simp only [ev_sub, ev_zero] at this
    grind
  subst qq
  exact ⟨Pol.ext_ev fun x => by have := e x; grind, rfl⟩
theorem zero_all {h : Pol} (h0 : h.ts ≠ []) : ∀ {cs : List Pol}, (∀ x, evD cs (h.ev x) x = 0) → (∀ c, c ∈ cs → c.ts.length < h.ts.length) → ∀ c, c ∈ cs → c = Pol.zero
  | [], _, _, c, hc => by cases hc
  | d :: ds, e, lt, c, hc => by
    have hp := List.length_pos_iff.mpr h0
    obtain ⟨a, b⟩ := split_h (c := d) (c' := Pol.zero) (q := hzp h ds) (q' := Pol.zero) h0 (lt d (by simp)) (by simpa [Pol.zero] using hp) fun x => by
      have := e x
      rw [evD] at this
      rw [ev_hzp, ev_zero, this]; grind
    rcases List.mem_cons.mp hc with rfl | hc
    · exact a
    · exact zero_all h0 (fun x => by rw [← ev_hzp, b, ev_zero]) (fun c hc => lt c (List.mem_cons_of_mem _ hc)) c hc
theorem Dg.tail {h f c : Pol} {cs : List Pol} (d : Dg h f (c :: cs)) : Dg h (hzp h cs) cs := by
  refine ⟨fun x => ev_hzp, fun e he => d.lt e (List.mem_cons_of_mem _ he), ?_⟩
  rcases d.last with e | ⟨ds, e, h1, h2⟩
  · cases e
  · cases ds with
    | nil => cases h1; exact .inl rfl
    | cons b ds => cases h1; exact .inr ⟨ds, e, rfl, h2⟩
theorem Dg.uniq {h : Pol} (h0 : h.ts ≠ []) : ∀ {cs cs' : List Pol} {f : Pol}, Dg h f cs → Dg h f cs' → cs = cs'
  | [], [], _, _, _ => rfl
  | [], c :: cs, f, a, b => by
    exfalso
    rcases b.last with e | ⟨ds, e, h1, h2⟩
    · cases e
    · have := zero_all h0 (cs := c :: cs) (fun x => by rw [← b.ev x, a.ev x]; rfl) b.lt e (by rw [h1]; simp)
      rw [this] at h2; exact h2 rfl
  | c :: cs, [], f, a, b => by
    exfalso
    rcases a.last with e | ⟨ds, e, h1, h2⟩
    · cases e
    · have := zero_all h0 (cs := c :: cs) (fun x => by rw [← a.ev x, b.ev x]; rfl) a.lt e (by rw [h1]; simp)
      rw [this] at h2; exact h2 rfl
  | c :: cs, c' :: cs', f, a, b => by
    obtain ⟨e1, e2⟩ := split_h (c := c) (c' := c') (q := hzp h cs) (q' := hzp h cs') h0 (a.lt c (by simp)) (b.lt c' (by simp)) fun x => by
      have x1 := a.ev x
      have x2 := b.ev x
      rw [evD] at x1 x2
      rw [ev_hzp, ev_hzp, ← x1, ← x2]
    have t2 := b.tail
    rw [← e2] at t2
    rw [e1, Dg.uniq h0 a.tail t2]
theorem digits_den {f g : Pol} {G : List Int} {L : Rat} {n s D c C E N κ η : Nat} (hf : RS D c C E n n f) (hg : W s D 1 G g) (h1 : G.getD 0 0 = 1) (hG : WB 1 E G) (hDE : D ≤ E)
    (hL : L ≠ 0) (h2 : ∀ i, i * s ≤ n + s → FB κ ((1 / L) ^ i)) (h4 : PBt η (s + 1) (g.sc L)) (hb : c * D ^ n < 2 ^ N) (hC' : ∀ i, i * s ≤ n → C * (2 * (2 ^ i * E)) ^ (n - i * s) * D ^ (i * s) < 2 ^ N) (hN : 0 < N) (hs : 0 < s) (hn : n ≤ 100) (hsz : 2 * N + 2 * κ + η + 30 ≤ 799990) :
    (m_digits [polyD f, polyD (g.sc L)]).To fun d => ∃ cs : List Pol, d = .tuple (cs.map polyD) ∧ Dg (g.sc L) f cs ∧ (∀ c, c ∈ cs → PBt (N + κ) s c) ∧ (∀ j, PBt (N + κ) (n + 1) (hzp (g.sc L) (cs.drop j))) ∧ ∀ (i : Nat) (q : Pol), cs[i]? = some q → ∀ k, ∃ T : Int, q.co k = (T : Rat) / cD c D n * (1 / L) ^ i ∧ T.natAbs < 2 ^ N := by
  have gl : g.ts.length = s + 1 := len_of (fun k hk => hg.out k (by omega)) fun _ => by
    have := hg.co 0 (by omega)
    rw [h1] at this
    simp at this
    rw [Nat.add_sub_cancel, this]; grind
  have hlen : (g.sc L).ts.length = s + 1 := by rw [sc_len hL, gl]
  have hD0 := hg.D0
  have hC : ∀ i, i * s ≤ n → C * (2 * (2 ^ i * E)) ^ (n - i * s) < 2 ^ N := fun i hi => Nat.lt_of_le_of_lt (Nat.le_mul_of_pos_right _ (Nat.pow_pos hD0)) (hC' i hi)
  have c0 : 0 < c := by obtain ⟨R, w, _⟩ := hf; have := w.c0; rw [Nat.sub_self, Nat.pow_zero, Nat.mul_one] at this; exact this
  unfold m_digits
  rw [pure_to]
  unfold b_digits
  simp [startL]
  obtain ⟨I, hI⟩ : ∃ I : Nat → NW.Loc → Sto → Prop, ∀ k l st, I k l st ↔ ∃ (F : Pol) (i : Nat) (cs : List Pol) (a : Option U), st = ⟨none, [.lst (cs.map polyD)]⟩ ∧ l = [some (.d (polyD f)), some (.d (polyD (g.sc L))), some (.ref 0), some (.d (polyD (F.sc ((1 / L) ^ i)))), a] ∧ i = cs.length ∧ (F.ts ≠ [] → n - i * s < k ∧ i * s ≤ n ∧ RS D c C (2 ^ i * E) (n - i * s) (n - i * s) F) ∧ (∀ x, f.ev x = evD cs ((g.sc L).ev x) x + ((g.sc L).ev x) ^ i * (F.sc ((1 / L) ^ i)).ev x) ∧ (∀ c, c ∈ cs → PBt (N + κ) s c) ∧ (F.ts = [] → cs = [] ∨ ∃ ds c, cs = ds ++ [c] ∧ c.ts ≠ []) ∧ cs.length ≤ 200 ∧ (∀ j, j ≤ i → ∃ F' : Pol, PBt (N + κ) (n + 1) F' ∧ ∀ x, F'.ev x = evD (cs.drop j) ((g.sc L).ev x) x + ((g.sc L).ev x) ^ (i - j) * (F.sc ((1 / L) ^ i)).ev x) ∧ ∀ (j : Nat) (q : Pol), cs[j]? = some q → ∀ k, ∃ T : Int, q.co k = (T : Rat) / cD c D n * (1 / L) ^ j ∧ T.natAbs < 2 ^ N := ⟨_, fun _ _ _ => Iff.rfl⟩
  have fsz0 : PBt (N + κ) (n + 1) f := (hf.sz (Nat.le_refl _) hDE hb (by have := hC 0 (by omega); simpa using this)).mono (by omega) (Nat.le_refl _)
  have e0 : f.sc ((1 / L) ^ 0) = f := Pol.ext_ev fun x => by rw [ev_sc]; simp
  refine while_to (I := I) ?_ (n + 1) _ _ ((hI _ _ _).mpr ⟨f, 0, [], none, rfl, by rw [e0], rfl, fun _ => ⟨by omega, by omega, by simpa using hf⟩, fun x => by rw [e0, evD]; simp; grind, by simp, fun _ => .inl rfl, by simp, fun j hj => ⟨f, fsz0, fun x => by rw [e0, show j = 0 by omega]; simp [evD]; grind⟩, by simp⟩)
  clear e0
  intro k l st hi
  obtain ⟨F, i, cs, a, rfl, rfl, hic, hF, hev, hcs, hlast, hlen2, hsuf, hden⟩ := (hI _ _ _).mp hi
  have L0 : (1 / L) ≠ 0 := by grind
  have Lp : ∀ i : Nat, (1 / L) ^ i ≠ 0 := fun i => by
    induction i with
    | zero => simp
    | succ i ih => rw [Rat.pow_succ]; grind
  have lF : (F.sc ((1 / L) ^ i)).ts.length = F.ts.length := sc_len (Lp i)
  simp
  refine degree_to ?_
  by_cases hz : F.ts = []
  · have c1 : ¬ (1 : Int) ≤ (F.sc ((1 / L) ^ i)).ts.length := by rw [lF, hz]; simp
    have c2 : ¬ (0 : Int) ≤ (F.sc ((1 / L) ^ i)).ts.length - 1 := by omega
    simp [c1, c2]
    refine ⟨cs, rfl, ⟨fun x => ?_, fun c hc => ?_, hlast hz⟩, hcs, fun j => ?_, hden⟩
    · rw [hev x, ev_sc (p := F), zero_of hz, ev_zero]; grind
    · have := (hcs c hc).1
      omega
    · by_cases hj : j ≤ i
      · obtain ⟨F', b, e⟩ := hsuf j hj
        have : hzp (g.sc L) (cs.drop j) = F' := Pol.ext_ev fun x => by rw [ev_hzp, e x, ev_sc (p := F), zero_of hz, ev_zero]; grind
        rw [this]; exact b
      · rw [List.drop_of_length_le (by omega), hzp]
        exact PBt.zero.mono (by omega) (by omega)
  · obtain ⟨hk, his, hrs⟩ := hF hz
    have hpos : 0 < F.ts.length := List.length_pos_iff.mpr hz
    have c1 : (1 : Int) ≤ (F.sc ((1 / L) ^ i)).ts.length := by rw [lF]; omega
    have c2 : (0 : Int) ≤ (F.sc ((1 / L) ^ i)).ts.length - 1 := by omega
    have hE : D ≤ 2 ^ i * E := Nat.le_trans hDE (Nat.le_mul_of_pos_left _ (Nat.two_pow_pos i))
    have bi : c * D ^ (n - i * s) < 2 ^ N := Nat.lt_of_le_of_lt (Nat.mul_le_mul_left _ (Nat.pow_le_pow_right hD0 (by omega))) hb
    have iN : i ≤ n := Nat.le_trans (Nat.le_mul_of_pos_right _ hs) his
    simp [c1, c2]
    by_cases hsm : F.ts.length ≤ s
    · have fsz := ((hrs.sz (Nat.le_refl _) hE bi (hC i his)).sc (h2 i (by omega))).tight
      refine parted_small (by rw [lF, hlen]; omega) ?_
      simp
      refine ⟨by omega, 0, by omega, (hI _ _ _).mpr ⟨Pol.zero, i + 1, cs ++ [F.sc ((1 / L) ^ i)], some (U.d (polyD (F.sc ((1 / L) ^ i)))), by simp, ?_, by simp [hic], fun h => absurd rfl h, fun x => ?_, fun c hc => ?_, fun _ => .inr ⟨cs, _, rfl, fun e => ?_⟩, by simp; omega, fun j hj => ?_, fun j q hq => ?_⟩⟩
      · have : Pol.zero.sc ((1 / L) ^ (i + 1)) = Pol.zero := Pol.ext_co fun j => by rw [co_sc, co_zero]; grind
        rw [this]
      · rw [hev x, evD_snoc, ev_sc (p := Pol.zero), ev_zero, ← hic]; grind
      · rcases List.mem_append.mp hc with hc | hc
        · exact hcs c hc
        · have : c = F.sc ((1 / L) ^ i) := by simpa using hc
          rw [this]
          exact fsz.mono (Nat.le_refl _) (by rw [lF]; exact hsm)
      · rw [e] at lF
        simp at lF; omega
      · have ez : (Pol.zero.sc ((1 / L) ^ (i + 1))) = Pol.zero := Pol.ext_co fun j => by rw [co_sc, co_zero]; grind
        by_cases hj' : j ≤ i
        · obtain ⟨F', b, e⟩ := hsuf j hj'
          refine ⟨F', b, fun x => ?_⟩
          rw [e x, ez, ev_zero, List.drop_append_of_le_length (by omega), evD_snoc, List.length_drop, ← hic]; grind
        · refine ⟨Pol.zero, PBt.zero.mono (by omega) (by omega), fun x => ?_⟩
          rw [ez, ev_zero, List.drop_of_length_le (by simp; omega), evD]; grind
      · by_cases hj : j < cs.length
        · rw [List.getElem?_append_left hj] at hq
          exact hden j q hq
        · have hj2 : j = i := by
            have := (List.getElem?_eq_some_iff.mp hq).1
            simp at this; omega
          subst hj2
          rw [List.getElem?_append_right (by omega), ← hic] at hq
          simp at hq
          subst hq
          intro k
          obtain ⟨T, hT, hT2⟩ := hrs.den (Nat.le_refl _) (M := n) (B := 2 ^ N) (by omega) hE (by rw [show n - (n - j * s) = j * s by omega]; exact hC' j his) k
          exact ⟨T, by rw [co_sc, hT], hT2⟩
    · have hns : s ≤ n - i * s := by
        obtain ⟨R, w, _⟩ := hrs
        have := w.plen
        omega
      have e3 : (1 / L) ^ i / L = (1 / L) ^ (i + 1) := by rw [Rat.pow_succ]; grind
      refine (parted_to (κ := κ) (η := η) (N := N) (μ := (1 / L) ^ i) hrs hg h1 (hG.mono (Nat.le_refl _) (Nat.le_mul_of_pos_left _ (Nat.two_pow_pos i))) hE hL (Lp i) (h2 i (by omega)) (by rw [e3]; exact h2 (i + 1) (by rw [Nat.add_mul, Nat.one_mul]; omega)) h4 bi (hC i his) hN hs hns (by omega) hsz).mono ?_
      rintro d ⟨q, r, rfl, hqr, hq, rl, rsz, rden⟩
      rw [e3]
      simp
      refine ⟨by omega, n - i * s, hk, (hI _ _ _).mpr ⟨q, i + 1, cs ++ [r.sc ((1 / L) ^ i)], _, by simp, rfl, by simp [hic], fun _ => ⟨by rw [Nat.add_mul, Nat.one_mul]; omega, by rw [Nat.add_mul, Nat.one_mul]; omega, ?_⟩, fun x => ?_, fun c hc => ?_, fun hq0 => .inr ⟨cs, _, rfl, fun e => ?_⟩, by simp; omega, fun j hj => ?_, fun j q' hq' => ?_⟩⟩
      · have e4 : n - (i + 1) * s = n - i * s - s := by rw [Nat.add_mul, Nat.one_mul]; omega
        rw [e4, Nat.pow_succ, Nat.mul_comm (2 ^ i) 2, Nat.mul_assoc]; exact hq
      · rw [hev x, evD_snoc, ← hic, ev_sc, ev_sc, ev_sc, ev_sc, hqr x, Rat.pow_succ, Rat.pow_succ]
        generalize (1 / L) ^ i = u
        generalize (g.ev x * L) ^ i = v
        grind
      · rcases List.mem_append.mp hc with hc | hc
        · exact hcs c hc
        · have : c = r.sc ((1 / L) ^ i) := by simpa using hc
          rw [this]; exact rsz
      · have r0 : r.ts = [] := by
          have := sc_len (p := r) (Lp i)
          rw [e] at this
          exact List.length_eq_zero_iff.mp (by simpa using this.symm)
        have : F = Pol.zero := Pol.ext_ev fun x => by rw [hqr x, zero_of hq0, zero_of r0, ev_zero]; grind
        rw [this] at hz
        exact hz rfl
      · by_cases hj' : j ≤ i
        · obtain ⟨F', b, e⟩ := hsuf j hj'
          refine ⟨F', b, fun x => ?_⟩
          rw [e x, List.drop_append_of_le_length (by omega), evD_snoc, List.length_drop, ← hic, ev_sc, ev_sc, ev_sc, hqr x, show i + 1 - j = (i - j) + 1 by omega, Rat.pow_succ, Rat.pow_succ]
          generalize (1 / L) ^ i = u
          generalize ((g.sc L).ev x) ^ (i - j) = v
          rw [ev_sc]
          grind
        · have hi1 : (i + 1) * s ≤ n := by rw [Nat.add_mul, Nat.one_mul]; omega
          have e4 : n - (i + 1) * s = n - i * s - s := by rw [Nat.add_mul, Nat.one_mul]; omega
          have hc2 := hC (i + 1) hi1
          rw [Nat.pow_succ, Nat.mul_comm (2 ^ i) 2, Nat.mul_assoc 2, e4] at hc2
          have qsz := (hq.sz (Nat.le_refl _) (Nat.le_trans hE (by omega)) (Nat.lt_of_le_of_lt (Nat.mul_le_mul_left _ (Nat.pow_le_pow_right hD0 (by omega))) hb) hc2).sc (h2 (i + 1) (by omega))
          refine ⟨_, qsz.mono (Nat.le_refl _) (by omega), fun x => ?_⟩
          rw [List.drop_of_length_le (by simp; omega), evD, show i + 1 - j = 0 by omega]
          simp; grind
      · by_cases hj : j < cs.length
        · rw [List.getElem?_append_left hj] at hq'
          exact hden j q' hq'
        · have hj2 : j = i := by
            have := (List.getElem?_eq_some_iff.mp hq').1
            simp at this; omega
          subst hj2
          rw [List.getElem?_append_right (by omega), ← hic] at hq'
          simp at hq'
          subst hq'
          intro k
          obtain ⟨T, hT, hT2⟩ := rden n (2 ^ N) (by omega) (by rw [show n - (n - j * s) = j * s by omega]; exact hC' j his) k
          exact ⟨T, by rw [co_sc, hT], hT2⟩
end NW
namespace NW
open PySem PySem.Spec PyProof.Rows L2
theorem len_add_lt {p q : Pol} (h : q.ts.length < p.ts.length) : (p + q).ts.length = p.ts.length := by
  refine len_of (fun k hk => by rw [co_add, co_zero_of hk, co_zero_of (by omega)]; grind) fun h0 => ?_
  rw [co_add, co_zero_of (p := q) (by omega)]
  have := co_lead (p := p) fun e => h0 (by rw [e]; rfl)
  grind
theorem hzp_len {h c : Pol} {s : Nat} (hl : h.ts.length = s + 1) (hs : 0 < s) (hc : c.ts ≠ []) : ∀ {ds : List Pol}, (∀ d, d ∈ ds → d.ts.length < h.ts.length) → (hzp h (ds ++ [c])).ts.length = ds.length * s + c.ts.length
  | [], _ => by
    have : hzp h ([] ++ [c]) = c := Pol.ext_ev fun x => by rw [ev_hzp]; simp [evD]; grind
    rw [this]; simp
  | d :: ds, lt => by
    have ih := hzp_len hl hs hc (ds := ds) fun e he => lt e (List.mem_cons_of_mem _ he)
    have hp := List.length_pos_iff.mpr hc
    have e : hzp h (d :: ds ++ [c]) = hzp h (ds ++ [c]) * h + d := rfl
    have l := len_mul (p := hzp h (ds ++ [c])) (q := h) (fun e => by rw [e] at ih; simp at ih; omega) (fun e => by rw [e] at hl; simp at hl)
    have ld := lt d (by simp)
    rw [e, len_add_lt (by omega), l, ih, hl, List.length_cons, Nat.add_mul, Nat.one_mul]
    omega
theorem Dg.ne {h f : Pol} {cs : List Pol} (d : Dg h f cs) (hf : f.ts ≠ []) : ∃ ds c, cs = ds ++ [c] ∧ c.ts ≠ [] := by
  rcases d.last with e | e
  · exfalso
    have : f = Pol.zero := Pol.ext_ev fun x => by rw [d.ev x, e, ev_zero]; rfl
    rw [this] at hf; exact hf rfl
  · exact e
theorem Dg.length {h f : Pol} {cs : List Pol} {s : Nat} (d : Dg h f cs) (hl : h.ts.length = s + 1) (hs : 0 < s) (hf : f.ts ≠ []) : ∃ ds c, cs = ds ++ [c] ∧ c.ts ≠ [] ∧ f.ts.length = ds.length * s + c.ts.length ∧ c.ts.length ≤ s := by
  obtain ⟨ds, c, e, hc⟩ := d.ne hf
  refine ⟨ds, c, e, hc, ?_, by have := d.lt c (by rw [e]; simp); omega⟩
  rw [← hzp_len hl hs hc (ds := ds) fun b hb => d.lt b (by rw [e]; simp [hb]), ← e, d.eq]
theorem RS.of {f : Pol} {n β D E : Nat} (hf : PBt β (n + 1) f) (hD : 0 < D) (hDE : D ≤ E) : RS D f.b (2 ^ β) E n n f := by
  refine ⟨(List.range (n + 1)).map fun k => f.ts.getD (n - k) 0 * ((D ^ k : Nat) : Int), ⟨by simp, hD, by simpa using f.hb, fun k hk => ?_, fun j hj => co_zero_of (by have := hf.1; omega)⟩, fun k => ?_⟩
  · rw [List.getD_eq_getElem?_getD, List.getElem?_map, List.getElem?_range (by omega)]
    simp only [Option.map_some, Option.getD_some, Nat.sub_self, Nat.pow_zero, Nat.mul_one]
    have n1 := nat_ne (n := D ^ k) (Nat.pow_pos hD)
    have n2 := nat_ne f.hb
    unfold Pol.co
    rw [divInt_div, Int.natCast_mul, Rat.intCast_mul, Rat.intCast_mul]
    grind
  · rw [Nat.sub_self, Nat.pow_zero, Nat.mul_one, List.getD_eq_getElem?_getD, List.getElem?_map]
    by_cases hk : k < n + 1
    · rw [List.getElem?_range hk]
      simp only [Option.map_some, Option.getD_some]
      rw [Int.natAbs_mul, Int.natAbs_natCast]
      exact Nat.mul_le_mul (Nat.le_of_lt (hf.get _)) (Nat.pow_le_pow_left hDE k)
    · rw [List.getElem?_eq_none (by simp; omega)]; simp
theorem two_pow_mul {a b : Nat} : 2 ^ a * 2 ^ b = 2 ^ (a + b) := (Nat.pow_add 2 a b).symm
end NW
namespace NW
open PySem PySem.Spec PyProof.Rows L2
theorem mul12s {β : Nat} : ∀ s, s ≤ 16 → 0 < s → ∀ i, i ≤ 16 → ∀ n, n ≤ 16 → i * s ≤ n → (β + 144 + i) * (n - i * s) + (β + 143) * (i * s) ≤ 16 * β + 2560 := fun s _ _ i hi n hn h => by
  have a : (β + 144 + i) * (n - i * s) = (β + 143) * (n - i * s) + (1 + i) * (n - i * s) := by rw [← Nat.add_mul]; congr 1; omega
  have b : (β + 143) * (n - i * s) + (β + 143) * (i * s) = (β + 143) * n := by rw [← Nat.mul_add]; congr 1; omega
  have c : (1 + i) * (n - i * s) ≤ 17 * 16 := Nat.mul_le_mul (by omega) (by omega)
  have d : (β + 143) * n ≤ (β + 143) * 16 := Nat.mul_le_mul_left _ hn
  omega
theorem sc_one {p : Pol} : p.sc 1 = p := Pol.ext_ev fun x => by rw [ev_sc]; grind
theorem one_pow {i : Nat} : (1 / (1 : Rat)) ^ i = 1 := by
  have e : (1 / (1 : Rat)) = 1 := by grind
  rw [e]
  induction i with
  | zero => simp
  | succ i ih => rw [Rat.pow_succ, ih]; grind
theorem digits_cand {β : Nat} {f h : Pol} {m s n : Nat} (hf : PBt β (n + 1) f) (hl : f.ts.length = n + 1) (hn : n = m * s) (hm : 0 < m) (hs : 0 < s) (hβ : β ≤ 15000) (h12 : n ≤ 16) (hc : CS f m s n (s - 1) (2 ^ β) h) :
    (m_digits [polyD f, polyD h]).To fun d => ∃ cs : List Pol, d = .tuple (cs.map polyD) ∧ Dg h f cs ∧ (∀ c, c ∈ cs → PBt (17 * β + 2601) s c) ∧ (∀ j, PBt (17 * β + 2601) 17 (hzp h (cs.drop j))) ∧ ∃ M : Nat, 0 < M ∧ M < 2 ^ (17 * β + 2600) ∧ ∀ c, c ∈ cs → ∀ k, ∃ T : Int, c.co k = (T : Rat) / ((M : Int) : Rat) ∧ T.natAbs < 2 ^ (17 * β + 2600) := by
  have hB : ∀ j, (f.ts.getD j 0).natAbs ≤ 2 ^ β := fun j => Nat.le_of_lt (hf.get j)
  have hEs0 : ∀ j, j ≤ 16 → (β + 143) * j ≤ 16 * β + 2288 := fun j hj => Nat.le_trans (Nat.mul_le_mul_left _ hj) (by omega)
  have hsn : s ≤ n := by rw [hn]; exact Nat.le_mul_of_pos_left _ hm
  have hmn : m ≤ n := by rw [hn]; exact Nat.le_mul_of_pos_right _ hs
  have hEsn := hEs0 s (by omega)
  have hsz := hc.sz (by omega) (by omega) hB
  obtain ⟨H, w, dm, wb, z, eqs⟩ := hc
  have hE := CS.bits (β := β) (N := 0) (m := m) (k := s - 1) (by omega) (by omega)
  have hD : DD f m n ≤ 2 ^ (9 * (s - 1)) * (2 ^ β * (m * m)) := by
    unfold DD
    refine Nat.le_trans ?_ (Nat.le_mul_of_pos_left _ (Nat.two_pow_pos _))
    rw [Nat.mul_comm]
    exact Nat.mul_le_mul_right _ (hB n)
  have wb2 : WB 1 (2 ^ (β + 143)) H := wb.mono (Nat.le_refl _) hE
  have hD2 := Nat.le_trans hD hE
  have fr := RS.of hf w.D0 hD2
  have p1 : f.b * DD f m n ^ n < 2 ^ (17 * β + 2600) := by
    refine Nat.lt_of_lt_of_le (Nat.mul_lt_mul_of_lt_of_le hf.2.1 (Nat.pow_le_pow_left hD2 n) (Nat.pow_pos (Nat.two_pow_pos _))) ?_
    rw [← Nat.pow_mul, two_pow_mul]
    have hEn := hEs0 n h12
    exact pw_le (by omega)
  have key := digits_den (f := f) (g := h) (L := 1) (n := n) (N := 17 * β + 2600) (κ := 1) (η := (β + 143) * s + 1) fr w dm.1 wb2 hD2 (by decide) (fun i _ => by rw [one_pow]; exact FB.one (by omega)) (by rw [sc_one]; exact hsz) p1 (fun i hi => ?_) (by omega) hs (by omega) (by omega)
  · rw [sc_one] at key
    refine key.mono ?_
    rintro d ⟨cs, rfl, dg, a, b, c⟩
    refine ⟨cs, rfl, dg, fun c hc => (a c hc).mono (by omega) (Nat.le_refl _), fun j => (b j).mono (by omega) (by omega), f.b * DD f m n ^ n, Nat.mul_pos f.hb (Nat.pow_pos w.D0), p1, fun q hq k => ?_⟩
    obtain ⟨i, hi, e⟩ := List.getElem_of_mem hq
    obtain ⟨T, hT, hT2⟩ := c i q (by rw [← e]; exact List.getElem?_eq_getElem hi) k
    refine ⟨T, ?_, hT2⟩
    rw [hT, one_pow]
    unfold cD
    grind
  · have i12 : i ≤ 16 := by
      have : i * 1 ≤ i * s := Nat.mul_le_mul_left _ hs
      omega
    have a : 2 * (2 ^ i * 2 ^ (β + 143)) = 2 ^ (β + 144 + i) := by
      rw [two_pow_mul, ← Nat.pow_succ']; congr 1; omega
    have l2 := mul12s (β := β) s (by omega) hs i i12 n h12 hi
    have b : DD f m n ^ (i * s) ≤ (2 ^ (β + 143)) ^ (i * s) := Nat.pow_le_pow_left hD2 _
    refine Nat.lt_of_le_of_lt (Nat.mul_le_mul_left _ b) ?_
    rw [a, ← Nat.pow_mul, two_pow_mul, ← Nat.pow_mul, two_pow_mul]
    exact Nat.pow_lt_pow_right (by omega) (by omega)
theorem den_dvd {q : Rat} {T : Int} {M : Nat} (hM : 0 < M) (h : q = (T : Rat) / ((M : Int) : Rat)) : q.den ∣ M := by
  have e : q = Rat.divInt T M := by rw [divInt_div]; exact h
  rw [e, Rat.den_divInt, if_neg (by omega)]
  simp
  exact Nat.div_dvd_of_dvd (Int.gcd_dvd_natAbs_left (M : Int) T)
theorem lcms_dvd_of {M : Nat} : ∀ {qs : List Rat} {b : Nat}, b ∣ M → (∀ q, q ∈ qs → q.den ∣ M) → lcms b qs ∣ M
  | [], b, h, _ => h
  | q :: qs, b, h, hq => by
    rw [lcms]
    exact lcms_dvd_of (Nat.lcm_dvd h (hq q (by simp))) fun r hr => hq r (List.mem_cons_of_mem _ hr)
def ApD (h : Pol) (cs : List Pol) (d : PyData) : Prop :=
  ((∀ c, c ∈ cs → c.ts.length ≤ 1) ∧ d = .tuple [.str "made", polyD (ofC (cs.map (·.co 0))), polyD h]) ∨
  ∃ (i : Nat) (c : Pol), cs[i]? = some c ∧ 2 ≤ c.ts.length ∧ (∀ (j : Nat) (e : Pol), j < i → cs[j]? = some e → e.ts.length ≤ 1) ∧ d = .tuple [.str "barred", polyD h, .int (i : Nat)]
theorem enum_G {α : Type} {φ : α → PyData} {ts : List α} {k : Nat} {x : PyData} (h : (enumD (ts.map φ))[k]? = some x) : ∃ t, ts[k]? = some t ∧ x = .tuple [.int (k : Nat), φ t] := by
  have e : enumD (ts.map φ) = ts.zipIdx.map fun p => .tuple [.int (p.2 : Nat), φ p.1] := by
    unfold enumD
    rw [List.zipIdx_map, List.map_map]
    rfl
  rw [e, List.getElem?_map, List.getElem?_zipIdx] at h
  cases e2 : ts[k]? with
  | none => rw [e2] at h; cases h
  | some t =>
    rw [e2] at h
    cases h
    exact ⟨t, rfl, by simp⟩
structure Ap (β : Nat) (f : Pol) (m s n : Nat) (h : Pol) (cs : List Pol) : Prop where
  cd : CS f m s n (s - 1) (2 ^ β) h
  dg : Dg h f cs
  sz : ∀ c, c ∈ cs → PBt (17 * β + 2601) s c
  suf : ∀ j, PBt (17 * β + 2601) 17 (hzp h (cs.drop j))
  den : ∃ M : Nat, 0 < M ∧ M < 2 ^ (17 * β + 2600) ∧ ∀ c, c ∈ cs → ∀ k, ∃ T : Int, c.co k = (T : Rat) / ((M : Int) : Rat) ∧ T.natAbs < 2 ^ (17 * β + 2600)
theorem apart_to {β : Nat} {f : Pol} {m s n : Nat} (hf : PBt β (n + 1) f) (hl : f.ts.length = n + 1) (hn : n = m * s) (hm : 0 < m) (hs : 0 < s) (hβ : β ≤ 15000) (h12 : n ≤ 16) :
    (m_apart [polyD f, .int s]).To fun d => ∃ h cs, Ap β f m s n h cs ∧ ApD h cs d := by
  unfold m_apart
  rw [pure_to]
  unfold b_apart
  simp [startL]
  refine (candidate_to hf hl hn hm hs hβ h12).mono ?_
  rintro _ ⟨h, rfl, hc⟩
  refine (digits_cand hf hl hn hm hs hβ h12 hc).mono ?_
  rintro _ ⟨cs, rfl, dg, sz, suf, hM⟩
  have ap : Ap β f m s n h cs := ⟨hc, dg, sz, suf, hM⟩
  have fin : ∀ d, ApD h cs d → ∃ h cs, Ap β f m s n h cs ∧ ApD h cs d := fun d hd => ⟨h, cs, ap, hd⟩
  obtain ⟨M, M0, M1, M2⟩ := hM
  have hfn : f.ts ≠ [] := fun e => by rw [e] at hl; simp at hl
  have hh : h.ts.length = s + 1 := (hc.same hn hm (by
    have := tr_get f.ht hfn
    rwa [hl] at this)).2.2.2
  obtain ⟨ds, c0, hcs, hc0, hfl, hcl⟩ := dg.length hh hs hfn
  have hlen : cs.length ≤ 100 := by
    have : cs.length = ds.length + 1 := by rw [hcs]; simp
    have : ds.length * 1 ≤ ds.length * s := Nat.mul_le_mul_left _ hs
    omega
  simp
  obtain ⟨I, hI⟩ : ∃ I : Nat → NW.Loc → Sto → Prop, ∀ k l st, I k l st ↔ st = ⟨none, []⟩ ∧ (∃ a b, l = [some (U.d (polyD f)), some (U.d (PyData.int s)), some (U.d (polyD h)), some (U.d (PyData.tuple (cs.map polyD))), a, b]) ∧ ∀ (j : Nat) (e : Pol), j < k → cs[j]? = some e → e.ts.length ≤ 1 := ⟨_, fun _ _ _ => Iff.rfl⟩
  refine for_ix I (fun k l st h => by obtain ⟨rfl, _⟩ := (hI _ _ _).mp h; exact chk_nil) ((hI _ _ _).mpr ⟨rfl, ⟨_, _, rfl⟩, by omega⟩) ?_ ?_
  · intro k x l st hx hh'
    obtain ⟨rfl, ⟨a, b, rfl⟩, hk⟩ := (hI _ _ _).mp hh'
    obtain ⟨c, hck, rfl⟩ := enum_G hx
    simp
    refine degree_to ?_
    by_cases hd : 2 ≤ c.ts.length
    · have e1 : (1 : Int) ≤ (c.ts.length : Int) - 1 := by omega
      simp [e1]
      exact fin _ (.inr ⟨k, c, hck, hd, hk, rfl⟩)
    · have e1 : ¬ (1 : Int) ≤ (c.ts.length : Int) - 1 := by omega
      simp [e1]
      refine (hI _ _ _).mpr ⟨rfl, ⟨_, _, rfl⟩, fun j e hj he => ?_⟩
      by_cases hjk : j = k
      · subst hjk
        rw [hck] at he; cases he; omega
      · exact hk j e (by omega) he
  · intro l st hh'
    obtain ⟨rfl, ⟨a, b, rfl⟩, hk⟩ := (hI _ _ _).mp hh'
    have el : (enumD (cs.map polyD)).length = cs.length := by simp [enumD]
    rw [el] at hk
    have all1 : ∀ c, c ∈ cs → c.ts.length ≤ 1 := fun c hc => by
      obtain ⟨i, hi, e⟩ := List.getElem_of_mem hc
      exact hk i c hi (by rw [← e]; exact List.getElem?_eq_getElem hi)
    simp
    refine ⟨by omega, ?_⟩
    refine lc_mapA (g := fun p : Pol => fracD (p.co 0)) chk_nil ?_ ?_
    · intro p hp
      simp [wipeL]
      exact fraction_at_to (b9 (sz p hp) (by omega)) rfl
    · have hL : lcms 1 (cs.map (·.co 0)) ∣ M := lcms_dvd_of (Nat.one_dvd _) fun q hq => by
        obtain ⟨p, hp, rfl⟩ := List.mem_map.mp hq
        obtain ⟨T, hT, _⟩ := M2 p hp 0
        exact den_dvd M0 hT
      refine polyx (n := 17 * β + 2601) (L := 17 * β + 2600) (.inl (by rw [List.map_map]; rfl)) (fun q hq => ?_) (Nat.lt_of_le_of_lt (Nat.le_of_dvd M0 hL) M1) (by omega) (by omega) (by omega) (by omega) (by simp; omega) ?_
      · obtain ⟨p, hp, rfl⟩ := List.mem_map.mp hq
        exact co_FB (sz p hp)
      · try simp
        exact fin _ (.inl ⟨all1, rfl⟩)
end NW
namespace NW
open PySem PySem.Spec PyProof.Rows L2
theorem ev_short {c : Pol} (h : c.ts.length ≤ 1) (x : Rat) : c.ev x = c.co 0 := by
  rw [ev_co h]; simp [evC]; grind
theorem evD_short {y x : Rat} : ∀ {cs : List Pol}, (∀ c, c ∈ cs → c.ts.length ≤ 1) → evD cs y x = evQ (cs.map (·.co 0)) y
  | [], _ => rfl
  | c :: cs, h => by
    rw [evD, List.map_cons, evQ, evD_short fun d hd => h d (List.mem_cons_of_mem _ hd), ev_short (h c (by simp))]
theorem Dg.made {h f : Pol} {cs : List Pol} (d : Dg h f cs) (hc : ∀ c, c ∈ cs → c.ts.length ≤ 1) : (ofC (cs.map (·.co 0))).comp h = f := Pol.ext_ev fun x => by
  rw [ev_comp, ev_ofC, d.ev x, evD_short hc]
open Classical in
theorem Ap.gsz {β : Nat} {f h : Pol} {m s n : Nat} {cs : List Pol} (a : Ap β f m s n h cs) : PBt (17 * β + 2600) cs.length (ofC (cs.map (·.co 0))) := by
  obtain ⟨M, M0, M1, M2⟩ := a.den
  refine PBt.rep (D := M) (N := fun k => if h : ∃ T : Int, (ofC (cs.map (·.co 0))).co k = Rat.divInt T M ∧ T.natAbs < 2 ^ (17 * β + 2600) then h.choose else 0) M0 (fun k => ?_) M1 (fun k => ?_) fun k hk => co_zero_of (Nat.le_trans (by simpa using ofC_len (qs := cs.map (·.co 0))) hk)
  all_goals
    have h : ∃ T : Int, (ofC (cs.map (·.co 0))).co k = Rat.divInt T M ∧ T.natAbs < 2 ^ (17 * β + 2600) := by
      rw [co_ofC, List.getD_eq_getElem?_getD, List.getElem?_map]
      cases e : cs[k]? with
      | none => exact ⟨0, by simp, by simp [Nat.two_pow_pos]⟩
      | some c =>
        obtain ⟨T, hT, hT2⟩ := M2 c (List.mem_of_getElem? e) 0
        exact ⟨T, by rw [divInt_div]; simpa using hT, hT2⟩
  · rw [dif_pos h]; exact h.choose_spec.1
  · rw [dif_pos h]; exact h.choose_spec.2
theorem CS.len {f h : Pol} {m s n k B : Nat} (hc : CS f m s n k B h) : h.ts.length = s + 1 := by
  obtain ⟨H, w, dm, _⟩ := hc
  have := w.co 0 (by omega)
  rw [dm.1] at this
  simp at this
  exact len_of (fun j hj => w.out j (by omega)) fun _ => by show h.co s ≠ 0; rw [this]; grind
theorem CS.lead {f h : Pol} {m s n k B : Nat} (hc : CS f m s n k B h) : h.co s = 1 := by
  obtain ⟨H, w, dm, _⟩ := hc
  have := w.co 0 (by omega)
  rw [dm.1] at this
  simp at this
  rw [this]; grind
theorem Ap.count {β : Nat} {f h : Pol} {m s n : Nat} {cs : List Pol} (a : Ap β f m s n h cs) (hl : f.ts.length = n + 1) (hn : n = m * s) (hs : 0 < s) : cs.length = m + 1 := by
  obtain ⟨ds, c, e, hc, hf, hcl⟩ := a.dg.length a.cd.len hs (fun e => by rw [e] at hl; simp at hl)
  have hp := List.length_pos_iff.mpr hc
  have lt : ds.length * s < (m + 1) * s := by rw [Nat.add_mul, Nat.one_mul]; omega
  have lt2 : m * s < (ds.length + 1) * s := by rw [Nat.add_mul, Nat.one_mul]; omega
  have a1 := Nat.lt_of_mul_lt_mul_right lt
  have a2 := Nat.lt_of_mul_lt_mul_right lt2
  rw [e]; simp; omega
@[simp] theorem sh_made : SeqAt.shaped (.str ("made" : Str)) = true := by decide +kernel
@[simp] theorem sh_barred : SeqAt.shaped (.str ("barred" : Str)) = true := by decide +kernel
@[simp] theorem eq_mm : PyData.eqv (.str ("made" : Str)) (.str ("made" : Str)) = true := by decide +kernel
@[simp] theorem eq_bb : PyData.eqv (.str ("barred" : Str)) (.str ("barred" : Str)) = true := by decide +kernel
@[simp] theorem eq_mb : PyData.eqv (.str ("made" : Str)) (.str ("barred" : Str)) = false := by decide +kernel
@[simp] theorem eq_bm : PyData.eqv (.str ("barred" : Str)) (.str ("made" : Str)) = false := by decide +kernel
end NW
namespace NW
open PySem PySem.Spec PyProof.Rows L2
structure Neat (s : Nat) (h : Pol) : Prop where
  len : h.ts.length = s + 1
  lead : h.co s = 1
  zero : h.co 0 = 0
theorem W.monic {h : Pol} {s D : Nat} (hl : h.ts.length = s + 1) (hm : h.co s = 1) (hD : 0 < D) (hd : h.b ∣ D) : ∃ H, W s D 1 H h ∧ H.getD 0 0 = 1 := by
  obtain ⟨e, rfl⟩ := hd
  have hb := h.hb
  have he : 0 < e := Nat.pos_of_mul_pos_left (by rwa [Nat.mul_comm] at hD) |> fun _ => by
    rcases Nat.eq_zero_or_pos e with z | z
    · rw [z] at hD; simp at hD
    · exact z
  refine ⟨(List.range (s + 1)).map fun k => if k = 0 then 1 else h.ts.getD (s - k) 0 * (e : Int) * (((h.b * e) ^ (k - 1) : Nat) : Int), ⟨by simp, hD, by omega, fun k hk => ?_, fun j hj => co_zero_of (by omega)⟩, by rw [List.getD_eq_getElem?_getD, List.getElem?_map, List.getElem?_range (by omega)]; rfl⟩
  rw [List.getD_eq_getElem?_getD, List.getElem?_map, List.getElem?_range (by omega)]
  simp only [Option.map_some, Option.getD_some, Nat.one_mul]
  cases k with
  | zero => simp [hm]; grind
  | succ k =>
    rw [if_neg (by omega), Nat.add_sub_cancel, Nat.pow_succ]
    unfold Pol.co
    rw [divInt_div]
    have n1 := h.bne
    have n2 := nat_ne he
    have n3 := nat_ne (n := (h.b * e) ^ k) (Nat.pow_pos hD)
    rw [Rat.intCast_mul, Rat.intCast_mul, Int.natCast_mul ((h.b * e) ^ k), Rat.intCast_mul, Int.natCast_mul h.b e, Rat.intCast_mul]
    generalize ((((h.b * e) ^ k : Nat) : Int) : Rat) = z at *
    grind
structure Cd (f : Pol) (m s : Nat) (h : Pol) : Prop where
  nt : Neat s h
  top : ∀ j, j < s → (h.pw m).co (m * s - j) * f.co (m * s) = f.co (m * s - j)
theorem Cd.uniq {f h h' : Pol} {m s : Nat} (a : Cd f m s h) (b : Cd f m s h') (hf : f.co (m * s) ≠ 0) (hm : 0 < m) : h = h' := by
  have hD : 0 < h.b * h'.b := Nat.mul_pos h.hb h'.hb
  obtain ⟨H, w, h1⟩ := W.monic a.nt.len a.nt.lead hD (Nat.dvd_mul_right _ _)
  obtain ⟨H', w', h1'⟩ := W.monic b.nt.len b.nt.lead hD (Nat.dvd_mul_left _ _)
  have key : ∀ k, k ≤ s → H.getD k 0 = H'.getD k 0 := by
    intro k
    induction k using Nat.strongRecOn with
    | _ k ih =>
      intro hk
      cases k with
      | zero => rw [h1, h1']
      | succ k =>
        have c1 := w.co (k + 1) hk
        have c2 := w'.co (k + 1) hk
        rw [Nat.one_mul] at c1 c2
        have nD := nat_ne (n := (h.b * h'.b) ^ (k + 1)) (Nat.pow_pos hD)
        by_cases hs : k + 1 = s
        · rw [show s - (k + 1) = 0 by omega, a.nt.zero] at c1
          rw [show s - (k + 1) = 0 by omega, b.nt.zero] at c2
          have : ((H.getD (k + 1) 0 : Int) : Rat) = ((H'.getD (k + 1) 0 : Int) : Rat) := by grind
          exact Rat.intCast_inj.mp this
        · have hle : k + 1 ≤ m * s := Nat.le_trans hk (Nat.le_mul_of_pos_left _ hm)
          have ag : Ag (k + 1) (H.getD (k + 1) 0 - H'.getD (k + 1) 0) H H' := ⟨fun j hj => ih j hj (by omega), by omega⟩
          obtain ⟨⟨_, p⟩, _⟩ := ag.pw h1' (i := m)
          have d1 := (w.pw (i := m)).co (k + 1) hle
          have d2 := (w'.pw (i := m)).co (k + 1) hle
          rw [Nat.one_mul] at d1 d2
          have t1 := a.top (k + 1) (by omega)
          have t2 := b.top (k + 1) (by omega)
          have e1 : (h.pw m).co (m * s - (k + 1)) = (h'.pw m).co (m * s - (k + 1)) := by grind
          rw [d1, d2] at e1
          have e2 : (((pwZ H m).getD (k + 1) 0 : Int) : Rat) = (((pwZ H' m).getD (k + 1) 0 : Int) : Rat) := by grind
          have e3 := Rat.intCast_inj.mp e2
          have e4 : (m : Int) * (H.getD (k + 1) 0 - H'.getD (k + 1) 0) = 0 := by omega
          rcases Int.mul_eq_zero.mp e4 with z | z
          · omega
          · omega
  refine Pol.ext_co fun j => ?_
  by_cases hj : j ≤ s
  · have c1 := w.co (s - j) (by omega)
    have c2 := w'.co (s - j) (by omega)
    rw [show s - (s - j) = j by omega] at c1 c2
    rw [c1, c2, key _ (by omega)]
  · rw [w.out j (by omega), w'.out j (by omega)]
theorem CS.cd {f h : Pol} {m s n B : Nat} (hc : CS f m s n (s - 1) B h) (hn : n = m * s) (hm : 0 < m) (hs : 0 < s) (ht : f.ts.getD n 0 ≠ 0) : Cd f m s h := by
  obtain ⟨a, b, c, d⟩ := hc.same hn hm ht
  subst hn
  exact ⟨⟨d, b, c (by omega)⟩, fun j hj => a j (by omega) (by
    have : s ≤ m * s := Nat.le_mul_of_pos_left _ hm
    omega)⟩
theorem pw_lead {h : Pol} {s : Nat} (hn : Neat s h) : ∀ {m : Nat}, (h.pw m).ts.length = m * s + 1 ∧ (h.pw m).co (m * s) = 1
  | 0 => ⟨by simp [Pol.pw, Pol.one], by simp [Pol.pw, Pol.one, Pol.co, divInt_div]; grind⟩
  | m + 1 => by
    obtain ⟨a, b⟩ := pw_lead hn (m := m)
    have l := len_mul (p := h.pw m) (q := h) (fun e => by rw [e] at a; simp at a) (fun e => by have := hn.len; rw [e] at this; simp at this)
    rw [a, hn.len] at l
    refine ⟨by rw [Pol.pw, l, Nat.add_mul, Nat.one_mul]; omega, ?_⟩
    have t := co_mul_top (p := h.pw m) (q := h)
    unfold Pol.deg at t
    rw [a, hn.len, Nat.add_sub_cancel, Nat.add_sub_cancel, b, hn.lead] at t
    rw [Pol.pw, Nat.add_mul, Nat.one_mul, t]; grind
theorem Cd.of_comp {g h : Pol} {m s : Nat} (hg : g.ts.length = m + 1) (hh : Neat s h) (hs : 0 < s) (hm : 0 < m) : Cd (g.comp h) m s h ∧ (g.comp h).co (m * s) = g.co m := by
  have hl : (g - mono (g.co m) m).ts.length ≤ m := len_le fun k hk => by
    rw [co_sub, co_mono]
    by_cases e : k = m
    · rw [if_pos e, e]; grind
    · rw [if_neg e, co_zero_of (by omega)]; grind
  have hl2 : ((g - mono (g.co m) m).comp h).ts.length ≤ (m - 1) * s + 1 := by
    refine Nat.le_trans comp_len ?_
    rw [hh.len, Nat.add_sub_cancel]
    have := Nat.mul_le_mul_right s (show (g - mono (g.co m) m).ts.length - 1 ≤ m - 1 by omega)
    omega
  have e : g.comp h = (h.pw m).sc (g.co m) + (g - mono (g.co m) m).comp h := Pol.ext_ev fun x => by
    rw [ev_comp, ev_add, ev_sc, ev_comp, ev_sub, ev_mono, ev_pw]; grind
  have em : m * s = (m - 1) * s + s := by
    obtain ⟨j, rfl⟩ : ∃ j, m = j + 1 := ⟨m - 1, by omega⟩
    rw [Nat.add_sub_cancel, Nat.add_mul, Nat.one_mul]
  have cj : ∀ j, j < s → (g.comp h).co (m * s - j) = (h.pw m).co (m * s - j) * g.co m := fun j hj => by
    rw [e, co_add, co_sc, co_zero_of (p := (g - mono (g.co m) m).comp h) (by omega)]; grind
  have c0 : (g.comp h).co (m * s) = g.co m := by
    have := cj 0 hs
    rw [Nat.sub_zero, (pw_lead hh).2] at this
    rw [this]; grind
  exact ⟨⟨hh, fun j hj => by rw [c0, cj j hj]⟩, c0⟩
theorem evQ_con {x : Rat} : ∀ {qs : List Rat} {y : Rat}, evD (qs.map fun q => ofC [q]) y x = evQ qs y
  | [], _ => rfl
  | q :: qs, y => by rw [List.map_cons, evD, evQ, evQ_con, ev_con]
def Pol.cs (g : Pol) : List Rat := (List.range g.ts.length).map g.co
theorem ofC_cs {g : Pol} : ofC g.cs = g := Pol.ext_co fun k => by
  rw [co_ofC, Pol.cs, List.getD_eq_getElem?_getD, List.getElem?_map]
  by_cases h : k < g.ts.length
  · rw [List.getElem?_range h]; rfl
  · rw [List.getElem?_eq_none (by simp; omega), co_zero_of (by omega)]; rfl
theorem con_len {r : Rat} : (ofC [r]).ts.length ≤ 1 := by simpa using ofC_len (qs := [r])
theorem Dg.of_comp {g h : Pol} (hh : 2 ≤ h.ts.length) (hg : g.ts ≠ []) : Dg h (g.comp h) (g.cs.map fun q => ofC [q]) := by
  refine ⟨fun x => by rw [evQ_con, ev_comp]; conv => lhs; rw [← ofC_cs (g := g)]
                      rw [ev_ofC], fun c hc => ?_, .inr ?_⟩
  · obtain ⟨q, hq, rfl⟩ := List.mem_map.mp hc
    have := con_len (r := q)
    omega
  · have hp := List.length_pos_iff.mpr hg
    refine ⟨((List.range (g.ts.length - 1)).map g.co).map fun q => ofC [q], ofC [g.co (g.ts.length - 1)], ?_, fun e => ?_⟩
    · unfold Pol.cs
      obtain ⟨j, hj⟩ : ∃ j, g.ts.length = j + 1 := ⟨g.ts.length - 1, by omega⟩
      rw [hj, Nat.add_sub_cancel, List.range_succ]
      simp
    · have := zero_of e
      have z := congrArg (fun p => p.co 0) this
      simp only [co_con, co_zero] at z
      exact co_lead hg (by simpa using z)
theorem cs_map {g : Pol} : (g.cs.map fun q => ofC [q]).map (·.co 0) = g.cs := by
  rw [List.map_map]
  conv => rhs; rw [← List.map_id g.cs]
  refine List.map_congr_left fun q _ => ?_
  show (ofC [q]).co 0 = q
  rw [co_con]; simp
theorem Ap.cdd {β : Nat} {f h : Pol} {m s n : Nat} {cs : List Pol} (a : Ap β f m s n h cs) (hl : f.ts.length = n + 1) (hn : n = m * s) (hm : 0 < m) (hs : 0 < s) : Cd f m s h :=
  a.cd.cd hn hm hs (by
    have := tr_get f.ht (fun e => by rw [e] at hl; simp at hl)
    rwa [hl] at this)
theorem top_ne {f : Pol} {n : Nat} (hl : f.ts.length = n + 1) : f.co n ≠ 0 := by
  have := lead_ne (f := f) (by omega)
  unfold Pol.deg at this
  rwa [hl] at this
end NW
namespace NW
open PySem PySem.Spec PyProof.Rows L2
def Made (f : Pol) (m s : Nat) : Prop := ∃ g h : Pol, g.ts.length = m + 1 ∧ Neat s h ∧ g.comp h = f
theorem made_iff {β : Nat} {f h : Pol} {m s n : Nat} {cs : List Pol} (a : Ap β f m s n h cs) (hl : f.ts.length = n + 1) (hn : n = m * s) (hm : 0 < m) (hs : 0 < s) : Made f m s ↔ ∀ c, c ∈ cs → c.ts.length ≤ 1 := by
  have c1 := a.cdd hl hn hm hs
  constructor
  · rintro ⟨g, h', hg, hh, e⟩ c hc
    have hgn : g.ts ≠ [] := fun e => by rw [e] at hg; simp at hg
    have c2 := (Cd.of_comp hg hh hs hm).1
    rw [e] at c2
    have := c1.uniq c2 (by rw [← hn]; exact top_ne hl) hm
    subst this
    have dg := Dg.of_comp (g := g) (h := h) (by rw [hh.len]; omega) hgn
    rw [e] at dg
    have := a.dg.uniq (fun e => by have := hh.len; rw [e] at this; simp at this) dg
    subst this
    obtain ⟨q, _, rfl⟩ := List.mem_map.mp hc
    exact con_len
  · intro hc
    have e := a.dg.made hc
    have cl := a.count hl hn hs
    refine ⟨ofC (cs.map (·.co 0)), h, ?_, c1.nt, e⟩
    have l : (ofC (cs.map (·.co 0))).ts.length ≤ m + 1 := by have := ofC_len (qs := cs.map (·.co 0)); simp at this; omega
    by_cases h0 : (ofC (cs.map (·.co 0))).ts = []
    · exfalso
      have : f = Pol.zero := by rw [← e, zero_of h0]; rfl
      rw [this] at hl; simp [Pol.zero] at hl
    · have := len_comp h0 (g := h) (by rw [c1.nt.len]; omega)
      rw [e, hl, c1.nt.len, Nat.add_sub_cancel, hn] at this
      have hp := List.length_pos_iff.mpr h0
      have : m * s = ((ofC (cs.map (·.co 0))).ts.length - 1) * s := by omega
      have := Nat.eq_of_mul_eq_mul_right hs this
      omega
end NW
namespace NW
open PySem PySem.Spec PyProof.Rows L2
theorem made_dec {f : Pol} {m s n : Nat} (hn : n = m * s) (hs : 0 < s) : n / s = m := by rw [hn]; exact Nat.mul_div_cancel _ hs
theorem ApD.made {h : Pol} {cs : List Pol} {d : PyData} (a : ApD h cs d) (hc : ∀ c, c ∈ cs → c.ts.length ≤ 1) : d = .tuple [.str "made", polyD (ofC (cs.map (·.co 0))), polyD h] := by
  rcases a with ⟨_, e⟩ | ⟨i, c, hi, h2, _, _⟩
  · exact e
  · have := hc c (List.mem_of_getElem? hi)
    omega
theorem ApD.uniq {h : Pol} {cs : List Pol} {d d' : PyData} (a : ApD h cs d) (b : ApD h cs d') : d = d' := by
  rcases a with ⟨h1, e⟩ | ⟨i, c, hi, h2, h3, e⟩
  · rw [e, b.made h1]
  · rcases b with ⟨h1, e'⟩ | ⟨j, c', hj, k2, k3, e'⟩
    · have := h1 c (List.mem_of_getElem? hi)
      omega
    · rcases Nat.lt_trichotomy i j with z | z | z
      · have := k3 i c z hi; omega
      · subst z; rw [e, e']
      · have := h3 j c' z hj; omega
theorem Ap.uniq {β : Nat} {f h h' : Pol} {m s n : Nat} {cs cs' : List Pol} (a : Ap β f m s n h cs) (b : Ap β f m s n h' cs') (hl : f.ts.length = n + 1) (hn : n = m * s) (hm : 0 < m) (hs : 0 < s) : h = h' ∧ cs = cs' := by
  have e := (a.cdd hl hn hm hs).uniq (b.cdd hl hn hm hs) (by rw [← hn]; exact top_ne hl) hm
  subst e
  exact ⟨rfl, a.dg.uniq (fun e => by have := a.cd.len; rw [e] at this; simp at this) b.dg⟩
theorem inner_one_to {β : Nat} {f : Pol} {m s n : Nat} (hf : PBt β (n + 1) f) (hl : f.ts.length = n + 1) (hn : n = m * s) (hm : 0 < m) (hs : 0 < s) (hβ : β ≤ 15000) (h12 : n ≤ 16) : (m_inner_one [polyD f, .int s]).To fun d => ∃ h, d = polyD h ∧ CS f m s n (s - 1) (2 ^ β) h := by
  unfold m_inner_one
  rw [pure_to]
  unfold b_inner_one
  simp [startL]
  exact candidate_to hf hl hn hm hs hβ h12
end NW
namespace NW
open PySem PySem.Spec PyProof.Rows L2
theorem Cd.low {f h : Pol} {m s : Nat} (c : Cd f m s h) (hl : f.ts.length = m * s + 1) (hs : 0 < s) : (f - (h.pw m).sc (f.co (m * s))).ts.length ≤ m * s - s + 1 := len_le fun k hk => by
  rw [co_sub, co_sc]
  by_cases h1 : k ≤ m * s
  · have := c.top (m * s - k) (by omega)
    rw [show m * s - (m * s - k) = k by omega] at this
    rw [this]; grind
  · rw [co_zero_of (by omega), co_zero_of (by rw [(pw_lead c.nt).1]; omega)]; grind
theorem Cd.of_low {f h : Pol} {m s : Nat} (hh : Neat s h) (hm : 0 < m) (hs : 0 < s) {r : Rat} (hr : (f - (h.pw m).sc r).ts.length ≤ m * s - s + 1) : Cd f m s h ∧ f.co (m * s) = r := by
  have hle : s ≤ m * s := Nat.le_mul_of_pos_left _ hm
  have cz : ∀ k, m * s - s < k → f.co k = (h.pw m).co k * r := fun k hk => by
    have := co_zero_of (p := f - (h.pw m).sc r) (k := k) (by omega)
    rw [co_sub, co_sc] at this
    grind
  have c0 : f.co (m * s) = r := by
    rw [cz _ (by omega), (pw_lead hh).2]; grind
  exact ⟨⟨hh, fun j hj => by rw [c0, cz (m * s - j) (by omega)]⟩, c0⟩
theorem add_len_le {p q : Pol} {n : Nat} (hp : p.ts.length ≤ n) (hq : q.ts.length ≤ n) : (p + q).ts.length ≤ n := len_le fun k hk => by
  rw [co_add, co_zero_of (by omega), co_zero_of (by omega)]; grind
theorem sc_len_le {p : Pol} {r : Rat} : (p.sc r).ts.length ≤ p.ts.length := len_le fun k hk => by
  rw [co_sc, co_zero_of hk]; grind
theorem Cd.round {f h : Pol} {m s : Nat} {a b : Rat} (c : Cd f m s h) (hl : f.ts.length = m * s + 1) (hm : 0 < m) (hs : 0 < s) : Cd ((Pol.lin a b).comp f) m s h := by
  refine (Cd.of_low c.nt hm hs (r := a * f.co (m * s)) ?_).1
  have e : (Pol.lin a b).comp f - (h.pw m).sc (a * f.co (m * s)) = (f - (h.pw m).sc (f.co (m * s))).sc a + ofC [b] := Pol.ext_ev fun x => by
    rw [ev_sub, ev_comp, ev_lin, ev_sc, ev_add, ev_sc, ev_sub, ev_sc, ev_con]; grind
  rw [e]
  exact add_len_le (Nat.le_trans sc_len_le (c.low hl hs)) (Nat.le_trans con_len (by omega))
theorem ev_nm' {w : Pol} {x : Rat} (hl : 2 ≤ w.ts.length) : w.ev x = w.co w.deg * w.nm.ev x + w.co 0 := by
  have := congrArg (fun p => p.ev x) (ins_nm hl)
  simp only [ev_comp, ev_ins] at this
  exact this.symm
theorem nm_neat {w : Pol} {s : Nat} (hl : w.ts.length = s + 1) (hs : 0 < s) : Neat s w.nm := by
  have fd : w.deg = s := by unfold Pol.deg; omega
  obtain ⟨a, b⟩ := nm_top (w := w) (by omega)
  rw [nm_deg (by omega), fd] at a
  exact ⟨by rw [nm_len (by omega), hl], a, b⟩
theorem lin_pw {a b : Rat} {m : Nat} : (((Pol.lin a b).pw m) - mono (a ^ m) m).ts.length ≤ m := by
  have hl : ∀ m, ((Pol.lin a b).pw m).ts.length ≤ m + 1 ∧ ((Pol.lin a b).pw m).co m = a ^ m := fun m => by
    induction m with
    | zero => exact ⟨by simp [Pol.pw, Pol.one], by simp [Pol.pw, Pol.one, Pol.co, divInt_div]; grind⟩
    | succ m ih =>
      obtain ⟨i1, i2⟩ := ih
      have l2 : (Pol.lin a b).ts.length ≤ 2 := by unfold Pol.lin; simpa using ofC_len (qs := [b, a])
      refine ⟨Nat.le_trans mul_len (by omega), ?_⟩
      rw [Pol.pw, co_mul, sm, sm, sm_zero (fun k hk => by rw [co_zero_of (p := Pol.lin a b) (by omega)]; grind), i2, show m + 1 - m = 1 by omega, co_lin1, Nat.sub_self, co_zero_of (p := (Pol.lin a b).pw m) (by omega), Rat.pow_succ]
      grind
  refine len_le fun k hk => ?_
  rw [co_sub, co_mono]
  by_cases e : k = m
  · subst e; rw [if_pos rfl, (hl k).2]; grind
  · rw [if_neg e, co_zero_of (Nat.le_trans (hl m).1 (by omega))]; grind
theorem Cd.into {f h : Pol} {m s : Nat} {a b : Rat} (ha : a ≠ 0) (c : Cd f m s h) (hl : f.ts.length = m * s + 1) (hm : 0 < m) (hs : 0 < s) : Cd (f.comp (Pol.lin a b)) m s (h.comp (Pol.lin a b)).nm := by
  have hll := lin_len (b := b) ha
  have wl : (h.comp (Pol.lin a b)).ts.length = s + 1 := by rw [comp_lin_len (fun e => by have := c.nt.len; rw [e] at this; simp at this) hll, c.nt.len]
  have nt := nm_neat wl hs
  obtain ⟨w, hw⟩ : ∃ w, w = h.comp (Pol.lin a b) := ⟨_, rfl⟩
  rw [← hw] at wl nt ⊢
  refine (Cd.of_low nt hm hs (r := f.co (m * s) * (w.co w.deg) ^ m) ?_).1
  have e : f.comp (Pol.lin a b) - (w.nm.pw m).sc (f.co (m * s) * (w.co w.deg) ^ m) = (f - (h.pw m).sc (f.co (m * s))).comp (Pol.lin a b) + ((((Pol.lin (w.co w.deg) (w.co 0)).pw m) - mono ((w.co w.deg) ^ m) m).comp w.nm).sc (f.co (m * s)) := Pol.ext_ev fun x => by
    have e1 : h.ev ((Pol.lin a b).ev x) = w.ev x := by rw [hw, ev_comp]
    rw [ev_sub, ev_comp, ev_sc, ev_pw, ev_add, ev_comp, ev_sub, ev_sc, ev_pw, e1, ev_sc, ev_comp, ev_sub, ev_pw, ev_lin (x := w.nm.ev x), ev_mono, ← ev_nm' (x := x) (by omega)]
    grind
  rw [e]
  refine add_len_le ?_ (Nat.le_trans sc_len_le ?_)
  · refine Nat.le_trans comp_len ?_
    rw [hll]
    have := c.low hl hs
    omega
  · refine Nat.le_trans comp_len ?_
    rw [nt.len, Nat.add_sub_cancel]
    have := Nat.mul_le_mul_right s (show (((Pol.lin (w.co w.deg) (w.co 0)).pw m) - mono ((w.co w.deg) ^ m) m).ts.length - 1 ≤ m - 1 by have := lin_pw (a := w.co w.deg) (b := w.co 0) (m := m); omega)
    have em : (m - 1) * s = m * s - s := by rw [Nat.sub_mul, Nat.one_mul]
    omega
theorem comp_cancel {g g' h : Pol} (hh : 2 ≤ h.ts.length) (e : g.comp h = g'.comp h) : g = g' := by
  by_cases z : g.ts = []
  · by_cases z' : g'.ts = []
    · rw [zero_of z, zero_of z']
    · exfalso
      have := len_comp z' hh
      rw [← e, zero_of z] at this
      simp [Pol.comp, hz, Pol.zero] at this
  · by_cases z' : g'.ts = []
    · exfalso
      have := len_comp z hh
      rw [e, zero_of z'] at this
      simp [Pol.comp, hz, Pol.zero] at this
    · have a := Dg.of_comp hh z
      have b := Dg.of_comp hh z'
      rw [e] at a
      have := a.uniq (fun e => by rw [e] at hh; simp at hh) b
      have q := congrArg (fun l => l.map (·.co 0)) this
      simp only [cs_map] at q
      rw [← ofC_cs (g := g), ← ofC_cs (g := g'), q]
theorem Made.round {f : Pol} {m s : Nat} {a b : Rat} (ha : a ≠ 0) (hm : 0 < m) (h : Made f m s) : Made ((Pol.lin a b).comp f) m s := by
  obtain ⟨g, h, hg, hh, e⟩ := h
  refine ⟨(Pol.lin a b).comp g, h, ?_, hh, by rw [comp_assoc, e]⟩
  rw [(lin_top ha (by omega)).1, hg]
theorem Made.into {f : Pol} {m s : Nat} {a b : Rat} (ha : a ≠ 0) (hs : 0 < s) (h : Made f m s) : Made (f.comp (Pol.lin a b)) m s := by
  obtain ⟨g, h, hg, hh, e⟩ := h
  have wl : (h.comp (Pol.lin a b)).ts.length = s + 1 := by rw [comp_lin_len (fun e => by have := hh.len; rw [e] at this; simp at this) (lin_len ha), hh.len]
  refine ⟨g.comp (h.comp (Pol.lin a b)).ins, (h.comp (Pol.lin a b)).nm, ?_, nm_neat wl hs, ?_⟩
  · rw [comp_lin_len (fun e => by rw [e] at hg; simp at hg) (ins_len (by omega)), hg]
  · rw [comp_assoc, ins_nm (by omega), ← comp_assoc, e]
end NW
namespace NW
open PySem PySem.Spec PyProof.Rows L2
open Classical in
noncomputable def cnd (f : Pol) (n s : Nat) : Pol := if h : ∃ h, Cd f (n / s) s h then h.choose else Pol.zero
open Classical in
noncomputable def gof (f : Pol) (n s : Nat) : Pol := if h : ∃ g : Pol, g.comp (cnd f n s) = f then h.choose else Pol.zero
structure Sm (β : Nat) (f : Pol) (n : Nat) : Prop where
  sz : PBt β (n + 1) f
  len : f.ts.length = n + 1
  le : n ≤ 16
  pos : 1 ≤ n
  small : β ≤ 15000
theorem cnd_eq {f h : Pol} {m s n : Nat} (hl : f.ts.length = n + 1) (hn : n = m * s) (hm : 0 < m) (hs : 0 < s) (c : Cd f m s h) : cnd f n s = h := by
  have e := made_dec (f := f) hn hs
  have ex : ∃ h, Cd f (n / s) s h := ⟨h, by rw [e]; exact c⟩
  unfold cnd
  rw [dif_pos ex]
  have key : ∀ j, j = m → ∀ x : ∃ h, Cd f j s h, x.choose = h := fun j hj x => by
    subst hj
    exact x.choose_spec.uniq c (by rw [← hn]; exact top_ne hl) hm
  exact key _ e ex
theorem gof_eq {f g : Pol} {m s n : Nat} (h2 : 2 ≤ (cnd f n s).ts.length) (e : g.comp (cnd f n s) = f) : gof f n s = g := by
  have ex : ∃ g : Pol, g.comp (cnd f n s) = f := ⟨g, e⟩
  unfold gof
  rw [dif_pos ex]
  exact comp_cancel h2 (by rw [ex.choose_spec, e])
theorem Rp.To.ex {r : Rp} {P : PyData → Prop} (h : r.To P) : ∃ d, P d := by
  cases r with
  | ok d _ => exact ⟨d, h⟩
  | _ => exact h.elim
theorem Sm.cand {β : Nat} {f : Pol} {m s n : Nat} (F : Sm β f n) (hn : n = m * s) (hm : 0 < m) (hs : 0 < s) : Cd f m s (cnd f n s) ∧ PBt (16 * β + 2401) (s + 1) (cnd f n s) ∧ (m_candidate [polyD f, .int s]).To (fun d => d = polyD (cnd f n s)) ∧ (m_inner_one [polyD f, .int s]).To (fun d => d = polyD (cnd f n s)) ∧ CS f m s n (s - 1) (2 ^ β) (cnd f n s) := by
  have ht : f.ts.getD n 0 ≠ 0 := by
    have := tr_get f.ht (fun e => by have := F.len; rw [e] at this; simp at this)
    rwa [F.len] at this
  have hsn : s ≤ n := by rw [hn]; exact Nat.le_mul_of_pos_left _ hm
  have hmn : m ≤ n := by rw [hn]; exact Nat.le_mul_of_pos_right _ hs
  have le := F.le
  have eq : ∀ {h : Pol}, CS f m s n (s - 1) (2 ^ β) h → h = cnd f n s := fun {h} hc => (cnd_eq F.len hn hm hs (hc.cd hn hm hs ht)).symm
  have c0 := candidate_to F.sz F.len hn hm hs F.small F.le
  obtain ⟨_, h, rfl, hc⟩ := c0.ex
  have e := eq hc
  have hs16 : (β + 143) * s ≤ (β + 143) * 16 := Nat.mul_le_mul_left _ (by omega)
  refine ⟨by rw [← e]; exact hc.cd hn hm hs ht, ?_, c0.mono ?_, (inner_one_to F.sz F.len hn hm hs F.small F.le).mono ?_, e ▸ hc⟩
  · rw [← e]
    exact (hc.sz (by omega) (by omega) fun j => Nat.le_of_lt (F.sz.get j)).mono (by omega) (Nat.le_refl _)
  all_goals
    rintro d ⟨h', rfl, hc'⟩
    rw [eq hc']
theorem Sm.ap {β : Nat} {f : Pol} {m s n : Nat} (F : Sm β f n) (hn : n = m * s) (hm : 0 < m) (hs : 0 < s) : ∃ cs, Ap β f m s n (cnd f n s) cs ∧ (m_apart [polyD f, .int s]).To fun d => ApD (cnd f n s) cs d := by
  have key := apart_to F.sz F.len hn hm hs F.small F.le
  obtain ⟨_, h, cs, ap, _⟩ := key.ex
  have e : cnd f n s = h := cnd_eq F.len hn hm hs (ap.cdd F.len hn hm hs)
  rw [e]
  refine ⟨cs, ap, key.mono ?_⟩
  rintro d ⟨h', cs', ap', hd⟩
  obtain ⟨rfl, rfl⟩ := ap.uniq ap' F.len hn hm hs
  exact hd
structure Told (β : Nat) (f : Pol) (m s n : Nat) : Prop where
  eq : (gof f n s).comp (cnd f n s) = f
  sz : PBt (17 * β + 2601) (m + 1) (gof f n s)
  len : (gof f n s).ts.length = m + 1
  neat : Neat s (cnd f n s)
  szh : PBt (16 * β + 2401) (s + 1) (cnd f n s)
theorem Sm.told {β : Nat} {f : Pol} {m s n : Nat} (F : Sm β f n) (hn : n = m * s) (hm : 0 < m) (hs : 0 < s) (hM : Made f m s) : Told β f m s n ∧ (m_apart [polyD f, .int s]).To (fun d => d = .tuple [.str "made", polyD (gof f n s), polyD (cnd f n s)]) := by
  have hmn : m ≤ n := by rw [hn]; exact Nat.le_mul_of_pos_right _ hs
  have le := F.le
  obtain ⟨cs, ap, hap⟩ := F.ap hn hm hs
  have mi := made_iff ap F.len hn hm hs
  have hlen := ap.cd.len
  obtain ⟨cd, sz, _⟩ := F.cand hn hm hs
  have h1 := mi.mp hM
  have e2 := ap.dg.made h1
  have e3 : gof f n s = ofC (cs.map (·.co 0)) := gof_eq (m := m) (by rw [hlen]; omega) e2
  have cl := ap.count F.len hn hs
  have gs := ap.gsz
  rw [cl] at gs
  refine ⟨⟨by rw [e3]; exact e2, by rw [e3]; exact gs.mono (by omega) (by omega), ?_, cd.nt, sz⟩, hap.mono fun d hd => by rw [e3]; exact hd.made h1⟩
  obtain ⟨g, h', hg, hh, ec⟩ := hM
  have c2 := (Cd.of_comp hg hh hs hm).1
  rw [ec] at c2
  have : cnd f n s = h' := cnd_eq F.len hn hm hs c2
  have q : ofC (cs.map (·.co 0)) = g := comp_cancel (h := h') (by rw [hh.len]; omega) (by rw [ec, ← this]; exact e2)
  rw [e3, q, hg]
theorem Sm.of {f g h : Pol} {m s n : Nat} (hl : f.ts.length = n + 1) (hn : n = m * s) (hm : 0 < m) (hs : 0 < s) (hg : g.ts.length = m + 1) (hh : Neat s h) (e : g.comp h = f) : Made f m s ∧ cnd f n s = h ∧ gof f n s = g := by
  have c := (Cd.of_comp hg hh hs hm).1
  rw [e] at c
  have e1 := cnd_eq hl hn hm hs c
  exact ⟨⟨g, h, hg, hh, e⟩, e1, gof_eq (m := m) (by rw [e1, hh.len]; omega) (by rw [e1, e])⟩
end NW
namespace NW
open PySem PySem.Spec PyProof.Rows L2
end NW
namespace NW
open PySem PySem.Spec PyProof.Rows L2
def Str (p q : Pol) (n : Nat) (w : Rat) : Prop := ∀ k, k < n → p.co k = q.co k * w ^ (n - k)
def Pol.str (p : Pol) (w : Rat) (n : Nat) : Pol := p.comp (Pol.lin w 0) * NW.ofC [(1 / w) ^ n]
end NW
namespace NW
open PySem PySem.Spec PyProof.Rows L2
def mny (d : Nat) : Nat → Nat
  | 0 => 0
  | k + 1 => 1 + d * mny d k
end NW
namespace NW
open PySem PySem.Spec PyProof.Rows L2
theorem least_to {m k : Nat} {P : PyData → Prop} (hm : 0 < m) (hm2 : m ≤ 100) (hk : k ≤ 100) (h : P (.int (Nat.lcm m k : Nat))) : (m_least_multiple [.int m, .int k]).To P := by
  unfold m_least_multiple
  rw [pure_to]
  unfold b_least_multiple
  refine cut (fun l st => l = [some (.d (.int m)), some (.d (.int k)), some (.d (.int m)), some (.d (.int k))] ∧ st = ⟨none, []⟩) ?_ ?_
  · simp [startL]
  rintro l st ⟨hL, hS⟩
  refine cut (fun l st => ∃ v3, l = [some (.d (.int m)), some (.d (.int k)), some (.d (.int (Nat.gcd m k : Nat))), v3] ∧ st = ⟨none, []⟩) ?_ ?_
  · rw [hL, hS]
    obtain ⟨I, hI⟩ : ∃ I : Nat → NW.Loc → Sto → Prop, ∀ n l s, I n l s ↔ ∃ a : Nat, 0 < a ∧ a ≤ 100 ∧ n ≤ 100 ∧ Nat.gcd a n = Nat.gcd m k ∧ l = [some (.d (.int m)), some (.d (.int k)), some (.d (.int a)), some (.d (.int n))] ∧ s = ⟨none, []⟩ := ⟨_, fun _ _ _ => Iff.rfl⟩
    refine while_to (I := I) ?_ k _ _ ((hI _ _ _).mpr ⟨m, hm, hm2, hk, rfl, rfl, rfl⟩)
    intro n l s hi
    obtain ⟨a, a0, a1, n1, hg, rfl, rfl⟩ := (hI _ _ _).mp hi
    simp
    by_cases n0 : n = 0
    · subst n0
      rw [Nat.gcd_zero_right] at hg
      exact .inl ⟨rfl, by rw [hg]⟩
    · refine .inr ⟨by omega, n0, a % n, Nat.mod_lt _ (by omega), (hI _ _ _).mpr ⟨n, by omega, n1, ?_, ?_, ?_, rfl⟩⟩
      · have := Nat.mod_lt a (show n > 0 by omega)
        omega
      · rw [← hg, Nat.gcd_comm n, ← Nat.gcd_rec, Nat.gcd_comm]
      · rw [Int.fmod_eq_emod_of_nonneg _ (by omega)]
        rfl
  clear hL hS
  rintro l st ⟨v3, hL, hS⟩
  simp [hL, hS]
  have g0 : 0 < Nat.gcd m k := Nat.gcd_pos_of_pos_left k hm
  have gm : Nat.gcd m k ≤ m := Nat.le_of_dvd hm (Nat.gcd_dvd_left m k)
  have e : (m : Int).fdiv (Nat.gcd m k : Nat) = ((m / Nat.gcd m k : Nat) : Int) := by
    rw [Int.fdiv_eq_ediv_of_nonneg _ (by omega)]
    rfl
  have l : m / Nat.gcd m k * k = Nat.lcm m k := by
    unfold Nat.lcm
    rw [Nat.mul_comm m k, Nat.mul_div_assoc _ (Nat.gcd_dvd_left m k), Nat.mul_comm]
  have q : m / Nat.gcd m k ≤ m := Nat.div_le_self _ _
  refine ⟨divU (by omega), ?_, ?_⟩
  · rw [e]
    clear e l
    generalize m / Nat.gcd m k = z at *
    exact mulC_small (by omega) (by omega)
  · rw [e, ← Int.natCast_mul, l]
    exact h
structure Dg2 (f g : Pol) (m k : Nat) : Prop where
  fl : f.ts.length = m + 1
  gl : g.ts.length = k + 1
  m0 : 1 ≤ m
  k0 : 1 ≤ k
  m1 : m ≤ 12
  k1 : k ≤ 12
  l1 : Nat.lcm m k ≤ 12
def hiD (m k : Nat) : Nat := Nat.lcm m k / m
theorem hiD_mul {m k : Nat} : hiD m k * m = Nat.lcm m k := Nat.div_mul_cancel (Nat.dvd_lcm_left m k)
theorem Dg2.symm {f g : Pol} {m k : Nat} (D : Dg2 f g m k) : Dg2 g f k m := ⟨D.gl, D.fl, D.k0, D.m0, D.k1, D.m1, by rw [Nat.lcm_comm]; exact D.l1⟩
section
variable {f g : Pol} {m k : Nat}
theorem Dg2.lp (D : Dg2 f g m k) : 1 ≤ Nat.lcm m k := Nat.lcm_pos D.m0 D.k0
theorem Dg2.h1 (D : Dg2 f g m k) : 1 ≤ hiD m k ∧ hiD m k ≤ 12 := by
  have := D.lp
  have h := hiD_mul (m := m) (k := k)
  have l := D.l1
  constructor
  · cases e : hiD m k with
    | zero => rw [e] at h; omega
    | succ j => omega
  · have : hiD m k * 1 ≤ hiD m k * m := Nat.mul_le_mul_left _ D.m0
    omega
theorem Dg2.w1 (D : Dg2 f g m k) : 1 ≤ hiD k m ∧ hiD k m ≤ 12 := D.symm.h1
theorem shape_to {P : PyData → Prop} (D : Dg2 f g m k) (h : P (.tuple [.int (Nat.lcm m k : Nat), .int (hiD m k : Nat), .int (hiD k m : Nat)])) : (m_shape [polyD f, polyD g]).To P := by
  have := D.m0
  have := D.m1
  have := D.k0
  have := D.k1
  have := D.fl
  have := D.gl
  have ef : ((f.ts.length : Int) - 1) = (m : Nat) := by omega
  have eg : ((g.ts.length : Int) - 1) = (k : Nat) := by omega
  unfold m_shape
  rw [pure_to]
  unfold b_shape
  simp [startL]
  refine degree_to ?_
  refine degree_to ?_
  rw [ef, eg]
  refine least_to (by omega) (by omega) (by omega) ?_
  have dv1 : divC (Nat.lcm m k : Nat) (m : Nat) = true := divU (by omega)
  have dv2 : divC (Nat.lcm m k : Nat) (k : Nat) = true := divU (by omega)
  have q1 : ((Nat.lcm m k : Nat) : Int).fdiv (m : Nat) = (hiD m k : Nat) := by
    rw [Int.fdiv_eq_ediv_of_nonneg _ (by omega)]
    rfl
  have q2 : ((Nat.lcm m k : Nat) : Int).fdiv (k : Nat) = (hiD k m : Nat) := by
    rw [Int.fdiv_eq_ediv_of_nonneg _ (by omega), Nat.lcm_comm]
    rfl
  refine degree_to ?_
  rw [ef]
  simp [dv1]
  rw [q1]
  refine degree_to ?_
  rw [eg]
  simp [dv2]
  rw [q2]
  exact h
def colP (f g : Pol) (a b : Nat) (j : Nat) : Pol := if j < a then f.pw j else if j < a + b then g.pw (j - a + 1) else f.pw a
def colsL (f g : Pol) (a b : Nat) : List PyData := (List.range (a + b)).map fun j => polyD (colP f g a b j)
theorem colsL_eq {a b : Nat} : ((List.range a).map fun i => polyD (f.pw i)) ++ ((List.range b).map fun i => polyD (g.pw (i + 1))) = colsL f g a b := by
  refine List.ext_getElem? fun j => ?_
  unfold colsL colP
  by_cases h : j < a
  · rw [List.getElem?_append_left (by simpa using h)]
    simp [h, show j < a + b by omega]
  · rw [List.getElem?_append_right (by simpa using h)]
    by_cases h2 : j < a + b
    · simp [h, h2, show j - a < b by omega]
    · simp [h2, show ¬ j - a < b by omega]
theorem rangeD_map {n : Nat} : ∀ {s : Int}, rangeD s 1 n = (List.range n).map fun (i : Nat) => PyData.int (s + i) := by
  induction n with
  | zero => intro s; rfl
  | succ n ih =>
    intro s
    rw [rangeD_cons, ih, List.range_succ_eq_map, List.map_cons, List.map_map]
    congr 1
    · simp
    · refine List.map_congr_left fun i _ => ?_
      show PyData.int (s + 1 + i) = PyData.int (s + ((i + 1 : Nat) : Int))
      congr 1
      omega
theorem columns_to {γ : Nat} {P : PyData → Prop} (D : Dg2 f g m k) (hf : PBt γ (m + 1) f) (hg : PBt γ (k + 1) g) (hγ : γ ≤ 20000) (h : P (.tuple [.list (colsL f g (hiD m k) (hiD k m)), polyD (f.pw (hiD m k))])) : (m_columns [polyD f, polyD g]).To P := by
  have m0 := D.m0
  have m1 := D.m1
  have k0 := D.k0
  have k1 := D.k1
  obtain ⟨a0, a1⟩ := D.h1
  obtain ⟨b0, b1⟩ := D.w1
  have ha : hiD m k * m ≤ 12 := by rw [hiD_mul]; exact D.l1
  have hb : hiD k m * k ≤ 12 := by rw [hiD_mul, Nat.lcm_comm]; exact D.l1
  have pf : ∀ i, i ≤ hiD m k → ∀ P : PyData → Prop, P (polyD (f.pw i)) → (m_power [polyD f, .int i]).To P := fun i hi P hP => by
    have : i * (m + 1) ≤ 24 := by
      have h1 : i * m ≤ hiD m k * m := Nat.mul_le_mul_right _ hi
      rw [Nat.mul_add]
      omega
    have h2 : i * (γ + 10) ≤ 12 * 20010 := Nat.mul_le_mul (by omega) (by omega)
    exact power_to hf (by omega) (by omega) hP
  have pg : ∀ i, i ≤ hiD k m → ∀ P : PyData → Prop, P (polyD (g.pw i)) → (m_power [polyD g, .int i]).To P := fun i hi P hP => by
    have : i * (k + 1) ≤ 24 := by
      have h1 : i * k ≤ hiD k m * k := Nat.mul_le_mul_right _ hi
      rw [Nat.mul_add]
      omega
    have h2 : i * (γ + 10) ≤ 12 * 20010 := Nat.mul_le_mul (by omega) (by omega)
    exact power_to hg (by omega) (by omega) hP
  unfold m_columns
  rw [pure_to]
  unfold b_columns
  generalize hA : hiD m k = A at *
  generalize hB : hiD k m = B at *
  refine cut (fun l st => l = [some (.d (polyD f)), some (.d (polyD g)), some (.d (.int (Nat.lcm m k : Nat))), some (.d (.int (A : Nat))), some (.d (.int (B : Nat))), none, none, none] ∧ st = ⟨none, []⟩) ?_ ?_
  · simp [startL]
    refine shape_to D ?_
    rw [hA, hB]
    simp
  rintro l st ⟨hL, hS⟩
  refine cut (fun l st => ∃ v6 v7, l = [some (.d (polyD f)), some (.d (polyD g)), some (.d (.int (Nat.lcm m k : Nat))), some (.d (.int (A : Nat))), some (.d (.int (B : Nat))), some (.d (.list (colsL f g A B))), v6, v7] ∧ st = ⟨none, []⟩) ?_ ?_
  · simp [hL, hS]
    refine ⟨by unfold rOk; simp; omega, by omega, ?_⟩
    rw [range_map]
    refine lc_mapA (f := fun j : Nat => PyData.int j) (g := fun j => polyD (f.pw j)) chk_nil (fun i hi => ?_) ?_
    · have hi := List.mem_range.mp hi
      simp [wipeL]
      exact pf i (by omega) _ (by simp)
    · refine ⟨1, _, ⟨rfl, rfl⟩, ⟨rfl, by unfold rOk; simp; omega⟩, by omega, ?_⟩
      rw [show ((B : Int) + 1 - 1).toNat = B by omega, rangeD_map]
      refine lc_mapA (f := fun j : Nat => PyData.int (1 + j)) (g := fun j => polyD (g.pw (j + 1))) chk_nil (fun i hi => ?_) ?_
      · have hi := List.mem_range.mp hi
        simp [wipeL]
        rw [show (1 : Int) + (i : Int) = ((i + 1 : Nat) : Int) by omega]
        exact pg (i + 1) (by omega) _ (by simp)
      · exact ⟨by simp; omega, colsL_eq, rfl⟩
  clear hL hS
  rintro l st ⟨v6, v7, hL, hS⟩
  simp [hL, hS]
  exact pf A (Nat.le_refl A) _ h
end
end NW
namespace NW
open PySem PySem.Spec PyProof.Rows L2
theorem sm_splitO {f : Nat → Rat} {a : Nat} : ∀ {b : Nat}, sm (a + b) f = sm a f + sm b fun j => f (a + j)
  | 0 => by simp only [sm, Nat.add_zero]; grind
  | b + 1 => by rw [← Nat.add_assoc, sm, sm_splitO, sm]; grind
def pSum : Nat → (Nat → Pol) → Pol
  | 0, _ => Pol.zero
  | n + 1, F => pSum n F + F n
theorem co_zeroO {k : Nat} : Pol.zero.co k = 0 := by
  unfold Pol.co Pol.zero
  simp
theorem co_pSum {F : Nat → Pol} {k : Nat} : ∀ {n : Nat}, (pSum n F).co k = sm n fun j => (F j).co k
  | 0 => co_zeroO
  | n + 1 => by rw [pSum, co_add, co_pSum, sm]
theorem ev_pSum {F : Nat → Pol} {t : Rat} : ∀ {n : Nat}, (pSum n F).ev t = sm n fun j => (F j).ev t
  | 0 => ev_zero
  | n + 1 => by rw [pSum, ev_add, ev_pSum, sm]
theorem evC_sm {t : Rat} : ∀ {n : Nat} {c : Nat → Rat}, evC n c t = sm n fun i => c i * t ^ i
  | 0, c => rfl
  | n + 1, c => by
    rw [evC, sm_succ, evC_sm]
    have : (sm n fun k => c (k + 1) * t ^ (k + 1)) = t * sm n fun i => c (i + 1) * t ^ i := by
      rw [← sm_mul]
      exact sm_congr fun i _ => by rw [Rat.pow_succ]; grind
    rw [this]
    simp
theorem ev_smO {p : Pol} {n : Nat} {t : Rat} (h : p.ts.length ≤ n) : p.ev t = sm n fun i => p.co i * t ^ i := by rw [ev_co h, evC_sm]
theorem evQ_range {y : Rat} : ∀ {n : Nat} {h : Nat → Rat}, evQ ((List.range n).map h) y = sm n fun i => h i * y ^ i
  | 0, h => rfl
  | n + 1, h => by
    rw [List.range_succ_eq_map, List.map_cons, List.map_map, evQ, sm_succ]
    have e := evQ_range (y := y) (n := n) (h := fun i => h (i + 1))
    have e2 : (List.range n).map (h ∘ Nat.succ) = (List.range n).map fun i => h (i + 1) := rfl
    rw [e2, e]
    have : (sm n fun k => h (k + 1) * y ^ (k + 1)) = y * sm n fun i => h (i + 1) * y ^ i := by
      rw [← sm_mul]
      exact sm_congr fun i _ => by rw [Rat.pow_succ]; grind
    rw [this]
    simp
theorem evQ_snoc {y q : Rat} : ∀ {qs : List Rat}, evQ (qs ++ [q]) y = evQ qs y + q * y ^ qs.length
  | [] => by simp [evQ]; grind
  | p :: qs => by rw [List.cons_append, evQ, evQ_snoc, evQ, List.length_cons, Rat.pow_succ]; grind
def uP (a : Nat) (x : Nat → Rat) : Pol := ofC ((List.range a).map (fun i => -x i) ++ [1])
def vP (a b : Nat) (x : Nat → Rat) : Pol := ofC (0 :: (List.range b).map fun j => x (a + j))
theorem ev_uP {a : Nat} {x : Nat → Rat} {y : Rat} : (uP a x).ev y = y ^ a - sm a fun i => x i * y ^ i := by
  unfold uP
  rw [ev_ofC, evQ_snoc, evQ_range, List.length_map, List.length_range]
  have : (sm a fun i => -x i * y ^ i) = -1 * sm a fun i => x i * y ^ i := by
    rw [← sm_mul]
    exact sm_congr fun i _ => by grind
  rw [this]
  grind
theorem ev_vP {a b : Nat} {x : Nat → Rat} {y : Rat} : (vP a b x).ev y = sm b fun j => x (a + j) * y ^ (j + 1) := by
  unfold vP
  rw [ev_ofC, evQ, evQ_range]
  have : (sm b fun j => x (a + j) * y ^ (j + 1)) = y * sm b fun j => x (a + j) * y ^ j := by
    rw [← sm_mul]
    exact sm_congr fun i _ => by rw [Rat.pow_succ]; grind
  rw [this]
  grind
theorem co_uP {a : Nat} {x : Nat → Rat} : (uP a x).co a = 1 := by
  unfold uP
  rw [co_ofC, List.getD_eq_getElem?_getD, List.getElem?_append_right (by simp)]
  simp
theorem len_uP {a : Nat} {x : Nat → Rat} : (uP a x).ts.length = a + 1 := by
  have h1 : (uP a x).ts.length ≤ a + 1 := by
    unfold uP
    exact Nat.le_trans ofC_len (by simp)
  by_cases h : (uP a x).ts.length ≤ a
  · have := co_zero_of h
    rw [co_uP] at this
    exact absurd this (by decide)
  · omega
theorem co_vP0 {a b : Nat} {x : Nat → Rat} : (vP a b x).co 0 = 0 := by
  unfold vP
  rw [co_ofC]
  rfl
theorem len_vP {a b : Nat} {x : Nat → Rat} : (vP a b x).ts.length ≤ b + 1 := by
  unfold vP
  exact Nat.le_trans ofC_len (by simp)
def OutS (f g : Pol) (a b : Nat) : Prop := ∃ u v : Pol, u.ts.length = a + 1 ∧ u.co a = 1 ∧ v.co 0 = 0 ∧ v.ts.length ≤ b + 1 ∧ u.comp f = v.comp g
section
variable {f g : Pol} {a b : Nat} {x : Nat → Rat}
theorem colP_due : colP f g a b (a + b) = f.pw a := by
  unfold colP
  rw [if_neg (by omega), if_neg (by omega)]
theorem rows_poly {n : Nat} (hl : ∀ j, j ≤ a + b → (colP f g a b j).ts.length ≤ n) : (∀ e, e < n → sm (a + b) (fun j => (colP f g a b j).co e * x j) = (colP f g a b (a + b)).co e) ↔ pSum (a + b) (fun j => (colP f g a b j).sc (x j)) = f.pw a := by
  have c : ∀ e, (pSum (a + b) (fun j => (colP f g a b j).sc (x j))).co e = sm (a + b) fun j => (colP f g a b j).co e * x j := fun e => by
    rw [co_pSum]
    exact sm_congr fun j _ => co_sc
  constructor
  · intro h
    refine Pol.ext_co fun e => ?_
    rw [c]
    by_cases he : e < n
    · rw [h e he, colP_due]
    · have := hl (a + b) (Nat.le_refl _)
      rw [colP_due] at this
      rw [co_zero_of (p := f.pw a) (by omega)]
      refine sm_zero fun j hj => ?_
      have := hl j (by omega)
      rw [co_zero_of (by omega)]
      exact Rat.zero_mul _
  · intro h e _
    rw [← c, h, colP_due]
theorem sum_ev {t : Rat} : (pSum (a + b) (fun j => (colP f g a b j).sc (x j))).ev t = sm a (fun i => x i * f.ev t ^ i) + sm b fun j => x (a + j) * g.ev t ^ (j + 1) := by
  rw [ev_pSum, sm_splitO]
  congr 1
  · exact sm_congr fun j hj => by
      rw [ev_sc]
      unfold colP
      rw [if_pos hj, ev_pw]
      exact Rat.mul_comm _ _
  · exact sm_congr fun j hj => by
      rw [ev_sc]
      unfold colP
      rw [if_neg (by omega), if_pos (by omega), ev_pw, show a + j - a + 1 = j + 1 by omega]
      exact Rat.mul_comm _ _
theorem out_iff : pSum (a + b) (fun j => (colP f g a b j).sc (x j)) = f.pw a ↔ (uP a x).comp f = (vP a b x).comp g := by
  constructor
  · intro h
    refine Pol.ext_ev fun t => ?_
    have := congrArg (fun p => Pol.ev p t) h
    rw [sum_ev, ev_pw] at this
    rw [ev_comp, ev_comp, ev_uP, ev_vP]
    grind
  · intro h
    refine Pol.ext_ev fun t => ?_
    have := congrArg (fun p => Pol.ev p t) h
    rw [ev_comp, ev_comp, ev_uP, ev_vP] at this
    rw [sum_ev, ev_pw]
    grind
theorem outS_iff : OutS f g a b ↔ ∃ x : Nat → Rat, (uP a x).comp f = (vP a b x).comp g := by
  constructor
  · rintro ⟨u, v, h1, h2, h3, h4, h5⟩
    refine ⟨fun j => if j < a then -u.co j else v.co (j - a + 1), ?_⟩
    have eu : uP a (fun j => if j < a then -u.co j else v.co (j - a + 1)) = u := Pol.ext_ev fun y => by
      rw [ev_uP, ev_smO (p := u) (n := a + 1) (by omega), sm, h2]
      have : (sm a fun i => (if i < a then -u.co i else v.co (i - a + 1)) * y ^ i) = -1 * sm a fun i => u.co i * y ^ i := by
        rw [← sm_mul]
        exact sm_congr fun i hi => by rw [if_pos hi]; grind
      rw [this]
      grind
    have ev : vP a b (fun j => if j < a then -u.co j else v.co (j - a + 1)) = v := Pol.ext_ev fun y => by
      rw [ev_vP, ev_smO (p := v) (n := b + 1) h4, sm_succ, h3]
      have : (sm b fun j => (if a + j < a then -u.co (a + j) else v.co (a + j - a + 1)) * y ^ (j + 1)) = sm b fun k => v.co (k + 1) * y ^ (k + 1) := sm_congr fun j _ => by
        rw [if_neg (by omega), show a + j - a + 1 = j + 1 by omega]
      rw [this]
      grind
    rw [eu, ev, h5]
  · rintro ⟨x, h⟩
    exact ⟨_, _, len_uP, co_uP, co_vP0, len_vP, h⟩
theorem wide_len {m k : Nat} (fl : f.ts.length = m + 1) (gl : g.ts.length = k + 1) (k0 : 1 ≤ k) (m0 : 1 ≤ m) (hab : a * m = b * k) (h : (uP a x).comp f = (vP a b x).comp g) (a0 : 1 ≤ a) : (vP a b x).ts.length = b + 1 := by
  have e1 : ((uP a x).comp f).ts.length = a * m + 1 := by
    rw [len_comp (by intro z; have := congrArg List.length z; rw [len_uP] at this; simp at this) (by omega), len_uP, fl]
    rfl
  have ne : (vP a b x).ts ≠ [] := fun z => by
    have : (vP a b x).comp g = Pol.zero := Pol.ext_ev fun t => by
      rw [ev_comp, ev_zero]
      unfold Pol.ev
      rw [z]
      simp [evZ]
      grind
    rw [h, this] at e1
    have z0 : Pol.zero.ts.length = 0 := rfl
    omega
  have e2 := len_comp (g := g) ne (by omega)
  rw [← h, e1, gl, hab] at e2
  have l0 : 0 < (vP a b x).ts.length := List.length_pos_iff.mpr ne
  have : b * k = ((vP a b x).ts.length - 1) * k := by simpa using e2
  have := Nat.eq_of_mul_eq_mul_right (by omega) this
  omega
theorem outS_symm {m k : Nat} (fl : f.ts.length = m + 1) (gl : g.ts.length = k + 1) (k0 : 1 ≤ k) (m0 : 1 ≤ m) (hab : a * m = b * k) (a0 : 1 ≤ a) (h : OutS f g a b) : OutS g f b a := by
  obtain ⟨x, hx⟩ := outS_iff.mp h
  have wl := wide_len fl gl k0 m0 hab hx a0
  obtain ⟨c, hc⟩ : ∃ c, c = (vP a b x).co b := ⟨_, rfl⟩
  have c0 : c ≠ 0 := by
    have := co_lead (p := vP a b x) (by intro z; have := congrArg List.length z; rw [wl] at this; simp at this)
    rw [wl] at this
    rw [hc]
    exact this
  obtain ⟨s, hs⟩ : ∃ s, s = (uP a x).co 0 := ⟨_, rfl⟩
  have b0 : 1 ≤ b := by
    cases b with
    | zero =>
      have : 1 ≤ a * m := Nat.mul_pos a0 m0
      omega
    | succ b => omega
  have cou : ∀ e, ((vP a b x - ofC [s]).sc (1 / c)).co e = ((vP a b x).co e - if e = 0 then s else 0) * (1 / c) := fun e => by rw [co_sc, co_sub, co_con]
  have cov : ∀ e, ((uP a x - ofC [s]).sc (1 / c)).co e = ((uP a x).co e - if e = 0 then s else 0) * (1 / c) := fun e => by rw [co_sc, co_sub, co_con]
  have u1 : ((vP a b x - ofC [s]).sc (1 / c)).co b = 1 := by
    rw [cou, ← hc, if_neg (by omega)]
    grind
  have lle : ∀ (p : Pol) (n : Nat), (∀ e, n ≤ e → p.co e = 0) → p.ts.length ≤ n := fun p n hp => by
    by_cases hl : p.ts.length ≤ n
    · exact hl
    · have := co_lead (p := p) (by intro z; rw [z] at hl; simp at hl)
      exact absurd (hp (p.ts.length - 1) (by omega)) this
  refine ⟨(vP a b x - ofC [s]).sc (1 / c), (uP a x - ofC [s]).sc (1 / c), ?_, u1, ?_, ?_, ?_⟩
  · have h1 := lle ((vP a b x - ofC [s]).sc (1 / c)) (b + 1) fun e he => by
      rw [cou, co_zero_of (by omega), if_neg (by omega)]
      grind
    by_cases h2 : ((vP a b x - ofC [s]).sc (1 / c)).ts.length ≤ b
    · have := co_zero_of h2
      rw [u1] at this
      exact absurd this (by decide)
    · omega
  · rw [cov, ← hs, if_pos rfl]
    grind
  · exact lle _ _ fun e he => by
      rw [cov, co_zero_of (by rw [len_uP]; omega), if_neg (by omega)]
      grind
  · refine Pol.ext_ev fun t => ?_
    have := congrArg (fun p => Pol.ev p t) hx
    rw [ev_comp, ev_comp] at this
    rw [ev_comp, ev_comp, ev_sc, ev_sc, ev_sub, ev_sub, ev_con, this]
    rw [ev_con]
end
end NW
namespace NW
open PySem PySem.Spec PyProof.Rows L2
theorem FB.addm {p q : Rat} {a b : Nat} (hp : FB a p) (hq : FB b q) : FB (a + b + 1) (p + q) := by
  have := FB.subm hp hq.neg
  have e : p - -q = p + q := by grind
  rwa [e] at this
theorem L_isfrac_to {q : Rat} {P : PyData → Prop} (h : P (.bool true)) : (m_L_is_fraction [fracD q]).To P := by
  have d0 := q.den_pos
  have g : Int.gcd q.num (q.den : Int) = 1 := q.reduced
  unfold m_L_is_fraction
  rw [pure_to]
  unfold b_L_is_fraction
  simp [startL, fracD]
  refine lc_map (g := fun _ => .bool true) (fun x hx => ?_) ?_
  · simp at hx
    rcases hx with rfl | rfl <;> simp [wipeL]
  · refine cAll_yes ?_
    refine .inr ⟨rfl, .inr ⟨d0, ?_⟩⟩
    refine common_to ?_
    rw [g]
    exact ⟨rfl, h⟩
@[simp] theorem sh_numbers : SeqAt.shaped (.str ("numbers" : PySem.Str)) = true := by decide +kernel
@[simp] theorem sh_weights : SeqAt.shaped (.str ("weights" : PySem.Str)) = true := by decide +kernel
@[simp] theorem eq_nnL : PyData.eqv (.str ("numbers" : PySem.Str)) (.str ("numbers" : PySem.Str)) = true := by decide +kernel
@[simp] theorem eq_wwL : PyData.eqv (.str ("weights" : PySem.Str)) (.str ("weights" : PySem.Str)) = true := by decide +kernel
@[simp] theorem eq_wnL : PyData.eqv (.str ("weights" : PySem.Str)) (.str ("numbers" : PySem.Str)) = false := by decide +kernel
theorem frac_all {w : Nat} {f : Nat → Rat} {vs : List Nat} {t : MT} {c : MB} {m : ME} {l : NW.Loc} {st : Sto} {P : List PyData → Sto → Prop}
    (h : ∀ j, j < w → (t (.d (fracD (f j))) (wipeL l vs) st).To fun l1 s => (c l1 s).To fun b s => b = true ∧ (m l1 s).To fun u s => u = .d (.bool true) ∧ s = st) (fin : P ((List.range w).map fun _ => .bool true) st) : (lcM ⟨rw_ w f, []⟩ vs t c m l (rw_ w f) st).To P :=
  lc_mapA (f := fun j => fracD (f j)) (g := fun _ => .bool true) chk_nil (fun j hj => h j (List.mem_range.mp hj)) fin
theorem cAll_rng {n : Nat} {st : Sto} {Q : U → Sto → Prop} (h : Q (.d (.bool true)) st) : (cAll [.d (.list ((List.range n).map fun _ => .bool true))] st).To Q := by
  have : ((List.range n).map fun _ => PyData.bool true) = ((List.range n).map fun j : Nat => PyData.int j).map fun _ => .bool true := by rw [List.map_map]; rfl
  rw [this]
  exact cAll_yes h
end NW
namespace NW
open PySem PySem.Spec PyProof.Rows L2
theorem sm_swapO {F : Nat → Nat → Rat} {m : Nat} : ∀ {n : Nat}, sm n (fun r => sm m fun j => F r j) = sm m fun j => sm n fun r => F r j
  | 0 => by simp only [sm]; exact (sm_zero fun j _ => rfl).symm
  | n + 1 => by
    rw [sm, sm_swapO (n := n), ← sm_add]
    rfl
theorem no_weights {n m : Nat} {M : Nat → Nat → Rat} {y x : Nat → Rat} (h1 : ∀ j, j < m → sm n (fun r => y r * M r j) = 0) (hx : ∀ i, i < n → sm m (fun j => M i j * x j) = M i m) : sm n (fun r => y r * M r m) = 0 := by
  have e1 : (sm n fun r => y r * M r m) = sm n fun r => sm m fun j => y r * (M r j * x j) := sm_congr fun r hr => by rw [sm_mul, hx r hr]
  rw [e1, sm_swapO]
  refine sm_zero fun j hj => ?_
  have e2 : (sm n fun r => y r * (M r j * x j)) = x j * sm n fun r => y r * M r j := by
    rw [← sm_mul]
    exact sm_congr fun r _ => by grind
  rw [e2, h1 j hj]
  grind
def OutT (f g : Pol) (a b n β : Nat) (d : PyData) : Prop :=
  (∃ x : Nat → Rat, d = .tuple [.str "outer", polyD (uP a x), polyD (vP a b x)] ∧ (uP a x).comp f = (vP a b x).comp g ∧ ∀ j, j < a + b → FB β (x j)) ∨
  (¬ OutS f g a b ∧ ∃ y : Nat → Rat, d = .tuple [.str "none", .tuple (rw_ n y)] ∧ ((∀ j, j < a + b → sm n (fun e => y e * (colP f g a b j).co e) = 0) ∧ sm n (fun e => y e * (f.pw a).co e) ≠ 0) ∧ ∀ e, e < n → FB β (y e))
@[simp] theorem eq_nwO : PyData.eqv (.str ("numbers" : PySem.Str)) (.str ("weights" : PySem.Str)) = false := by decide +kernel
theorem colP_sz {f g : Pol} {m k γ σ : Nat} (D : Dg2 f g m k) (hf : PBt γ (m + 1) f) (hg : PBt γ (k + 1) g) (hσ : 12 * (γ + 10) + 1 ≤ σ) : ∀ j, j ≤ hiD m k + hiD k m → PBt σ (Nat.lcm m k + 1) (colP f g (hiD m k) (hiD k m) j) := by
  intro j hj
  have ha : hiD m k * m = Nat.lcm m k := hiD_mul
  have hb : hiD k m * k = Nat.lcm m k := by rw [hiD_mul, Nat.lcm_comm]
  have l1 := D.l1
  obtain ⟨_, a1⟩ := D.h1
  obtain ⟨_, b1⟩ := D.w1
  have pf : ∀ i, i ≤ hiD m k → PBt σ (Nat.lcm m k + 1) (f.pw i) := fun i hi => by
    have h1 : i * m ≤ hiD m k * m := Nat.mul_le_mul_right _ hi
    have h3 : i * (γ + 10) ≤ 12 * (γ + 10) := Nat.mul_le_mul_right _ (by omega)
    have z := hf.pw (k := i) (by rw [Nat.mul_add]; omega)
    have l := pw_len (p := f) (k := i)
    rw [D.fl] at l
    exact ⟨by simp at l; omega, (z.mono (n' := σ) (by omega) (Nat.le_refl _)).2⟩
  have pg : ∀ i, i ≤ hiD k m → PBt σ (Nat.lcm m k + 1) (g.pw i) := fun i hi => by
    have h1 : i * k ≤ hiD k m * k := Nat.mul_le_mul_right _ hi
    have h3 : i * (γ + 10) ≤ 12 * (γ + 10) := Nat.mul_le_mul_right _ (by omega)
    have z := hg.pw (k := i) (by rw [Nat.mul_add]; omega)
    have l := pw_len (p := g) (k := i)
    rw [D.gl] at l
    exact ⟨by simp at l; omega, (z.mono (n' := σ) (by omega) (Nat.le_refl _)).2⟩
  unfold colP
  split
  · exact pf j (by omega)
  · split
    · exact pg _ (by omega)
    · exact pf _ (Nat.le_refl _)
theorem cut2O {a b c : MS} {l : NW.Loc} {st : Sto} {N : NW.Loc → Sto → Prop} {R : U → Sto → Prop} (M : NW.Loc → Sto → Prop) (h1 : (sSeq a b l st).To M R) (h2 : ∀ l s, M l s → (c l s).To N R) : (sSeq a (sSeq b c) l st).To N R := by
  rw [to_sSeq] at h1 ⊢
  refine h1.mono (fun l s h => ?_) fun _ _ h => h
  rw [to_sSeq]
  exact h.mono h2 fun _ _ h => h
theorem rw_take {n a : Nat} {f : Nat → Rat} (h : a ≤ n) : (rw_ n f).take a = rw_ a f := by
  refine List.ext_getElem? fun j => ?_
  rw [List.getElem?_take]
  by_cases hj : j < a
  · rw [if_pos hj, rw_get hj, rw_get (by omega)]
  · rw [if_neg hj, List.getElem?_eq_none (by simp; omega)]
theorem cut_fromO {xs : List PyData} {k : Nat} : NW.cutD xs (some (k : Int)) none = xs.drop k := by
  unfold NW.cutD
  rw [HT.sIx_nat, HT.sIx_none, List.take_of_length_le (by simp)]
  by_cases h : k ≤ xs.length
  · rw [Nat.min_eq_left h]
  · rw [Nat.min_eq_right (by omega), List.drop_eq_nil_of_le (Nat.le_refl _), List.drop_eq_nil_of_le (by omega)]
def bOut (σ c : Nat) : Nat := (σ + 7) * c + 2 * σ + 7
theorem common_outer_to {f g : Pol} {m k γ σ : Nat} (D : Dg2 f g m k) (hf : PBt γ (m + 1) f) (hg : PBt γ (k + 1) g) (hγ : γ ≤ 20000) (hσ : 12 * (γ + 10) + 1 ≤ σ) (hs1 : bOut σ (hiD m k + hiD k m) ≤ 240000) (hs2 : (hiD m k + hiD k m) * bOut σ (hiD m k + hiD k m) ≤ 399000) :
    (m_common_outer [polyD f, polyD g]).To fun d => OutT f g (hiD m k) (hiD k m) (Nat.lcm m k + 1) (bOut σ (hiD m k + hiD k m)) d := by
  have l1 := D.l1
  obtain ⟨a0, a1⟩ := D.h1
  obtain ⟨b0, b1⟩ := D.w1
  have csz := colP_sz D hf hg hσ
  have shp : ∀ P : PyData → Prop, P (.tuple [.int (Nat.lcm m k : Nat), .int (hiD m k : Nat), .int (hiD k m : Nat)]) → (m_shape [polyD f, polyD g]).To P := fun P => shape_to D
  have col : ∀ P : PyData → Prop, P (.tuple [.list (colsL f g (hiD m k) (hiD k m)), polyD (f.pw (hiD m k))]) → (m_columns [polyD f, polyD g]).To P := fun P => columns_to D hf hg hγ
  unfold m_common_outer
  rw [pure_to]
  unfold b_common_outer
  generalize hA : hiD m k = A at *
  generalize hB : hiD k m = B at *
  generalize hN : Nat.lcm m k = N at *
  generalize hβ : bOut σ (A + B) = β at *
  refine cut (fun l st => l = [some (.d (polyD f)), some (.d (polyD g)), some (.d (.int (N : Nat))), some (.d (.int (A : Nat))), some (.d (.int (B : Nat))), none, none, none, none, none, none, none, none, none] ∧ st = ⟨none, []⟩) ?_ ?_
  · simp [startL]
    refine shp _ ?_
    simp
  rintro l st ⟨hL, hS⟩
  refine cut (fun l st => l = [some (.d (polyD f)), some (.d (polyD g)), some (.d (.int (N : Nat))), some (.d (.int (A : Nat))), some (.d (.int (B : Nat))), some (.d (.list (colsL f g A B))), some (.d (polyD (f.pw A))), none, none, none, none, none, none, none] ∧ st = ⟨none, []⟩) ?_ ?_
  · simp [hL, hS]
    refine col _ ?_
    simp
  clear hL hS
  rintro l st ⟨hL, hS⟩
  obtain ⟨M, hM⟩ : ∃ M : Nat → Nat → Rat, M = fun e j => (colP f g A B j).co e := ⟨_, rfl⟩
  refine cut2O (fun l st => ∃ v8, l = [some (.d (polyD f)), some (.d (polyD g)), some (.d (.int (N : Nat))), some (.d (.int (A : Nat))), some (.d (.int (B : Nat))), some (.d (.list (colsL f g A B))), some (.d (polyD (f.pw A))), some (.ref 0), v8, none, none, none, none, none] ∧ st = ⟨none, [.lst ((List.range (N + 1)).map fun i => PyData.tuple [.tuple (rw_ (A + B) (M i)), fracD (M i (A + B))])]⟩) ?_ ?_
  · simp [hL, hS]
    refine ⟨by unfold rOk; simp; omega, ?_⟩
    obtain ⟨I, hI⟩ : ∃ I : Nat → NW.Loc → Sto → Prop, ∀ i l s, I i l s ↔ ∃ v8, l = [some (.d (polyD f)), some (.d (polyD g)), some (.d (.int (N : Nat))), some (.d (.int (A : Nat))), some (.d (.int (B : Nat))), some (.d (.list (colsL f g A B))), some (.d (polyD (f.pw A))), some (.ref 0), v8, none, none, none, none, none] ∧ s = ⟨none, [.lst ((List.range i).map fun i => PyData.tuple [.tuple (rw_ (A + B) (M i)), fracD (M i (A + B))])]⟩ := ⟨_, fun _ _ _ => Iff.rfl⟩
    refine for_ix I (fun i l s h => by obtain ⟨_, _, rfl⟩ := (hI _ _ _).mp h; exact chk_nil) ((hI _ _ _).mpr ⟨none, rfl, rfl⟩) ?_ ?_
    · rintro i x l s e hi
      obtain ⟨v8, rfl, rfl⟩ := (hI _ _ _).mp hi
      obtain ⟨hin, rfl⟩ := rangeD_get e
      rw [show ((0 : Int) + (i : Int)) = (i : Int) by omega]
      simp
      refine ⟨by unfold colsL; simp; omega, ?_⟩
      refine lc_mapA (f := fun j => polyD (colP f g A B j)) (g := fun j => fracD (M i j)) chk_nil (fun j hj => ?_) ?_
      · simp [wipeL]
        refine fraction_at_to (q9 := True) trivial ?_
        rw [hM]
      · refine fraction_at_to (q9 := True) trivial ?_
        refine ⟨_, rfl, by simp; omega, (hI _ _ _).mpr ⟨_, rfl, ?_⟩⟩
        rw [List.range_succ, List.map_append, hM]
        dsimp only
        rw [colP_due]
        rfl
    · intro l s hi
      rw [rangeD_len] at hi
      obtain ⟨v8, rfl, rfl⟩ := (hI _ _ _).mp hi
      exact ⟨⟨_, rfl⟩, rfl⟩
  clear hL hS
  rintro l st ⟨v8, hL, hS⟩
  have sol := solved_toB (n := N + 1) (m := A + B) (τ := σ) (M := M) (T := fun e j => (colP f g A B j).ts.getD e 0) (b := fun j => (colP f g A B j).b) (by omega) (by omega) (by omega) (by rw [← hβ] at hs1; unfold bOut at hs1; exact hs1)
    (fun e he j hj => by rw [hM, ← divInt_div]; rfl) (fun e he j hj => (csz j (by omega)).get e) (fun j hj => ⟨(colP f g A B j).hb, (csz j (by omega)).2.1⟩)
  rw [show (σ + 7) * (A + B) + 2 * σ + 7 = β from hβ] at sol
  refine cut (fun l st => ∃ v8, ((∃ x : Nat → Rat, (∀ i, i < N + 1 → sm (A + B) (fun j => M i j * x j) = M i (A + B)) ∧ (∀ j, j < A + B → FB β (x j)) ∧ l = [some (.d (polyD f)), some (.d (polyD g)), some (.d (.int (N : Nat))), some (.d (.int (A : Nat))), some (.d (.int (B : Nat))), some (.d (.list (colsL f g A B))), some (.d (polyD (f.pw A))), some (.ref 0), v8, some (.d (.str "numbers")), some (.d (.tuple (rw_ (A + B) x))), none, none, none]) ∨
      (∃ y : Nat → Rat, ((∀ j, j < A + B → sm (N + 1) (fun r => y r * M r j) = 0) ∧ sm (N + 1) (fun r => y r * M r (A + B)) ≠ 0) ∧ (∀ r, r < N + 1 → FB β (y r)) ∧ l = [some (.d (polyD f)), some (.d (polyD g)), some (.d (.int (N : Nat))), some (.d (.int (A : Nat))), some (.d (.int (B : Nat))), some (.d (.list (colsL f g A B))), some (.d (polyD (f.pw A))), some (.ref 0), v8, some (.d (.str "weights")), some (.d (.tuple (rw_ (N + 1) y))), none, none, none])) ∧ ∃ os, st = ⟨none, os⟩) ?_ ?_
  · simp [hL, hS]
    refine sol.mono fun d hd => ?_
    rcases hd with ⟨x, rfl, h1, h2⟩ | ⟨y, rfl, h1, h2⟩
    · simp
      exact ⟨v8, .inl ⟨x, h1, h2, rfl, rfl⟩⟩
    · simp
      exact ⟨v8, .inr ⟨y, h1, h2, rfl, rfl⟩⟩
  clear hL hS
  rintro l st ⟨v8, hd, os, hS⟩
  rcases hd with ⟨x, h1, h2, hL⟩ | ⟨y, h1, h2, hL⟩
  · simp [hL, hS]
    rw [cutD_takeN, cut_fromO, rw_take (show A ≤ A + B by omega), rw_drop]
    have he := (rows_poly (n := N + 1) (x := x) (fun j hj => (csz j hj).1)).mp (fun e he => by
      have := h1 e he
      rw [hM] at this
      exact this)
    have hu := out_iff.mp he
    have e1 : PyData.tuple [.int (-1), .int 1] = fracD (-1) := rfl
    refine ⟨by simp; omega, ?_⟩
    refine lc_mapA (f := fun j => fracD (x j)) (g := fun j => fracD (-x j)) chk_nil (fun j hj => ?_) ?_
    · have hj := List.mem_range.mp hj
      simp [wipeL]
      rw [e1]
      refine multipliedx (p := -1) (FB.neg (FB.one (n := 1) (by omega))) (h2 j (by omega)) (by omega) ?_
      rw [show (-1 : Rat) * x j = -x j by grind]
    · refine ⟨by simp; omega, ?_⟩
      have b0' : 0 < β := by rw [← hβ]; unfold bOut; omega
      have sz : (A + 1) * β ≤ (A + B) * β := Nat.mul_le_mul_right _ (by omega)
      have sz2 : (B + 1) * β ≤ (A + B) * β := Nat.mul_le_mul_right _ (by omega)
      refine poly_to (qs := (List.range A).map (fun i => -x i) ++ [1]) (n := β) (.inl ?_) (fun q hq => ?_) (by simp; omega) b0' (by omega) (by simp; omega) ?_
      · rw [List.map_append, List.map_map]
        rfl
      · rcases List.mem_append.mp hq with hq | hq
        · obtain ⟨i, hi, rfl⟩ := List.mem_map.mp hq
          exact (h2 i (by have := List.mem_range.mp hi; omega)).neg
        · have : q = 1 := by simpa using hq
          rw [this]
          exact FB.one b0'
      · refine ⟨by simp; omega, ?_⟩
        refine poly_to (qs := 0 :: (List.range B).map fun j => x (A + j)) (n := β) (.inl ?_) (fun q hq => ?_) (by simp; omega) b0' (by omega) (by simp; omega) ?_
        · rw [List.map_cons, List.map_map]
          rfl
        · rcases List.mem_cons.mp hq with rfl | hq
          · exact FB.zero b0'
          · obtain ⟨i, hi, rfl⟩ := List.mem_map.mp hq
            exact h2 (A + i) (by have := List.mem_range.mp hi; omega)
        · exact .inl ⟨x, rfl, hu, h2⟩
  · simp [hL, hS]
    refine .inr ⟨fun hS2 => ?_, y, rfl, ⟨fun j hj => ?_, ?_⟩, h2⟩
    · obtain ⟨x, hx⟩ := outS_iff.mp hS2
      have he := (rows_poly (n := N + 1) (x := x) (fun j hj => (csz j hj).1)).mpr (out_iff.mpr hx)
      refine h1.2 (no_weights (m := A + B) (x := x) h1.1 fun e hen => ?_)
      rw [hM]
      exact he e hen
    · have := h1.1 j hj
      rw [hM] at this
      exact this
    · have := h1.2
      rw [hM] at this
      dsimp only at this
      rw [colP_due] at this
      exact this
end NW
namespace NW
open PySem PySem.Spec PyProof.Rows L2
theorem L_shape_to {f g : Pol} {m k : Nat} {P : PyData → Prop} (D : Dg2 f g m k) (h : P (.tuple [.int (Nat.lcm m k : Nat), .int (hiD m k : Nat), .int (hiD k m : Nat)])) : (m_L_shape [polyD f, polyD g]).To P := by
  have m0 := D.m0
  have m1 := D.m1
  have k0 := D.k0
  have k1 := D.k1
  have fl := D.fl
  have gl := D.gl
  have ef : ((f.ts.length : Int) - 1) = (m : Nat) := by omega
  have eg : ((g.ts.length : Int) - 1) = (k : Nat) := by omega
  have g0 : 0 < Nat.gcd m k := Nat.gcd_pos_of_pos_left k (by omega)
  have mc : mulC (m : Nat) (k : Nat) = true := mulC_small (by omega) (by omega)
  have dv1 : divC (Nat.lcm m k : Nat) (m : Nat) = true := divU (by omega)
  have dv2 : divC (Nat.lcm m k : Nat) (k : Nat) = true := divU (by omega)
  have dv0 : divC ((m : Int) * (k : Int)) (Nat.gcd m k : Nat) = true := divU (by omega)
  have q0 : ((m : Int) * (k : Int)).fdiv (Nat.gcd m k : Nat) = (Nat.lcm m k : Nat) := by
    rw [Int.fdiv_eq_ediv_of_nonneg _ (by omega), ← Int.natCast_mul]
    rfl
  have q1 : ((Nat.lcm m k : Nat) : Int).fdiv (m : Nat) = (hiD m k : Nat) := by
    rw [Int.fdiv_eq_ediv_of_nonneg _ (by omega)]
    rfl
  have q2 : ((Nat.lcm m k : Nat) : Int).fdiv (k : Nat) = (hiD k m : Nat) := by
    rw [Int.fdiv_eq_ediv_of_nonneg _ (by omega), Nat.lcm_comm]
    rfl
  unfold m_L_shape
  rw [pure_to]
  unfold b_L_shape
  simp [startL]
  rw [ef, eg]
  simp [mc]
  refine common_to ?_
  rw [show Int.gcd (m : Int) (k : Int) = Nat.gcd m k from rfl]
  simp [dv0]
  rw [q0]
  simp [dv1, dv2]
  rw [q1, q2]
  exact h
theorem Lprod1_to {t b : Int} {q : Rat} {τ β : Nat} {P : PyData → Prop} (ht : t.natAbs < 2 ^ τ) (hb : b.natAbs < 2 ^ τ) (b0 : b ≠ 0) (hq : FB β q) (hs : τ + β ≤ 999000) (h : P (fracD ((Rat.divInt t b) * q))) : (m_L_product [.tuple [.int t, .int b], fracD q]).To P := by
  obtain ⟨c, d⟩ := hq
  have e1 : mulC t q.num = true := mx ht c (by omega)
  have e3 : mulC b q.den = true := mx hb d (by omega)
  rw [L_product_eq]
  unfold m_multiplied
  rw [pure_to]
  unfold b_multiplied
  simp [startL, fracD, e1, e3]
  refine fraction_toU (Int.mul_ne_zero b0 (den_ne q)) ?_
  have : Rat.divInt (t * q.num) (b * q.den) = Rat.divInt t b * q := by
    have e2 : (q.num : Rat) / ((q.den : Int) : Rat) = q := by rw [← divInt_div]; exact Rat.num_divInt_den q
    rw [divInt_div, divInt_div, Rat.intCast_mul, Rat.intCast_mul]
    have h1 := nat_ne q.den_pos
    have h2 : (b : Rat) ≠ 0 := fun e => b0 (Rat.intCast_eq_zero_iff.mp e)
    have e3 : (t : Rat) * (q.num : Rat) / ((b : Rat) * ((q.den : Int) : Rat)) = (t : Rat) / (b : Rat) * ((q.num : Rat) / ((q.den : Int) : Rat)) := by
      generalize (q.num : Rat) = x
      generalize ((q.den : Int) : Rat) = y at *
      generalize (t : Rat) = u
      generalize (b : Rat) = v at *
      clear e2 e1 e3 c d h hs ht hb b0
      grind
    rw [e3, e2]
  rw [this]
  exact h
theorem L_left_to {p : Pol} {n τ β : Nat} {y : Nat → Rat} {P : PyData → Prop} (hp : PBt τ n p) (hy : ∀ e, e < n → FB β (y e)) (hn : n ≤ 100) (hs : (τ + β + 1) * n ≤ 900000) (h : P (fracD (sm n fun e => y e * p.co e))) : (m_L_left [polyD p, .tuple (rw_ n y)]).To P := by
  unfold m_L_left
  rw [pure_to]
  unfold b_L_left
  simp [startL]
  refine ⟨_, _, ⟨rfl, rfl⟩, _, _, rfl, _, _, rfl, ?_⟩
  have pl := hp.1
  have zl : (zipD (p.ts.map PyData.int) (rw_ n y)).length = p.ts.length := by simp; omega
  obtain ⟨I, hI⟩ : ∃ I : Nat → NW.Loc → Sto → Prop, ∀ i l s, I i l s ↔ ∃ v3 v4 : Option U, l = [some (.d (polyD p)), some (.d (.tuple (rw_ n y))), some (.d (fracD (sm i fun e => y e * p.co e))), v3, v4] ∧ s = ⟨none, []⟩ ∧ FB ((τ + β + 1) * i + 1) (sm i fun e => y e * p.co e) := ⟨_, fun _ _ _ => Iff.rfl⟩
  refine for_ix I (fun i l s h => by obtain ⟨_, _, _, rfl, _⟩ := (hI _ _ _).mp h; exact chk_nil) ((hI _ _ _).mpr ⟨none, none, rfl, rfl, FB.zero (by omega)⟩) ?_ ?_
  · rintro i x l s e hi
    obtain ⟨v3, v4, rfl, rfl, hF⟩ := (hI _ _ _).mp hi
    have hin : i < p.ts.length := by rw [← zl]; exact (List.getElem?_eq_some_iff.mp e).1
    obtain ⟨a, c, ha, hc, rfl⟩ := zipD_get e
    rw [List.getElem?_map, List.getElem?_eq_getElem hin] at ha
    cases ha
    rw [rw_get (by omega)] at hc
    cases hc
    have hle : (τ + β + 1) * (i + 1) ≤ (τ + β + 1) * n := Nat.mul_le_mul_left _ (by omega)
    rw [Nat.mul_add, Nat.mul_one] at hle
    have ec : Rat.divInt p.ts[i] p.b * y i = y i * p.co i := by
      have : p.co i = Rat.divInt p.ts[i] p.b := by
        unfold Pol.co
        rw [List.getD_eq_getElem?_getD, List.getElem?_eq_getElem hin]
        rfl
      rw [this, Rat.mul_comm]
    simp
    refine Lprod1_to (hp.2.2 _ (List.getElem_mem hin)) (by simpa using hp.2.1) (by have := p.hb; omega) (hy i (by omega)) (by omega) ?_
    rw [ec, L_added_eq]
    have fp : FB (τ + β) (y i * p.co i) := (FB.mulm (hy i (by omega)) (co_FB hp)).mono (by omega)
    refine addedx hF fp (by omega) ?_
    refine (hI _ _ _).mpr ⟨_, _, rfl, rfl, ?_⟩
    exact (FB.addm hF fp).mono (by rw [Nat.mul_add]; omega)
  · intro l s hi
    rw [zl] at hi
    obtain ⟨v3, v4, rfl, rfl, hF⟩ := (hI _ _ _).mp hi
    refine ⟨_, rfl, ?_⟩
    have : (sm n fun e => y e * p.co e) = sm p.ts.length fun e => y e * p.co e := by
      obtain ⟨r, rfl⟩ : ∃ r, n = p.ts.length + r := ⟨n - p.ts.length, by omega⟩
      rw [sm_splitO, sm_zero (n := r) fun j _ => by rw [co_zero_of (by omega)]; exact Rat.mul_zero _]
      exact Rat.add_zero _
    rw [← this]
    exact h
theorem L_isp_to {p : Pol} {P : PyData → Prop} (hl : p.ts.length ≤ 1000) (h0 : p.ts ≠ []) (h : P (.bool true)) : (m_L_is_poly_2 [polyD p]).To P := by
  have pb := p.hb
  have pl : 0 < p.ts.length := List.length_pos_iff.mpr h0
  unfold m_L_is_poly_2
  rw [pure_to]
  unfold b_L_is_poly_2
  simp [startL, polyD, h0]
  rw [show NW.cutD [PyData.tuple (p.ts.map PyData.int), PyData.int p.b] (some 1) none = [PyData.int p.b] from cut_fromO (k := 1)]
  refine ⟨by simp; omega, ?_⟩
  refine lc_map (g := fun _ => .bool true) (fun x hx => ?_) ?_
  · have : ∃ i : Int, x = .int i := by
      rcases List.mem_append.mp hx with h | h
      · obtain ⟨i, _, rfl⟩ := List.mem_map.mp h
        exact ⟨i, rfl⟩
      · exact ⟨p.b, by simpa using h⟩
    obtain ⟨i, rfl⟩ := this
    simp [wipeL]
  · refine cAll_yes ?_
    refine .inr ⟨rfl, .inr ⟨pb, ?_⟩⟩
    refine L_poly_to (q9 := True) (.inr rfl) pb trivial (by omega) ?_
    have e2 : mk p.ts p.b = p := Pol.ext_co fun k => by rw [co_mk pb]; rfl
    rw [e2]
    exact ⟨⟨shaped_poly, shaped_poly⟩, by
      have : PyData.eqv (polyD p) (polyD p) = true := eqv_poly.mpr rfl
      rw [show PyData.eqv (polyD p) (PyData.tuple [.tuple (p.ts.map PyData.int), .int p.b]) = true from this]
      exact h⟩
theorem o1L {t b : Int} (h0 : (b : Rat) ≠ 0) (h : (1 : Rat) = (t : Rat) / (b : Rat)) : t = b := by
  have : (t : Rat) = (b : Rat) := by grind
  exact Rat.intCast_inj.mp this
theorem o2L {t b : Int} (h0 : (b : Rat) ≠ 0) (h : (0 : Rat) = (t : Rat) / (b : Rat)) : t = 0 := by
  have : (t : Rat) = ((0 : Int) : Rat) := by
    show (t : Rat) = 0
    grind
  exact Rat.intCast_inj.mp this
theorem L_shown_to {f g u v : Pol} {m k γ ν : Nat} (D : Dg2 f g m k) (hf : PBt γ (m + 1) f) (hg : PBt γ (k + 1) g) (ul : u.ts.length = hiD m k + 1) (vl : v.ts.length = hiD k m + 1) (u1 : u.co (hiD m k) = 1) (v0 : v.co 0 = 0)
    (hu : PBt ν (hiD m k + 1) u) (hv : PBt ν (hiD k m + 1) v) (n0 : 0 < ν) (hs : 12 * (γ + 11) + 2 * ν + γ + 11 ≤ 999990) (e : u.comp f = v.comp g) : (m_L_outer_shown [polyD f, polyD g, polyD u, polyD v]).To fun d => d = .bool true := by
  obtain ⟨a0, a1⟩ := D.h1
  obtain ⟨b0, b1⟩ := D.w1
  have m1 := D.m1
  have k1 := D.k1
  have shp : ∀ P : PyData → Prop, P (.tuple [.int (Nat.lcm m k : Nat), .int (hiD m k : Nat), .int (hiD k m : Nat)]) → (m_L_shape [polyD f, polyD g]).To P := fun P => L_shape_to D
  have ub := u.hb
  have vb := v.hb
  unfold m_L_outer_shown
  rw [pure_to]
  unfold b_L_outer_shown
  generalize hA : hiD m k = A at *
  generalize hB : hiD k m = B at *
  refine cut (fun l st => l = [some (.d (polyD f)), some (.d (polyD g)), some (.d (polyD u)), some (.d (polyD v)), some (.d (.int (Nat.lcm m k : Nat))), some (.d (.int (A : Nat))), some (.d (.int (B : Nat)))] ∧ st = ⟨none, []⟩) ?_ ?_
  · simp [startL]
    refine shp _ ?_
    simp
  rintro l st ⟨hL, hS⟩
  refine cut (fun l st => l = [some (.d (polyD f)), some (.d (polyD g)), some (.d (polyD u)), some (.d (polyD v)), some (.d (.int (Nat.lcm m k : Nat))), some (.d (.int (A : Nat))), some (.d (.int (B : Nat)))] ∧ st = ⟨none, []⟩) ?_ ?_
  · simp [hL, hS, ul, vl]
    have hA1 : A < u.ts.length := by omega
    have uA : u.ts[A]? = some u.ts[A] := List.getElem?_eq_getElem hA1
    have hv0 : 0 < v.ts.length := by omega
    have ue : u.ts[A] = (u.b : Int) := by
      have h1 : u.co A = Rat.divInt u.ts[A] u.b := by
        unfold Pol.co
        rw [List.getD_eq_getElem?_getD, uA]
        rfl
      rw [u1, divInt_div] at h1
      exact o1L (by exact_mod_cast (show (u.b : Int) ≠ 0 by omega)) h1
    have ve : v.ts[0] = 0 := by
      have h1 : v.co 0 = Rat.divInt v.ts[0] v.b := by
        unfold Pol.co
        rw [List.getD_eq_getElem?_getD, List.getElem?_eq_getElem hv0]
        rfl
      rw [v0, divInt_div] at h1
      exact o2L (by exact_mod_cast (show (v.b : Int) ≠ 0 by omega)) h1
    refine ⟨.int u.ts[A], ?_, rfl, ?_, ve⟩
    · rw [idx_last (by omega), show A + 1 - 1 = A by omega]
      simp [uA]
    · rw [ue]
      simp [PyData.eqv]
  clear hL hS
  rintro l st ⟨hL, hS⟩
  simp [hL, hS]
  refine of3 n0 hu hf (by omega) ?_ ?_ ?_
  · have : A * (m + 1) ≤ 12 * 13 := Nat.mul_le_mul a1 (by omega)
    rw [Nat.add_sub_cancel]
    omega
  · have : (A + 1 - 2) * (γ + 11) ≤ 12 * (γ + 11) := Nat.mul_le_mul_right _ (by omega)
    omega
  refine of3 n0 hv hg (by omega) ?_ ?_ ?_
  · have : B * (k + 1) ≤ 12 * 13 := Nat.mul_le_mul b1 (by omega)
    rw [Nat.add_sub_cancel]
    omega
  · have : (B + 1 - 2) * (γ + 11) ≤ 12 * (γ + 11) := Nat.mul_le_mul_right _ (by omega)
    omega
  rw [e]
  exact ⟨⟨shaped_poly, shaped_poly⟩, eqv_poly.mpr rfl⟩
theorem L_barred_to {f g : Pol} {m k γ σ β : Nat} {y : Nat → Rat} (D : Dg2 f g m k) (hf : PBt γ (m + 1) f) (hg : PBt γ (k + 1) g) (hγ : γ ≤ 20000) (hσ : 12 * (γ + 10) + 1 ≤ σ) (hy : ∀ e, e < Nat.lcm m k + 1 → FB β (y e)) (hs : (σ + β + 1) * 13 ≤ 900000)
    (h1 : ∀ j, j < hiD m k + hiD k m → sm (Nat.lcm m k + 1) (fun e => y e * (colP f g (hiD m k) (hiD k m) j).co e) = 0) (h2 : sm (Nat.lcm m k + 1) (fun e => y e * (f.pw (hiD m k)).co e) ≠ 0) : (m_L_barred [polyD f, polyD g, .tuple (rw_ (Nat.lcm m k + 1) y)]).To fun d => d = .bool true := by
  have m0 := D.m0
  have k0 := D.k0
  have m1 := D.m1
  have k1 := D.k1
  have l1 := D.l1
  obtain ⟨a0, a1⟩ := D.h1
  obtain ⟨b0, b1⟩ := D.w1
  have ha : hiD m k * m ≤ 12 := by rw [hiD_mul]; exact D.l1
  have hb : hiD k m * k ≤ 12 := by rw [hiD_mul, Nat.lcm_comm]; exact D.l1
  have shp : ∀ P : PyData → Prop, P (.tuple [.int (Nat.lcm m k : Nat), .int (hiD m k : Nat), .int (hiD k m : Nat)]) → (m_L_shape [polyD f, polyD g]).To P := fun P => L_shape_to D
  have csz := colP_sz D hf hg hσ
  have pf : ∀ i, i ≤ hiD m k → ∀ P : PyData → Prop, P (polyD (f.pw i)) → (m_L_power [polyD f, .int i]).To P := fun i hi P hP => by
    have : i * (m + 1) ≤ 24 := by
      have h1 : i * m ≤ hiD m k * m := Nat.mul_le_mul_right _ hi
      rw [Nat.mul_add]
      omega
    have h2 : (i - 1) * (γ + 10) ≤ 12 * 20010 := Nat.mul_le_mul (by omega) (by omega)
    exact L_powerx hf (by omega) (by omega) (by omega) hP
  have pg : ∀ i, i ≤ hiD k m → ∀ P : PyData → Prop, P (polyD (g.pw i)) → (m_L_power [polyD g, .int i]).To P := fun i hi P hP => by
    have : i * (k + 1) ≤ 24 := by
      have h1 : i * k ≤ hiD k m * k := Nat.mul_le_mul_right _ hi
      rw [Nat.mul_add]
      omega
    have h2 : (i - 1) * (γ + 10) ≤ 12 * 20010 := Nat.mul_le_mul (by omega) (by omega)
    exact L_powerx hg (by omega) (by omega) (by omega) hP
  unfold m_L_barred
  rw [pure_to]
  unfold b_L_barred
  generalize hA : hiD m k = A at *
  generalize hB : hiD k m = B at *
  generalize hN : Nat.lcm m k = N at *
  have hle : (σ + β + 1) * (N + 1) ≤ 900000 := Nat.le_trans (Nat.mul_le_mul_left _ (by omega)) hs
  refine cut (fun l st => l = [some (.d (polyD f)), some (.d (polyD g)), some (.d (.tuple (rw_ (N + 1) y))), some (.d (.int (N : Nat))), some (.d (.int (A : Nat))), some (.d (.int (B : Nat))), none, none, none] ∧ st = ⟨none, []⟩) ?_ ?_
  · simp [startL]
    refine shp _ ?_
    simp
  rintro l st ⟨hL, hS⟩
  refine cut2O (fun l st => ∃ v7 v8, l = [some (.d (polyD f)), some (.d (polyD g)), some (.d (.tuple (rw_ (N + 1) y))), some (.d (.int (N : Nat))), some (.d (.int (A : Nat))), some (.d (.int (B : Nat))), some (.d (.list (colsL f g A B))), v7, v8] ∧ st = ⟨none, []⟩) ?_ ?_
  · simp [hL, hS]
    refine ⟨by unfold rOk; simp; omega, by omega, ?_⟩
    rw [range_map]
    refine lc_mapA (f := fun j : Nat => PyData.int j) (g := fun j => polyD (f.pw j)) chk_nil (fun i hi => ?_) ?_
    · have hi := List.mem_range.mp hi
      simp [wipeL]
      exact pf i (by omega) _ (by simp)
    · refine ⟨1, _, ⟨rfl, rfl⟩, ⟨rfl, by unfold rOk; simp; omega⟩, by omega, ?_⟩
      rw [show ((B : Int) + 1 - 1).toNat = B by omega, rangeD_map]
      refine lc_mapA (f := fun j : Nat => PyData.int (1 + j)) (g := fun j => polyD (g.pw (j + 1))) chk_nil (fun i hi => ?_) ?_
      · have hi := List.mem_range.mp hi
        simp [wipeL]
        rw [show (1 : Int) + (i : Int) = ((i + 1 : Nat) : Int) by omega]
        exact pg (i + 1) (by omega) _ (by simp)
      · exact ⟨by simp; omega, colsL_eq, rfl⟩
  clear hL hS
  rintro l st ⟨v7, v8, hL, hS⟩
  simp [hL, hS]
  have z : PyData.tuple [.int 0, .int 1] = fracD 0 := rfl
  refine ⟨by unfold colsL; simp; omega, ?_⟩
  refine lc_mapA (f := fun j => polyD (colP f g A B j)) (g := fun _ => .bool true) chk_nil (fun j hj => ?_) (cAll_rng ?_)
  · have hj := List.mem_range.mp hj
    simp [wipeL]
    refine L_left_to (csz j (by omega)) hy (by omega) hle ?_
    rw [h1 j hj, z]
    simp
  · simp
    refine pf A (Nat.le_refl A) _ ?_
    have cd := csz (A + B) (Nat.le_refl _)
    rw [colP_due] at cd
    refine L_left_to cd hy (by omega) hle ?_
    rw [z]
    simpa using h2
end NW
namespace NW
open PySem PySem.Spec PyProof.Rows L2
@[simp] theorem sh_outer : SeqAt.shaped (.str ("outer" : PySem.Str)) = true := by decide +kernel
@[simp] theorem sh_none2 : SeqAt.shaped (.str ("none" : PySem.Str)) = true := by decide +kernel
@[simp] theorem eq_oo : PyData.eqv (.str ("outer" : PySem.Str)) (.str ("outer" : PySem.Str)) = true := by decide +kernel
@[simp] theorem eq_nn2 : PyData.eqv (.str ("none" : PySem.Str)) (.str ("none" : PySem.Str)) = true := by decide +kernel
@[simp] theorem eq_on : PyData.eqv (.str ("outer" : PySem.Str)) (.str ("none" : PySem.Str)) = false := by decide +kernel
@[simp] theorem eq_no2 : PyData.eqv (.str ("none" : PySem.Str)) (.str ("outer" : PySem.Str)) = false := by decide +kernel
theorem in_outer {st : Sto} : fIn true (.d (.str ("outer" : PySem.Str))) (.d (.tuple [.str ("outer" : PySem.Str), .str ("none" : PySem.Str)])) st = .ok (.d (.bool false)) st := by
  show (if (flatD (.str ("outer" : PySem.Str)) && [PyData.str ("outer" : PySem.Str), .str ("none" : PySem.Str)].all flatD) = true then Res.ok (U.d (.bool (if true = true then !([PyData.str ("outer" : PySem.Str), .str ("none" : PySem.Str)].any fun y => PyData.eqv y (.str ("outer" : PySem.Str))) else [PyData.str ("outer" : PySem.Str), .str ("none" : PySem.Str)].any fun y => PyData.eqv y (.str ("outer" : PySem.Str))))) st else .no) = _
  rw [if_pos (show (flatD (.str ("outer" : PySem.Str)) && [PyData.str ("outer" : PySem.Str), .str ("none" : PySem.Str)].all flatD) = true from by decide +kernel)]
  simp
theorem in_none {st : Sto} : fIn true (.d (.str ("none" : PySem.Str))) (.d (.tuple [.str ("outer" : PySem.Str), .str ("none" : PySem.Str)])) st = .ok (.d (.bool false)) st := by
  show (if (flatD (.str ("none" : PySem.Str)) && [PyData.str ("outer" : PySem.Str), .str ("none" : PySem.Str)].all flatD) = true then Res.ok (U.d (.bool (if true = true then !([PyData.str ("outer" : PySem.Str), .str ("none" : PySem.Str)].any fun y => PyData.eqv y (.str ("none" : PySem.Str))) else [PyData.str ("outer" : PySem.Str), .str ("none" : PySem.Str)].any fun y => PyData.eqv y (.str ("none" : PySem.Str))))) st else .no) = _
  rw [if_pos (show (flatD (.str ("none" : PySem.Str)) && [PyData.str ("outer" : PySem.Str), .str ("none" : PySem.Str)].all flatD) = true from by decide +kernel)]
  simp
theorem uP_sz {a β : Nat} {x : Nat → Rat} (hx : ∀ j, j < a → FB β (x j)) (h0 : 0 < β) : PBt (β + 1 + (a + 1) * β) (a + 1) (uP a x) := by
  have := PBt.ofC (qs := (List.range a).map (fun i => -x i) ++ [1]) (n := β) (fun q hq => by
    rcases List.mem_append.mp hq with hq | hq
    · obtain ⟨i, hi, rfl⟩ := List.mem_map.mp hq
      exact (hx i (List.mem_range.mp hi)).neg
    · have : q = 1 := by simpa using hq
      rw [this]
      exact FB.one h0) h0
  simpa [uP] using this
theorem vP_sz {a b β : Nat} {x : Nat → Rat} (hx : ∀ j, j < a + b → FB β (x j)) (h0 : 0 < β) : PBt (β + 1 + (b + 1) * β) (b + 1) (vP a b x) := by
  have := PBt.ofC (qs := 0 :: (List.range b).map fun j => x (a + j)) (n := β) (fun q hq => by
    rcases List.mem_cons.mp hq with rfl | hq
    · exact FB.zero h0
    · obtain ⟨i, hi, rfl⟩ := List.mem_map.mp hq
      exact hx _ (by have := List.mem_range.mp hi; omega)) h0
  simpa [vP] using this
theorem right32_to {f g : Pol} {m k γ σ β : Nat} {d : PyData} (D : Dg2 f g m k) (hf : PBt γ (m + 1) f) (hg : PBt γ (k + 1) g) (hγ : γ ≤ 20000) (hσ : 12 * (γ + 10) + 1 ≤ σ) (hs : (σ + β + 1) * 13 ≤ 900000) (b0 : 0 < β) (hs2 : 12 * (γ + 11) + 2 * (β + 1 + 13 * β) + γ + 11 ≤ 999990)
    (h : OutT f g (hiD m k) (hiD k m) (Nat.lcm m k + 1) β d) : (m_L_right_32 [polyD f, polyD g, d]).To fun v => v = .bool true := by
  obtain ⟨a0, a1⟩ := D.h1
  obtain ⟨w0, w1⟩ := D.w1
  have l1 := D.l1
  unfold m_L_right_32
  rw [pure_to]
  unfold b_L_right_32
  rcases h with ⟨x, rfl, e, hx⟩ | ⟨ns, y, rfl, ⟨h1, h2⟩, hy⟩
  · have vl := wide_len D.fl D.gl D.k0 D.m0 (by rw [hiD_mul, hiD_mul, Nat.lcm_comm]) e a0
    have us : PBt (β + 1 + 13 * β) (hiD m k + 1) (uP (hiD m k) x) := (uP_sz (fun j hj => hx j (by omega)) b0).mono (by have := Nat.mul_le_mul_right β (show hiD m k + 1 ≤ 13 by omega); omega) (Nat.le_refl _)
    have vs : PBt (β + 1 + 13 * β) (hiD k m + 1) (vP (hiD m k) (hiD k m) x) := (vP_sz hx b0).mono (by have := Nat.mul_le_mul_right β (show hiD k m + 1 ≤ 13 by omega); omega) (Nat.le_refl _)
    have sh := L_shown_to D hf hg len_uP vl co_uP co_vP0 us vs (by omega) hs2 e
    have i1 : ∀ P : PyData → Prop, P (.bool true) → (m_L_is_poly_2 [polyD (uP (hiD m k) x)]).To P := fun P => L_isp_to (by rw [len_uP]; omega) (by intro z; have := congrArg List.length z; rw [len_uP] at this; simp at this)
    have i2 : ∀ P : PyData → Prop, P (.bool true) → (m_L_is_poly_2 [polyD (vP (hiD m k) (hiD k m) x)]).To P := fun P => L_isp_to (by rw [vl]; omega) (by intro z; have := congrArg List.length z; rw [vl] at this; simp at this)
    generalize uP (hiD m k) x = u at *
    generalize vP (hiD m k) (hiD k m) x = v at *
    simp [startL]
    rw [in_outer]
    refine ⟨rfl, i1 _ ⟨rfl, i2 _ ⟨rfl, sh⟩⟩⟩
  · have br := L_barred_to D hf hg hγ hσ hy hs h1 h2
    simp [startL]
    rw [in_none]
    refine ⟨rfl, by omega, ?_⟩
    refine frac_all (fun j hj => ?_) (cAll_rng ⟨rfl, br⟩)
    simp [wipeL]
    exact L_isfrac_to rfl
end NW
namespace NW
open PySem PySem.Spec PyProof.Rows L2
theorem mono_mk {q : Rat} {k : Nat} : NW.mk (List.replicate k 0 ++ [q.num]) q.den = mono q k := Pol.ext_co fun j => by
  rw [co_mk q.den_pos, co_mono, List.getD_eq_getElem?_getD]
  rcases Nat.lt_trichotomy j k with h | h | h
  · rw [List.getElem?_append_left (by simpa using h), if_neg (by omega), List.getElem?_replicate, if_pos h]; simp
  · rw [List.getElem?_append_right (by simp; omega), if_pos h]
    simp [h, Rat.num_divInt_den]
  · rw [List.getElem?_eq_none (by simp; omega), if_neg (by omega)]; simp
structure Inn (β : Nat) (f h : Pol) (m s n : Nat) (cs : List Pol) (i k : Nat) (r q : Pol) : Prop where
  lo : s ≤ k + 1
  hi : k ≤ n - i * s
  rs : RS (DD f m n) f.b (2 ^ β) (2 ^ i * 2 ^ (β + 143)) (n - i * s) k r
  len : s ≤ k → r.ts.length = k + 1
  qo : Qo (DD f m n) f.b (2 ^ β) (2 ^ i * 2 ^ (β + 143)) (n - i * s) s k q
  ev : ∀ x, (hzp h (cs.drop i)).ev x = q.ev x * h.ev x + r.ev x
structure DgS (β : Nat) (f h : Pol) (m s n : Nat) (cs : List Pol) : Prop where
  F : Sm β f n
  hn : n = m * s
  hm : 0 < m
  hs : 0 < s
  ap : Ap β f m s n h cs
section
variable {β : Nat} {f h : Pol} {m s n : Nat} {cs : List Pol}
theorem DgS.h0 (A : DgS β f h m s n cs) : h.ts ≠ [] := fun e => by have := A.ap.cd.len; rw [e] at this; simp at this
theorem DgS.hl (A : DgS β f h m s n cs) : h.ts.length = s + 1 := A.ap.cd.len
theorem DgS.count (A : DgS β f h m s n cs) : cs.length = m + 1 := A.ap.count A.F.len A.hn A.hs
theorem DgS.mn (A : DgS β f h m s n cs) : m ≤ n ∧ s ≤ n := ⟨by rw [A.hn]; exact Nat.le_mul_of_pos_right _ A.hs, by rw [A.hn]; exact Nat.le_mul_of_pos_left _ A.hm⟩
theorem DgS.is (A : DgS β f h m s n cs) {i : Nat} (hi : i ≤ m) : i * s ≤ n ∧ n - i * s = (m - i) * s := by
  have a : i * s ≤ m * s := Nat.mul_le_mul_right _ hi
  have b : (m - i) * s + i * s = m * s := by rw [← Nat.add_mul]; congr 1; omega
  have := A.hn
  exact ⟨by omega, by omega⟩
theorem DgS.left (A : DgS β f h m s n cs) {i : Nat} (hi : i ≤ m) : (hzp h (cs.drop i)).ts.length = (m - i) * s + 1 := by
  have hfn : f.ts ≠ [] := fun e => by have := A.F.len; rw [e] at this; simp at this
  obtain ⟨ds, c, e, hc, hfl, hcl⟩ := A.ap.dg.length A.hl A.hs hfn
  have cl := A.count
  have dl : ds.length = m := by rw [e] at cl; simpa using cl
  have c1 : c.ts.length = 1 := by
    have := A.F.len
    have := A.hn
    rw [dl] at hfl
    omega
  have e2 : cs.drop i = ds.drop i ++ [c] := by rw [e, List.drop_append_of_le_length (by omega)]
  rw [e2, hzp_len A.hl A.hs hc fun d hd => A.ap.dg.lt d (by rw [e]; exact List.mem_append_left _ (List.mem_of_mem_drop hd)), List.length_drop, dl, c1]
theorem DgS.all (A : DgS β f h m s n cs) : hzp h (cs.drop 0) = f ∧ hzp h (cs.drop (m + 1)) = Pol.zero := by
  refine ⟨by rw [List.drop_zero, A.ap.dg.eq], ?_⟩
  rw [List.drop_of_length_le (by rw [A.count]; omega)]
  rfl
theorem DgS.sz (A : DgS β f h m s n cs) (i : Nat) : PBt (17 * β + 2601) 17 (hzp h (cs.drop i)) := A.ap.suf i
theorem DgS.szh (A : DgS β f h m s n cs) : PBt (16 * β + 2401) (s + 1) h := by
  have hB : ∀ j, (f.ts.getD j 0).natAbs ≤ 2 ^ β := fun j => Nat.le_of_lt (A.F.sz.get j)
  have := A.mn
  have := A.F.le
  have hEs1 : (β + 143) * s ≤ 16 * β + 2288 := Nat.le_trans (Nat.mul_le_mul_left _ (show s ≤ 16 by omega)) (by omega)
  exact (A.ap.cd.sz (by omega) (by omega) hB).mono (by omega) (Nat.le_refl _)
theorem DgS.digit (A : DgS β f h m s n cs) {i : Nat} (hi : i ≤ m) : ∃ c, cs[i]? = some c ∧ c.ts.length ≤ s ∧ PBt (17 * β + 2601) s c ∧ hzp h (cs.drop i) = hzp h (cs.drop (i + 1)) * h + c := by
  have hlt : i < cs.length := by rw [A.count]; omega
  refine ⟨cs[i], List.getElem?_eq_getElem hlt, ?_, A.ap.sz _ (List.getElem_mem hlt), ?_⟩
  · have := A.ap.dg.lt _ (List.getElem_mem hlt)
    have := A.hl
    omega
  · rw [List.drop_eq_getElem_cons hlt]; rfl
theorem DgS.bits (A : DgS β f h m s n cs) : ∃ H, W s (DD f m n) 1 H h ∧ H.getD 0 0 = 1 ∧ WB 1 (2 ^ (β + 143)) H ∧ DD f m n ≤ 2 ^ (β + 143) ∧ (∀ k, k ≤ n → f.b * DD f m n ^ k < 2 ^ (17 * β + 2600)) ∧ ∀ i, i ≤ m → 2 ^ β * (2 * (2 ^ i * 2 ^ (β + 143))) ^ (n - i * s) < 2 ^ (17 * β + 2600) := by
  have hB : ∀ j, (f.ts.getD j 0).natAbs ≤ 2 ^ β := fun j => Nat.le_of_lt (A.F.sz.get j)
  obtain ⟨mn1, mn2⟩ := A.mn
  have h12 := A.F.le
  obtain ⟨H, w, dm, wb, z, eqs⟩ := A.ap.cd
  have hE := CS.bits (β := β) (N := 0) (m := m) (k := s - 1) (by omega) (by omega)
  have hD : DD f m n ≤ 2 ^ (9 * (s - 1)) * (2 ^ β * (m * m)) := by
    unfold DD
    refine Nat.le_trans ?_ (Nat.le_mul_of_pos_left _ (Nat.two_pow_pos _))
    rw [Nat.mul_comm]
    exact Nat.mul_le_mul_right _ (hB n)
  have hD2 := Nat.le_trans hD hE
  refine ⟨H, w, dm.1, wb.mono (Nat.le_refl _) hE, hD2, fun k hk => ?_, fun i hi => ?_⟩
  · refine Nat.lt_of_lt_of_le (Nat.mul_lt_mul_of_lt_of_le A.F.sz.2.1 (Nat.pow_le_pow_left hD2 k) (Nat.pow_pos (Nat.two_pow_pos _))) ?_
    rw [← Nat.pow_mul, two_pow_mul]
    have : (β + 143) * k ≤ 16 * β + 2288 := Nat.le_trans (Nat.mul_le_mul_left _ (show k ≤ 16 by omega)) (by omega)
    exact pw_le (by omega)
  · obtain ⟨a1, a2⟩ := A.is hi
    have a : 2 * (2 ^ i * 2 ^ (β + 143)) = 2 ^ (β + 144 + i) := by
      rw [two_pow_mul, ← Nat.pow_succ']; congr 1; omega
    have l2 := mul12s (β := β) s (by omega) A.hs i (by omega) n h12 a1
    rw [a, ← Nat.pow_mul, two_pow_mul]
    exact Nat.pow_lt_pow_right (by omega) (by omega)
theorem DgS.rs (A : DgS β f h m s n cs) : ∀ {i : Nat}, i ≤ m → RS (DD f m n) f.b (2 ^ β) (2 ^ i * 2 ^ (β + 143)) (n - i * s) (n - i * s) (hzp h (cs.drop i))
  | 0, _ => by
    obtain ⟨H, w, h1, wb, hD, _⟩ := A.bits
    rw [A.all.1, Nat.zero_mul, Nat.sub_zero, Nat.pow_zero, Nat.one_mul]
    exact RS.of A.F.sz w.D0 hD
  | i + 1, hi => by
    obtain ⟨H, w, h1, wb, hD, b1, b2⟩ := A.bits
    have ih := DgS.rs A (i := i) (by omega)
    obtain ⟨a1, a2⟩ := A.is (i := i) (by omega)
    obtain ⟨c1, c2⟩ := A.is hi
    obtain ⟨c, hc, hcl, hcs, he⟩ := A.digit (i := i) (by omega)
    have hD' : DD f m n ≤ 2 ^ i * 2 ^ (β + 143) := Nat.le_trans hD (Nat.le_mul_of_pos_left _ (Nat.two_pow_pos i))
    have wb' := wb.mono (Nat.le_refl 1) (show 2 ^ (β + 143) ≤ 2 ^ i * 2 ^ (β + 143) from Nat.le_mul_of_pos_left _ (Nat.two_pow_pos i))
    have c0 : 0 < f.b := f.hb
    -- the division, done
    have go : ∀ k r q, s ≤ k + 1 → k ≤ n - i * s → RS (DD f m n) f.b (2 ^ β) (2 ^ i * 2 ^ (β + 143)) (n - i * s) k r → (s ≤ k → r.ts.length = k + 1) → Qo (DD f m n) f.b (2 ^ β) (2 ^ i * 2 ^ (β + 143)) (n - i * s) s k q → (∀ x, (hzp h (cs.drop i)).ev x = q.ev x * h.ev x + r.ev x) → ∃ (q' r' : Pol) (k' : Nat), Qo (DD f m n) f.b (2 ^ β) (2 ^ i * 2 ^ (β + 143)) (n - i * s) s k' q' ∧ r'.ts.length ≤ s ∧ ∀ x, (hzp h (cs.drop i)).ev x = q'.ev x * h.ev x + r'.ev x := by
      intro k
      induction k using Nat.strongRecOn with
      | _ k ih2 =>
        intro r q k1 k2 hr hl hq hev
        by_cases hk : s ≤ k
        · obtain ⟨j, rfl⟩ : ∃ j, k = j + 1 := ⟨k - 1, by have := A.hs; omega⟩
          have hst := hr.step k2 w h1 wb' hk
          obtain ⟨k', x1, x2, x3, x4⟩ := hst.norm A.hs (by omega) hk
          exact ih2 k' (by omega) _ _ x2 (by omega) x3 x4 (hq.step hr k2 hk (by omega)) fun x => by rw [ev_add, ev_sub, ev_mul, hev x, ev_mono]; grind
        · refine ⟨q, r, k, hq, ?_, hev⟩
          obtain ⟨R, w', _⟩ := hr
          have := w'.plen
          omega
    have hpos : s ≤ n - i * s := by
      rw [a2]
      exact Nat.le_mul_of_pos_left _ (by omega)
    obtain ⟨q', r', k', z1, z2, z3⟩ := go (n - i * s) _ Pol.zero (by omega) (Nat.le_refl _) ih (fun _ => by rw [A.left (by omega), a2]) ((Qo.init w.D0 c0).weak (Nat.le_refl _)) fun x => by rw [ev_zero]; grind
    obtain ⟨e1, e2⟩ := split_h (h := h) (c := r') (c' := c) (q := q') (q' := hzp h (cs.drop (i + 1))) A.h0 (by rw [A.hl]; omega) (by rw [A.hl]; omega) fun x => by
      have := z3 x
      rw [he, ev_add, ev_mul] at this
      grind
    subst e2
    have e4 : n - (i + 1) * s = n - i * s - s := by rw [Nat.add_mul, Nat.one_mul]; omega
    have ep : 2 ^ (i + 1) * 2 ^ (β + 143) = 2 * (2 ^ i * 2 ^ (β + 143)) := by rw [Nat.pow_succ', Nat.mul_assoc]
    rw [e4, ep]
    exact z1.rs
theorem Inn.start (A : DgS β f h m s n cs) {i : Nat} (hi : i < m) : Inn β f h m s n cs i (n - i * s) (hzp h (cs.drop i)) Pol.zero := by
  obtain ⟨H, w, h1, wb, hD, b1, b2⟩ := A.bits
  obtain ⟨a1, a2⟩ := A.is (i := i) (by omega)
  have hpos : s ≤ n - i * s := by
    rw [a2]
    exact Nat.le_mul_of_pos_left _ (by omega)
  exact ⟨by omega, Nat.le_refl _, A.rs (by omega), fun _ => by rw [A.left (by omega), a2], (Qo.init w.D0 f.hb).weak (Nat.le_refl _), fun x => by rw [ev_zero]; grind⟩
theorem Inn.step (A : DgS β f h m s n cs) {i k : Nat} {r q : Pol} (hi : i ≤ m) (J : Inn β f h m s n cs i k r q) (hk : s ≤ k) : ∃ k', k' < k ∧ Inn β f h m s n cs i k' (r - mono (r.co k) (k - s) * h) (q + mono (r.co k) (k - s)) := by
  obtain ⟨H, w, h1, wb, hD, b1, b2⟩ := A.bits
  have wb' := wb.mono (Nat.le_refl 1) (show 2 ^ (β + 143) ≤ 2 ^ i * 2 ^ (β + 143) from Nat.le_mul_of_pos_left _ (Nat.two_pow_pos i))
  have := A.hs
  obtain ⟨j, rfl⟩ : ∃ j, k = j + 1 := ⟨k - 1, by omega⟩
  have hst := J.rs.step J.hi w h1 wb' hk
  obtain ⟨k', x1, x2, x3, x4⟩ := hst.norm A.hs (by have := J.hi; omega) hk
  exact ⟨k', by omega, x2, by have := J.hi; omega, x3, x4, J.qo.step J.rs J.hi hk (by omega), fun x => by rw [ev_add, ev_sub, ev_mul, J.ev x, ev_mono]; grind⟩
theorem Inn.done (A : DgS β f h m s n cs) {i k : Nat} {r q : Pol} (hi : i ≤ m) (J : Inn β f h m s n cs i k r q) (hk : k < s) : cs[i]? = some r ∧ q = hzp h (cs.drop (i + 1)) ∧ r.ts.length ≤ s := by
  obtain ⟨c, hc, hcl, hcs, he⟩ := A.digit hi
  have hrl : r.ts.length ≤ s := by
    obtain ⟨R, w', _⟩ := J.rs
    have := w'.plen
    omega
  obtain ⟨e1, e2⟩ := split_h (h := h) (c := r) (c' := c) (q := q) (q' := hzp h (cs.drop (i + 1))) A.h0 (by rw [A.hl]; omega) (by rw [A.hl]; omega) fun x => by
    have := J.ev x
    rw [he, ev_add, ev_mul] at this
    grind
  subst e1 e2
  exact ⟨hc, rfl, hrl⟩
theorem DgS.last (A : DgS β f h m s n cs) : cs[m]? = some (hzp h (cs.drop m)) ∧ (hzp h (cs.drop m)).ts.length = 1 := by
  have l := A.left (Nat.le_refl m)
  rw [Nat.sub_self, Nat.zero_mul] at l
  obtain ⟨c, hc, hcl, hcs, he⟩ := A.digit (Nat.le_refl m)
  rw [A.all.2] at he
  have : hzp h (cs.drop m) = c := by rw [he]; exact Pol.ext_ev fun x => by rw [ev_add, ev_mul, ev_zero]; grind
  exact ⟨by rw [this]; exact hc, by omega⟩
end
end NW
namespace NW
open PySem PySem.Spec PyProof.Rows L2
structure Pr2 (β m k : Nat) (p q : Pol) : Prop where
  pl : p.ts.length = m + 1
  ql : q.ts.length = k + 1
  ps : PBt β (m + 1) p
  qs : PBt β (k + 1) q
theorem Pr2.symm {β m k : Nat} {p q : Pol} (h : Pr2 β m k p q) : Pr2 β k m q p := ⟨h.ql, h.pl, h.qs, h.ps⟩
theorem Pr2.mono {β β' m k : Nat} {p q : Pol} (h : Pr2 β m k p q) (l : β ≤ β') : Pr2 β' m k p q := ⟨h.pl, h.ql, h.ps.mono l (Nat.le_refl _), h.qs.mono l (Nat.le_refl _)⟩
theorem monoL_to {k : Nat} {P : PyData → Prop} (hk : k ≤ 100) (h : P (polyD (mono 1 k))) : (m_L_poly [.list (List.replicate k (PyData.int 0) ++ [.int 1]), .int 1]).To P := by
  have e : List.replicate k (PyData.int 0) ++ [.int 1] = (List.replicate k (0 : Int) ++ [1]).map .int := by simp
  rw [e]
  refine L_poly_to (q9 := True) (b := 1) (.inl rfl) (by decide) trivial (by simp; omega) ?_
  rw [show mk (List.replicate k 0 ++ [1]) 1 = mono 1 k from mono_mk (q := 1)]
  exact h
theorem monoO_len {r : Nat} : (mono 1 r).ts.length = r + 1 := len_of (fun k hk => by rw [co_mono, if_neg (by omega)]) fun _ => by
  rw [co_mono, if_pos (by omega)]
  decide
theorem monoO_sz {k : Nat} : PBt 1 (k + 1) (mono 1 k) := mono_sz (FB.one (by omega))
theorem neO {p : Pol} {m : Nat} (h : p.ts.length = m + 1) : p.ts ≠ [] := by
  intro z
  rw [z] at h
  simp at h
def DgP (m k : Nat) : Prop := 1 ≤ m ∧ m ≤ 6 ∧ 1 ≤ k ∧ k ≤ 6 ∧ Nat.lcm m k ≤ 12
instance {m k : Nat} : Decidable (DgP m k) := by unfold DgP; infer_instance
theorem degrees58_to {f : Fl} (hf : FlOk f) : (m_L_degrees [] f).To fun d f' => ∃ m k : Nat, d = .tuple [.int m, .int k] ∧ DgP m k ∧ FlOk f' := by
  have key : ∀ (prs : List (Nat × Nat)) (i : Int) (st : Sto), (∀ p, p ∈ prs → DgP p.1 p.2) → 0 ≤ i → i < (prs.length : Nat) → ∀ Q : U → Sto → Prop, (∀ m k : Nat, DgP m k → Q (.d (.tuple [.int m, .int k])) st) → (fIx (.d (.list (prs.map fun p => PyData.tuple [.int (p.1 : Nat), .int (p.2 : Nat)]))) (.d (.int i)) st).To Q := by
    intro prs i st hp i0 i1 Q hQ
    obtain ⟨a, rfl⟩ : ∃ a : Nat, i = a := ⟨i.toNat, by omega⟩
    have ha : a < prs.length := by omega
    simp [idxN_of ha, List.getElem?_eq_getElem ha]
    exact hQ _ _ (hp _ (List.getElem_mem ha))
  unfold m_L_degrees
  rw [flow_to]
  unfold b_L_degrees
  simp [startL]
  refine (pick_to hf (by omega) (by omega)).mono ?_
  rintro _ g ⟨i, rfl, i0, i1, o⟩
  simp
  by_cases hi : i = 0
  · refine .inr ⟨hi, ?_⟩
    refine (pick_to o (by omega) (by omega)).mono ?_
    rintro _ g2 ⟨j, rfl, j0, j1, o2⟩
    refine key [(3, 4), (4, 3), (2, 5), (5, 2), (4, 6), (6, 4)] j _ (by decide) j0 j1 _ fun m k D => ?_
    exact ⟨_, rfl, m, k, rfl, D, o2⟩
  · refine .inl ⟨hi, ?_⟩
    refine (pick_to o (by omega) (by omega)).mono ?_
    rintro _ g2 ⟨j, rfl, j0, j1, o2⟩
    refine key [(2, 3), (3, 2), (2, 4), (4, 2), (3, 6), (6, 3), (2, 6), (6, 2), (1, 6), (5, 1), (1, 1), (2, 2), (3, 3), (4, 4), (6, 6), (1, 3), (5, 5), (2, 3), (3, 2), (1, 4)] j _ (by decide) j0 j1 _ fun m k D => ?_
    exact ⟨_, rfl, m, k, rfl, D, o2⟩
theorem multiple_dir {f : Fl} {m k n : Nat} (hf : FlOk f) (D : DgP m k) (hd : k ∣ m) : (m_L_multiple (n + 1) [.int m, .int k] f).To fun d f' => ∃ p q : Pol, d = .tuple [polyD p, polyD q] ∧ Pr2 200 m k p q ∧ FlOk f' := by
  obtain ⟨m0, m1, k0, k1, _⟩ := D
  rw [s_L_multiple, flow_to]
  unfold b_L_multiple
  simp [startL]
  have fm : (m : Int).fmod k = 0 := by
    rw [Int.fmod_eq_emod_of_nonneg _ (by omega)]
    have := Nat.mod_eq_zero_of_dvd hd
    omega
  have fd : (m : Int).fdiv k = ((m / k : Nat) : Int) := by
    rw [Int.fdiv_eq_ediv_of_nonneg _ (by omega)]
    rfl
  have mk : m / k * k = m := Nat.div_mul_cancel hd
  have q1 : m / k ≤ m := Nat.div_le_self _ _
  have q0 : 1 ≤ m / k := by
    cases e : m / k with
    | zero => rw [e] at mk; omega
    | succ _ => omega
  refine ⟨by omega, .inr ⟨fm, ?_⟩⟩
  refine (any_poly_to hf (n := 3) (by omega) (by omega) (by omega) (by omega) (by omega) (by omega)).mono ?_
  rintro _ g1 ⟨q, rfl, z1, z2, o1⟩
  refine ⟨divU (by omega), ?_⟩
  rw [fd]
  refine (any_poly_to o1 (n := 3) (by omega) (by omega) (by omega) (by omega) (by omega) (by omega)).mono ?_
  rintro _ g2 ⟨p, rfl, y1, y2, o2⟩
  have sz := y1.comp3 (by omega) z1 (by
    have : (m / k) * (k + 1) ≤ 6 * 7 := Nat.mul_le_mul (by omega) (by omega)
    rw [Nat.add_sub_cancel]
    omega)
  refine of3 (by omega) y1 z1 (by omega) (by
    have : (m / k) * (k + 1) ≤ 6 * 7 := Nat.mul_le_mul (by omega) (by omega)
    rw [Nat.add_sub_cancel]
    omega) (by
    have : (m / k + 1 - 2) * (3 + 11) ≤ 6 * 14 := Nat.mul_le_mul_right _ (by omega)
    omega) ?_
  have len : (p.comp q).ts.length = m + 1 := by
    rw [len_comp (neO y2) (by omega), y2, z2, Nat.add_sub_cancel, Nat.add_sub_cancel, mk]
  refine ⟨p.comp q, q, ⟨rfl, rfl⟩, ⟨len, z2, ?_, z1.mono (by omega) (Nat.le_refl _)⟩, o2⟩
  have : (m / k + 1 - 1) * (3 + 11) ≤ 6 * 14 := Nat.mul_le_mul_right _ (by omega)
  exact ⟨by omega, (sz.mono (n' := 200) (by omega) (Nat.le_refl _)).2⟩
theorem multiple_to {f : Fl} {m k n : Nat} (hf : FlOk f) (D : DgP m k) : (m_L_multiple (n + 2) [.int m, .int k] f).To fun d f' => ∃ p q : Pol, d = .tuple [polyD p, polyD q] ∧ Pr2 200 m k p q ∧ FlOk f' := by
  obtain ⟨m0, m1, k0, k1, lc⟩ := D
  rw [s_L_multiple, flow_to]
  unfold b_L_multiple
  simp [startL]
  by_cases hd : k ∣ m
  · have := multiple_dir (n := n + 1) hf ⟨m0, m1, k0, k1, lc⟩ hd
    rw [s_L_multiple, flow_to] at this
    unfold b_L_multiple at this
    simp [startL] at this
    exact this
  have fm : ¬ (m : Int).fmod k = 0 := by
    rw [Int.fmod_eq_emod_of_nonneg _ (by omega)]
    intro e
    exact hd (Nat.dvd_of_mod_eq_zero (by omega))
  refine ⟨by omega, .inl ⟨fm, by omega, ?_⟩⟩
  by_cases hd2 : m ∣ k
  · have fm2 : (k : Int).fmod m = 0 := by
      rw [Int.fmod_eq_emod_of_nonneg _ (by omega)]
      have := Nat.mod_eq_zero_of_dvd hd2
      omega
    refine .inr ⟨fm2, ?_⟩
    refine (multiple_dir hf ⟨k0, k1, m0, m1, by rw [Nat.lcm_comm]; exact lc⟩ hd2).mono ?_
    rintro _ g1 ⟨p, q, rfl, h, o⟩
    simp
    exact ⟨q, p, ⟨rfl, rfl⟩, h.symm, o⟩
  · have fm2 : ¬ (k : Int).fmod m = 0 := by
      rw [Int.fmod_eq_emod_of_nonneg _ (by omega)]
      intro e
      exact hd2 (Nat.dvd_of_mod_eq_zero (by omega))
    refine .inl ⟨fm2, ?_⟩
    rw [fMulA_k (r := m) (by omega) (by omega) (by omega)]
    simp
    refine ⟨by omega, monoL_to (by omega) ?_⟩
    rw [fMulA_k (r := k) (by omega) (by omega) (by omega)]
    simp
    refine ⟨by omega, monoL_to (by omega) ?_⟩
    exact ⟨_, _, ⟨rfl, rfl⟩, ⟨monoO_len, monoO_len, monoO_sz.mono (by omega) (Nat.le_refl _), monoO_sz.mono (by omega) (Nat.le_refl _)⟩, hf⟩
end NW
namespace NW
open PySem PySem.Spec PyProof.Rows L2
def facP (b : Nat) (c : Int) : Pol := mk (c :: (List.replicate (b - 1) 0 ++ [1])) 1
theorem co_facP_top {b : Nat} {c : Int} (hb : 1 ≤ b) : (facP b c).co b = 1 := by
  unfold facP
  rw [co_mk (by decide)]
  obtain ⟨b, rfl⟩ : ∃ j, b = j + 1 := ⟨b - 1, by omega⟩
  rw [List.getD_cons_succ, List.getD_eq_getElem?_getD, List.getElem?_append_right (by simp)]
  simp
  decide
theorem facP_len {b : Nat} {c : Int} (hb : 1 ≤ b) : (facP b c).ts.length = b + 1 := len_of (fun k hk => by
  unfold facP
  rw [co_mk (by decide), List.getD_eq_getElem?_getD, List.getElem?_eq_none (by simp; omega)]
  simp) fun _ => by
  rw [Nat.add_sub_cancel, co_facP_top hb]
  decide
theorem facP_sz {b : Nat} {c : Int} (hb : 1 ≤ b) (h1 : -3 ≤ c) (h2 : c ≤ 3) : PBt 2 (b + 1) (facP b c) := by
  have fl := facP_len (c := c) hb
  refine PBt.rep (D := 1) (N := fun j => (c :: (List.replicate (b - 1) 0 ++ [1])).getD j 0) (by decide) (fun j => by unfold facP; rw [co_mk (by decide)]) (by decide) (fun j => ?_) (fun j hj => co_zero_of (by omega))
  cases j with
  | zero => simp; omega
  | succ j =>
    rw [List.getD_cons_succ, List.getD_eq_getElem?_getD]
    cases e : (List.replicate (b - 1) (0 : Int) ++ [1])[j]? with
    | none => simp
    | some x =>
      have := List.mem_of_getElem? e
      rcases List.mem_append.mp this with h | h
      · rw [(List.mem_replicate.mp h).2]; simp
      · have : x = 1 := by simpa using h
        rw [this]; simp
theorem bent_dir {f : Fl} {m k n : Nat} (hf : FlOk f) (k0 : 1 ≤ k) (km : k ≤ m) (m6 : m ≤ 6) : (m_L_bent (n + 1) [.int m, .int k] f).To fun d f' => ∃ p q : Pol, d = .tuple [polyD p, polyD q] ∧ Pr2 200 m k p q ∧ FlOk f' := by
  rw [s_L_bent, flow_to]
  unfold b_L_bent
  have g0 : 0 < Nat.gcd m k := Nat.gcd_pos_of_pos_left k (by omega)
  obtain ⟨g, hg⟩ : ∃ g, g = Nat.gcd m k := ⟨_, rfl⟩
  obtain ⟨a, ha⟩ : ∃ a, a = m / g := ⟨_, rfl⟩
  obtain ⟨b, hb⟩ : ∃ b, b = k / g := ⟨_, rfl⟩
  have am : a * g = m := by rw [ha, hg]; exact Nat.div_mul_cancel (Nat.gcd_dvd_left m k)
  have bk : b * g = k := by rw [hb, hg]; exact Nat.div_mul_cancel (Nat.gcd_dvd_right m k)
  rw [← hg] at g0
  have a1 : 1 ≤ a := by
    cases a with
    | zero => omega
    | succ _ => omega
  have b1 : 1 ≤ b := by
    cases b with
    | zero => omega
    | succ _ => omega
  have ab : b ≤ a := Nat.le_of_mul_le_mul_right (by omega) g0
  have a6 : a ≤ 6 := by
    have := Nat.mul_le_mul_left a g0
    omega
  have g6 : g ≤ 6 := by
    have := Nat.mul_le_mul_right g a1
    omega
  generalize hL0 : startL 8 (U.flow :: List.map U.d [PyData.int (m : Int), PyData.int (k : Int)]) = L0
  refine cut (fun l st => l = [some .flow, some (.d (.int m)), some (.d (.int k)), some (.d (.int g)), none, none, none, none] ∧ st = ⟨some f, []⟩) ?_ ?_
  · rw [← hL0]
    simp [startL]
    refine common_to ?_
    rw [hg]
    simp
  rintro l st ⟨hL, hS⟩
  refine cut (fun l st => l = [some .flow, some (.d (.int a)), some (.d (.int b)), some (.d (.int g)), none, none, none, none] ∧ st = ⟨some f, []⟩) ?_ ?_
  · have e1 : (m : Int).fdiv g = (a : Nat) := by rw [Int.fdiv_eq_ediv_of_nonneg _ (by omega), ha]; rfl
    have e2 : (k : Int).fdiv g = (b : Nat) := by rw [Int.fdiv_eq_ediv_of_nonneg _ (by omega), hb]; rfl
    simp [hL, hS, e1, e2]
    exact ⟨divU (by omega), divU (by omega)⟩
  clear hL hS
  rintro l st ⟨hL, hS⟩
  refine cut (fun l st => ∃ (F : Pol) (h : Fl) (v6 : Option U), F.ts.length = a + 1 ∧ PBt 90 (a + 1) F ∧ FlOk h ∧ l = [some .flow, some (.d (.int a)), some (.d (.int b)), some (.d (.int g)), some (.d (polyD (mono 1 b))), some (.d (polyD F)), v6, none] ∧ st = ⟨some h, []⟩) ?_ ?_
  · simp [hL, hS]
    obtain ⟨r, hr⟩ : ∃ r, r = a % b := ⟨_, rfl⟩
    obtain ⟨t, ht⟩ : ∃ t, t = a / b := ⟨_, rfl⟩
    have rt : r + t * b = a := by rw [hr, ht, Nat.mul_comm]; exact Nat.mod_add_div a b
    have t6 : t ≤ 6 := by rw [ht]; exact Nat.le_trans (Nat.div_le_self a b) a6
    have e1 : (a : Int).fmod b = (r : Nat) := by rw [Int.fmod_eq_emod_of_nonneg _ (by omega), hr]; rfl
    have e2 : (a : Int).fdiv b = (t : Nat) := by rw [Int.fdiv_eq_ediv_of_nonneg _ (by omega), ht]; rfl
    rw [e1, e2]
    refine .inl ⟨ab, by omega, ?_⟩
    rw [fMulA_k (r := r) (by omega) (by omega) (by omega)]
    simp
    refine ⟨by omega, monoL_to (by omega) ?_⟩
    refine ⟨divU (by omega), by unfold rOk; simp; omega, ?_⟩
    obtain ⟨I, hI⟩ : ∃ I : Nat → NW.Loc → Sto → Prop, ∀ i l s, I i l s ↔ ∃ (F : Pol) (h : Fl) (v6 : Option U), F.ts.length = r + i * b + 1 ∧ PBt (1 + 12 * i) (r + i * b + 1) F ∧ FlOk h ∧ l = [some .flow, some (.d (.int a)), some (.d (.int b)), some (.d (.int g)), none, some (.d (polyD F)), v6, none] ∧ s = ⟨some h, []⟩ := ⟨_, fun _ _ _ => Iff.rfl⟩
    refine for_ix I (fun i l s h => by obtain ⟨_, _, _, _, _, _, _, rfl⟩ := (hI _ _ _).mp h; exact chk_nil) ((hI _ _ _).mpr ⟨mono 1 r, f, none, by rw [monoO_len]; omega, monoO_sz.mono (by omega) (by omega), hf, rfl, rfl⟩) ?_ ?_
    · rintro i x l s e hi
      obtain ⟨F, h, v6, fl, fs, oh, rfl, rfl⟩ := (hI _ _ _).mp hi
      have hin : i < t := by
        have := (List.getElem?_eq_some_iff.mp e).1
        rwa [rangeD_len] at this
      simp
      refine (L_number_to oh (by omega) (by omega)).mono ?_
      rintro _ f2 ⟨c, rfl, c1, c2, o2⟩
      rw [show (b : Int) - 1 = ((b - 1 : Nat) : Int) by omega, fMulA_k (r := b - 1) (by omega) (by omega) (by omega)]
      simp
      refine ⟨by omega, ?_⟩
      have e3 : PyData.int c :: (List.replicate (b - 1) (PyData.int 0) ++ [.int 1]) = (c :: (List.replicate (b - 1) (0 : Int) ++ [1])).map .int := by simp
      rw [e3]
      refine ⟨by omega, ?_⟩
      refine L_poly_to (q9 := True) (b := 1) (ts := c :: (List.replicate (b - 1) (0 : Int) ++ [1])) (.inl rfl) (by decide) trivial (by simp; omega) ?_
      rw [show mk (c :: (List.replicate (b - 1) 0 ++ [1])) 1 = facP b c from rfl]
      have fz := facP_sz (c := c) b1 (by omega) (by omega)
      have ib : i * b ≤ t * b := Nat.mul_le_mul_right _ (by omega)
      refine L_timesx fs fz (by omega) (by omega) (by omega) ?_
      have nl : (F * facP b c).ts.length = r + (i + 1) * b + 1 := by
        rw [len_mul (neO fl) (neO (facP_len b1)), fl, facP_len b1, Nat.add_mul, Nat.one_mul]
        omega
      have nz := fs.mul fz (by omega)
      refine (hI _ _ _).mpr ⟨F * facP b c, f2, _, nl, ⟨by omega, (nz.mono (n' := 1 + 12 * (i + 1)) (by omega) (Nat.le_refl _)).2⟩, o2, rfl, rfl⟩
    · intro l s hi
      rw [rangeD_len] at hi
      obtain ⟨F, h, v6, fl, fs, oh, rfl, rfl⟩ := (hI _ _ _).mp hi
      rw [rt] at fl fs
      simp
      rw [fMulA_k (r := b) (by omega) (by omega) (by omega)]
      simp
      refine ⟨by omega, monoL_to (by omega) ?_⟩
      exact ⟨F, fl, fs.mono (by omega) (Nat.le_refl _), oh, rfl, rfl⟩
  clear hL hS
  rintro l st ⟨F, h, v6, fl, fs, oh, hL, hS⟩
  simp [hL, hS]
  rw [fMulA_k (r := g) (by omega) (by omega) (by omega)]
  simp
  have c1 : ∀ (G : Pol) (j : Nat), 1 ≤ j → j ≤ 6 → j * g ≤ 6 → G.ts.length = j + 1 → PBt 90 (j + 1) G → (G.comp (mono 1 g)).ts.length = j * g + 1 ∧ PBt 200 (j * g + 1) (G.comp (mono 1 g)) ∧ ∀ P : PyData → Prop, P (polyD (G.comp (mono 1 g))) → (m_L_of [polyD G, polyD (mono 1 g)]).To P := fun G j j1 j6 jg gl gs => by
    have l : (G.comp (mono 1 g)).ts.length = j * g + 1 := by rw [len_comp (neO gl) (by rw [monoO_len]; omega), gl, monoO_len, Nat.add_sub_cancel, Nat.add_sub_cancel]
    have x1 : (j + 1 - 1) * (g + 1) + 1 ≤ 1000 := by
      have : j * (g + 1) ≤ 6 * 7 := Nat.mul_le_mul j6 (by omega)
      rw [Nat.add_sub_cancel]
      omega
    have sz := gs.comp3 (by omega) (monoO_sz (k := g)) x1
    refine ⟨l, ⟨by omega, (sz.mono (n' := 200) (by rw [Nat.add_sub_cancel]; omega) (Nat.le_refl _)).2⟩, fun P hP => of3 (by omega) gs monoO_sz (by omega) x1 (by omega) hP⟩
  refine ⟨by omega, monoL_to (by omega) ?_⟩
  obtain ⟨l1, s1, r1⟩ := c1 F a a1 a6 (by omega) fl fs
  obtain ⟨l2, s2, r2⟩ := c1 (mono 1 b) b b1 (by omega) (by omega) monoO_len (monoO_sz.mono (by omega) (Nat.le_refl _))
  refine r1 _ (r2 _ ?_)
  rw [am] at l1 s1
  rw [bk] at l2 s2
  exact ⟨_, _, ⟨rfl, rfl⟩, ⟨l1, l2, s1, s2⟩, oh⟩
theorem bent_to {f : Fl} {m k n : Nat} (hf : FlOk f) (D : DgP m k) : (m_L_bent (n + 2) [.int m, .int k] f).To fun d f' => ∃ p q : Pol, d = .tuple [polyD p, polyD q] ∧ Pr2 300 m k p q ∧ FlOk f' := by
  obtain ⟨m0, m1, k0, k1, lc⟩ := D
  by_cases km : k ≤ m
  · refine (bent_dir hf k0 km m1).mono ?_
    rintro _ f2 ⟨p, q, rfl, h, o⟩
    exact ⟨p, q, rfl, h.mono (by omega), o⟩
  rw [s_L_bent, flow_to]
  unfold b_L_bent
  have g0 : 0 < Nat.gcd m k := Nat.gcd_pos_of_pos_left k (by omega)
  obtain ⟨g, hg⟩ : ∃ g, g = Nat.gcd m k := ⟨_, rfl⟩
  obtain ⟨a, ha⟩ : ∃ a, a = m / g := ⟨_, rfl⟩
  obtain ⟨b, hb⟩ : ∃ b, b = k / g := ⟨_, rfl⟩
  have am : a * g = m := by rw [ha, hg]; exact Nat.div_mul_cancel (Nat.gcd_dvd_left m k)
  have bk : b * g = k := by rw [hb, hg]; exact Nat.div_mul_cancel (Nat.gcd_dvd_right m k)
  rw [← hg] at g0
  have a1 : 1 ≤ a := by
    cases a with
    | zero => omega
    | succ _ => omega
  have b1 : 1 ≤ b := by
    cases b with
    | zero => omega
    | succ _ => omega
  have ab : a < b := Nat.lt_of_mul_lt_mul_right (a := g) (by omega)
  have b6 : b ≤ 6 := by
    have := Nat.mul_le_mul_left b g0
    omega
  have g6 : g ≤ 6 := by
    have := Nat.mul_le_mul_right g a1
    omega
  generalize hL0 : startL 8 (U.flow :: List.map U.d [PyData.int (m : Int), PyData.int (k : Int)]) = L0
  refine cut (fun l st => l = [some .flow, some (.d (.int m)), some (.d (.int k)), some (.d (.int g)), none, none, none, none] ∧ st = ⟨some f, []⟩) ?_ ?_
  · rw [← hL0]
    simp [startL]
    refine common_to ?_
    rw [show Int.gcd (m : Int) (k : Int) = Nat.gcd m k from rfl, ← hg]
  rintro l st ⟨hL, hS⟩
  refine cut (fun l st => l = [some .flow, some (.d (.int a)), some (.d (.int b)), some (.d (.int g)), none, none, none, none] ∧ st = ⟨some f, []⟩) ?_ ?_
  · have e1 : (m : Int).fdiv g = (a : Nat) := by rw [Int.fdiv_eq_ediv_of_nonneg _ (by omega), ha]; rfl
    have e2 : (k : Int).fdiv g = (b : Nat) := by rw [Int.fdiv_eq_ediv_of_nonneg _ (by omega), hb]; rfl
    simp [hL, hS, e1, e2]
    exact ⟨divU (by omega), divU (by omega)⟩
  clear hL hS
  rintro l st ⟨hL, hS⟩
  refine cut (fun l st => ∃ (F G : Pol) (h : Fl), Pr2 200 a b F G ∧ FlOk h ∧ l = [some .flow, some (.d (.int a)), some (.d (.int b)), some (.d (.int g)), some (.d (polyD G)), some (.d (polyD F)), none, none] ∧ st = ⟨some h, []⟩) ?_ ?_
  · simp [hL, hS]
    refine .inr ⟨ab, ?_⟩
    refine (bent_dir hf (m := b) (k := a) a1 (by omega) b6).mono ?_
    rintro _ f2 ⟨p, q, rfl, h, o⟩
    simp
    exact ⟨q, p, h.symm, o, rfl, rfl⟩
  clear hL hS
  rintro l st ⟨F, G, h, pr, oh, hL, hS⟩
  simp [hL, hS]
  rw [fMulA_k (r := g) (by omega) (by omega) (by omega)]
  simp
  have c1 : ∀ (G : Pol) (j : Nat), 1 ≤ j → j ≤ 6 → j * g ≤ 6 → G.ts.length = j + 1 → PBt 200 (j + 1) G → (G.comp (mono 1 g)).ts.length = j * g + 1 ∧ PBt 300 (j * g + 1) (G.comp (mono 1 g)) ∧ ∀ P : PyData → Prop, P (polyD (G.comp (mono 1 g))) → (m_L_of [polyD G, polyD (mono 1 g)]).To P := fun G j j1 j6 jg gl gs => by
    have l : (G.comp (mono 1 g)).ts.length = j * g + 1 := by rw [len_comp (neO gl) (by rw [monoO_len]; omega), gl, monoO_len, Nat.add_sub_cancel, Nat.add_sub_cancel]
    have x1 : (j + 1 - 1) * (g + 1) + 1 ≤ 1000 := by
      have : j * (g + 1) ≤ 6 * 7 := Nat.mul_le_mul j6 (by omega)
      rw [Nat.add_sub_cancel]
      omega
    have sz := gs.comp3 (by omega) (monoO_sz (k := g)) x1
    refine ⟨l, ⟨by omega, (sz.mono (n' := 300) (by rw [Nat.add_sub_cancel]; omega) (Nat.le_refl _)).2⟩, fun P hP => of3 (by omega) gs monoO_sz (by omega) x1 (by omega) hP⟩
  refine ⟨by omega, monoL_to (by omega) ?_⟩
  obtain ⟨l1, s1, r1⟩ := c1 F a a1 (by omega) (by omega) pr.pl pr.ps
  obtain ⟨l2, s2, r2⟩ := c1 G b b1 (by omega) (by omega) pr.ql pr.qs
  refine r1 _ (r2 _ ?_)
  rw [am] at l1 s1
  rw [bk] at l2 s2
  exact ⟨_, _, ⟨rfl, rfl⟩, ⟨l1, l2, s1, s2⟩, oh⟩
end NW
namespace NW
open PySem PySem.Spec PyProof.Rows L2
theorem dress58 {p l o : Pol} {β m : Nat} (pl : p.ts.length = m + 1) (m0 : 1 ≤ m) (m6 : m ≤ 6) (ps : PBt β (m + 1) p) (hβ : β ≤ 1000) (ll : l.ts.length = 2) (ls : PBt 4 2 l) (ol : o.ts.length = 2) (os : PBt 4 2 o) :
    ((l.comp p).comp o).ts.length = m + 1 ∧ PBt (β + 200) (m + 1) ((l.comp p).comp o) ∧ ∀ P : PyData → Prop, P (polyD ((l.comp p).comp o)) → (m_L_of [polyD l, polyD p]).To fun d => (m_L_of [d, polyD o]).To P := by
  have l1 : (l.comp p).ts.length = m + 1 := by rw [len_comp (neO ll) (by omega), ll, pl]; simp
  have l2 : ((l.comp p).comp o).ts.length = m + 1 := by rw [comp_lin_len (neO l1) ol, l1]
  have z1 := ls.comp3 (by omega) ps (by omega)
  have z1' : PBt (β + 16) (m + 1) (l.comp p) := ⟨by omega, (z1.mono (n' := β + 16) (by omega) (Nat.le_refl _)).2⟩
  have z2 := z1'.comp3 (by omega) os (by omega)
  refine ⟨l2, ⟨by omega, (z2.mono (n' := β + 200) (by rw [Nat.add_sub_cancel]; omega) (Nat.le_refl _)).2⟩, fun P hP => ?_⟩
  refine of3 (by omega) ls ps (by omega) (by omega) (by omega) ?_
  exact of3 (by omega) z1' os (by omega) (by omega) (by omega) hP
theorem outer_pair_to {f : Fl} (hf : FlOk f) : (m_L_outer_pair [] f).To fun d f' => ∃ (m k : Nat) (p q : Pol), d = .tuple [polyD p, polyD q] ∧ DgP m k ∧ Pr2 600 m k p q ∧ FlOk f' := by
  unfold m_L_outer_pair
  rw [flow_to]
  unfold b_L_outer_pair
  generalize hL0 : startL 8 (U.flow :: List.map U.d []) = L0
  refine cut (fun l st => ∃ (m k : Nat) (h : Fl), DgP m k ∧ FlOk h ∧ l = [some .flow, some (.d (.int m)), some (.d (.int k)), none, none, none, none, none] ∧ st = ⟨some h, []⟩) ?_ ?_
  · rw [← hL0]
    simp [startL]
    refine (degrees58_to hf).mono ?_
    rintro _ f1 ⟨m, k, rfl, D, o1⟩
    simp
    exact ⟨m, k, D, o1, rfl, rfl⟩
  rintro l st ⟨m, k, h, D, oh, hL, hS⟩
  obtain ⟨m0, m6, k0, k6, lc⟩ := D
  refine cut (fun l st => ∃ (i : Nat) (h : Fl), i < 6 ∧ FlOk h ∧ l = [some .flow, some (.d (.int m)), some (.d (.int k)), some (.d (.int i)), none, none, none, none] ∧ st = ⟨some h, []⟩) ?_ ?_
  · simp [hL, hS]
    refine (pick_to oh (by omega) (by omega)).mono ?_
    rintro _ f1 ⟨i, rfl, i0, i1, o1⟩
    obtain ⟨a, rfl⟩ : ∃ a : Nat, i = a := ⟨i.toNat, by omega⟩
    exact ⟨a, by omega, o1, rfl⟩
  clear hL hS
  rintro l st ⟨i, h2, i6, oh2, hL, hS⟩
  refine cut (fun l st => i ≠ 0 ∧ l = [some .flow, some (.d (.int m)), some (.d (.int k)), some (.d (.int i)), none, none, none, none] ∧ st = ⟨some h2, []⟩) ?_ ?_
  · simp [hL, hS]
    by_cases i0 : i = 0
    · refine .inr ⟨i0, ?_⟩
      refine (any_poly_to oh2 (n := 3) (by omega) (by omega) (by omega) (by omega) (by omega) (by omega)).mono ?_
      rintro _ g1 ⟨p, rfl, z1, z2, o1⟩
      refine (any_poly_to o1 (n := 3) (by omega) (by omega) (by omega) (by omega) (by omega) (by omega)).mono ?_
      rintro _ g2 ⟨q, rfl, y1, y2, o2⟩
      exact ⟨m, k, p, q, ⟨rfl, rfl⟩, ⟨m0, m6, k0, k6, lc⟩, ⟨z2, y2, z1.mono (by omega) (Nat.le_refl _), y1.mono (by omega) (Nat.le_refl _)⟩, o2⟩
    · exact .inl i0
  clear hL hS
  rintro l st ⟨i0, hL, hS⟩
  refine cut (fun l st => ∃ (p q : Pol) (h : Fl) (v6 : Option U), Pr2 300 m k p q ∧ FlOk h ∧ l = [some .flow, some (.d (.int m)), some (.d (.int k)), some (.d (.int i)), some (.d (polyD p)), some (.d (polyD q)), v6, none] ∧ st = ⟨some h, []⟩) ?_ ?_
  · simp [hL, hS]
    have DD : DgP m k := ⟨m0, m6, k0, k6, lc⟩
    by_cases i1 : i = 1
    · refine .inr ⟨by omega, ?_⟩
      rw [fMulA_k (r := m) (by omega) (by omega) (by omega)]
      simp
      refine ⟨by omega, monoL_to (by omega) ?_⟩
      rw [fMulA_k (r := k) (by omega) (by omega) (by omega)]
      simp
      refine ⟨by omega, monoL_to (by omega) ?_⟩
      exact ⟨_, _, ⟨monoO_len, monoO_len, monoO_sz.mono (by omega) (Nat.le_refl _), monoO_sz.mono (by omega) (Nat.le_refl _)⟩, oh2, rfl, rfl⟩
    refine .inl ⟨by omega, ?_⟩
    by_cases i2 : i = 2
    · refine .inr ⟨by omega, ?_⟩
      refine (any_fraction_to (n := 2) oh2 (by omega) (by omega) (by omega) (by omega) (by omega)).mono ?_
      rintro _ g' ⟨A, rfl, hA, o⟩
      have tl : ∀ n, 1 ≤ n → (Pol.tu A n).ts.length = n + 1 := fun n hn => by
        obtain ⟨n', rfl⟩ : ∃ n', n = n' + 1 := ⟨n - 1, by omega⟩
        exact (tu_top hA n').2
      refine turning_to hA (by omega) m0 (by omega) ?_
      refine turning_to hA (by omega) k0 (by omega) ?_
      exact ⟨_, _, ⟨tl m m0, tl k k0, (PBt.tu hA m).mono (by omega) (Nat.le_refl _), (PBt.tu hA k).mono (by omega) (Nat.le_refl _)⟩, o, rfl, rfl⟩
    refine .inl ⟨by omega, ?_⟩
    by_cases i5 : i < 5
    · refine .inr ⟨by omega, ?_⟩
      refine (bent_to (n := 8) oh2 DD).mono ?_
      rintro _ g' ⟨p, q, rfl, h, o⟩
      simp
      exact ⟨p, q, h, o, rfl, rfl⟩
    · refine .inl ⟨by omega, ?_⟩
      refine (multiple_to (n := 8) oh2 DD).mono ?_
      rintro _ g' ⟨p, q, rfl, h, o⟩
      simp
      exact ⟨p, q, h.mono (by omega), o, rfl, rfl⟩
  clear hL hS
  rintro l st ⟨p, q, h3, v6, pr, oh3, hL, hS⟩
  refine cut (fun l st => ∃ (o : Pol) (h : Fl), o.ts.length = 2 ∧ PBt 4 2 o ∧ FlOk h ∧ l = [some .flow, some (.d (.int m)), some (.d (.int k)), some (.d (.int i)), some (.d (polyD p)), some (.d (polyD q)), v6, some (.d (polyD o))] ∧ st = ⟨some h, []⟩) ?_ ?_
  · simp [hL, hS]
    refine (any_straight_to (n := 2) oh3 (by omega) (by omega) (by omega) (by omega) (by omega)).mono ?_
    rintro _ f1 ⟨a, b, rfl, a0, fa, fb, o1⟩
    exact ⟨Pol.lin a b, lin_len a0, PBt.lin2 fa fb, o1, rfl⟩
  clear hL hS
  rintro l st ⟨o, h4, ol, os, oh4, hL, hS⟩
  refine cut (fun l st => ∃ (p : Pol) (h : Fl), p.ts.length = m + 1 ∧ PBt 500 (m + 1) p ∧ FlOk h ∧ l = [some .flow, some (.d (.int m)), some (.d (.int k)), some (.d (.int i)), some (.d (polyD p)), some (.d (polyD q)), v6, some (.d (polyD o))] ∧ st = ⟨some h, []⟩) ?_ ?_
  · simp [hL, hS]
    refine (any_straight_to (n := 2) oh4 (by omega) (by omega) (by omega) (by omega) (by omega)).mono ?_
    rintro _ f1 ⟨a, b, rfl, a0, fa, fb, o1⟩
    obtain ⟨x1, x2, x3⟩ := dress58 pr.pl m0 m6 pr.ps (by omega) (lin_len a0) (PBt.lin2 fa fb) ol os
    refine x3 _ ?_
    exact ⟨_, x1, x2, o1, rfl⟩
  clear hL hS
  rintro l st ⟨p2, h5, pl2, ps2, oh5, hL, hS⟩
  refine cut (fun l st => ∃ (q : Pol) (h : Fl), q.ts.length = k + 1 ∧ PBt 500 (k + 1) q ∧ FlOk h ∧ l = [some .flow, some (.d (.int m)), some (.d (.int k)), some (.d (.int i)), some (.d (polyD p2)), some (.d (polyD q)), v6, some (.d (polyD o))] ∧ st = ⟨some h, []⟩) ?_ ?_
  · simp [hL, hS]
    refine (any_straight_to (n := 2) oh5 (by omega) (by omega) (by omega) (by omega) (by omega)).mono ?_
    rintro _ f1 ⟨a, b, rfl, a0, fa, fb, o1⟩
    obtain ⟨x1, x2, x3⟩ := dress58 pr.ql k0 k6 pr.qs (by omega) (lin_len a0) (PBt.lin2 fa fb) ol os
    refine x3 _ ?_
    exact ⟨_, x1, x2, o1, rfl⟩
  clear hL hS
  rintro l st ⟨q2, h6, ql2, qs2, oh6, hL, hS⟩
  simp [hL, hS]
  refine (pick_to oh6 (by omega) (by omega)).mono ?_
  rintro _ f1 ⟨j, rfl, j0, j1, o1⟩
  simp
  by_cases hj : j = 0
  · refine .inr ⟨hj, ?_⟩
    rw [pl2, show (((m + 1 : Nat) : Int) - 1) = (m : Nat) by omega]
    refine (pick_to o1 (by omega) (by omega)).mono ?_
    rintro _ f2 ⟨c, rfl, c0, c1, o2⟩
    obtain ⟨c, rfl⟩ : ∃ a : Nat, c = a := ⟨c.toNat, by omega⟩
    rw [fMulA_k (r := c) (by omega) (by omega) (by omega)]
    simp
    refine ⟨by omega, ?_⟩
    refine (pick_to o2 (by omega) (by omega)).mono ?_
    rintro _ f3 ⟨e, rfl, e0, e1, o3⟩
    obtain ⟨e, rfl⟩ : ∃ a : Nat, e = a := ⟨e.toNat, by omega⟩
    simp
    have hn : e + 1 ≠ 0 := by omega
    have hq : FB 2 (⟨1, e + 1, hn, Nat.gcd_one_left _⟩ : Rat) := ⟨by show (1 : Int).natAbs < 2 ^ 2; omega, by show e + 1 < 2 ^ 2; omega⟩
    have e3 : List.replicate c (PyData.int 0) ++ [.int 1] = (List.replicate c (0 : Int) ++ [1]).map .int := by simp
    rw [e3, show (1 : Int) + (e : Int) = ((e + 1 : Nat) : Int) by omega]
    refine L_poly_to (q9 := True) (b := e + 1) (ts := List.replicate c (0 : Int) ++ [1]) (.inl rfl) (by omega) trivial (by simp; omega) ?_
    rw [show mk (List.replicate c 0 ++ [1]) (e + 1) = mono (⟨1, e + 1, hn, Nat.gcd_one_left _⟩ : Rat) c from mono_mk (q := (⟨1, e + 1, hn, Nat.gcd_one_left _⟩ : Rat))]
    have mz : PBt 2 (c + 1) (mono (⟨1, e + 1, hn, Nat.gcd_one_left _⟩ : Rat) c) := mono_sz hq
    have mz' : PBt 2 (m + 1) (mono (⟨1, e + 1, hn, Nat.gcd_one_left _⟩ : Rat) c) := mz.mono (Nat.le_refl _) (by omega)
    refine L_sumx ps2 mz' (by omega) (by omega) ?_
    refine ⟨m, k, _, q2, ⟨rfl, rfl⟩, ⟨m0, m6, k0, k6, lc⟩, ⟨?_, ql2, (ps2.add mz').mono (by omega) (Nat.le_refl _), qs2.mono (by omega) (Nat.le_refl _)⟩, o3⟩
    rw [len_add_lt (by have := mz.1; omega), pl2]
  · exact .inl ⟨hj, m, k, p2, q2, ⟨rfl, rfl⟩, ⟨m0, m6, k0, k6, lc⟩, ⟨pl2, ql2, ps2.mono (by omega) (Nat.le_refl _), qs2.mono (by omega) (Nat.le_refl _)⟩, o1⟩
end NW
namespace NW
open PySem PySem.Spec PyProof.Rows L2
end NW
namespace NW
open PySem PySem.Spec PyProof.Rows L2
end NW
namespace NW
open PySem PySem.Spec PyProof.Rows L2
def Com (f g : Pol) (n k s : Nat) : Prop := ∃ a b, n = a * s ∧ k = b * s ∧ 0 < a ∧ 0 < b ∧ 0 < s ∧ Made f a s ∧ Made g b s ∧ cnd f n s = cnd g k s
def Grt (f g : Pol) (n k b : Nat) : Prop := Com f g n k b ∧ ∀ s, Com f g n k s → s ≤ b
end NW
namespace NW
open PySem PySem.Spec PyProof.Rows L2
theorem Com.symm {f g : Pol} {n k s : Nat} (c : Com f g n k s) : Com g f k n s := by
  obtain ⟨a, b, h1, h2, h3, h4, h5, h6, h7, h8⟩ := c
  exact ⟨b, a, h2, h1, h4, h3, h5, h7, h6, h8.symm⟩
theorem Grt.symm {f g : Pol} {n k b : Nat} (c : Grt f g n k b) : Grt g f k n b := ⟨c.1.symm, fun s hs => c.2 s hs.symm⟩
theorem Grt.uniq {f g : Pol} {n k a b : Nat} (x : Grt f g n k a) (y : Grt f g n k b) : a = b := Nat.le_antisymm (y.2 a x.1) (x.2 b y.1)
theorem L_fits_list {fs : List Pol} (hl : fs.length ≤ 1000) (hf : ∀ f, f ∈ fs → f.ts.length ≤ 1000) : (m_L_fits [.list (fs.map polyD)]).To fun d => ∃ b, d = .bool b ∧ (b = true → ∀ f, f ∈ fs → PBt 133 f.ts.length f) := by
  unfold m_L_fits
  rw [pure_to]
  unfold b_L_fits
  simp [startL]
  obtain ⟨I, hI⟩ : ∃ I : List PyData → NW.Loc → Sto → Prop, ∀ xs l s, I xs l s ↔ s = ⟨none, []⟩ ∧ ∃ as bs : List Pol, fs = as ++ bs ∧ xs = bs.map polyD ∧ (∀ f, f ∈ as → PBt 133 f.ts.length f) ∧ ∃ v w, l = [some (.d (.list (fs.map polyD))), v, w] := ⟨_, fun _ _ _ => Iff.rfl⟩
  refine for_to (I := I) (fun _ _ _ _ => chk_nil) ?_ ?_ _ _ _ ((hI _ _ _).mpr ⟨rfl, [], fs, rfl, rfl, by simp, _, _, rfl⟩)
  · rintro x xs l s h
    obtain ⟨rfl, as, bs, e, e2, ha, v, w, rfl⟩ := (hI _ _ _).mp h
    clear h
    cases bs with
    | nil => cases e2
    | cons f bs =>
      cases e2
      have hfl := hf f (by rw [e]; simp)
      have next : PBt 133 f.ts.length f → I (bs.map polyD) [some (U.d (PyData.list (fs.map polyD))), some (U.d (polyD f)), w] ⟨none, []⟩ := fun hp => (hI _ _ _).mpr ⟨rfl, as ++ [f], bs, by rw [e]; simp, rfl, fun g hg => by
        rcases List.mem_append.mp hg with hg | hg
        · exact ha g hg
        · have : g = f := by simpa using hg
          subst this; exact hp, _, _, rfl⟩
      simp
      refine ⟨by omega, ?_⟩
      refine lc_mapA (f := PyData.int) (g := fun t => .int (absI t)) chk_nil ?_ ?_
      · intro t ht
        simp [wipeL, absI]
      · have e3 : (f.ts.map fun t => PyData.int (absI t)) ++ [PyData.int f.b] = (f.ts.map absI ++ [(f.b : Int)]).map .int := by simp
        obtain ⟨m, hm⟩ : ∃ m, maxI (f.ts.map absI ++ [(f.b : Int)]) = some m := by
          cases f.ts with
          | nil => exact ⟨_, rfl⟩
          | cons t ts => exact ⟨_, rfl⟩
        have ml := maxI_all hm
        simp only [to_ok, to_addL, List.length_map, List.length_cons, List.length_nil]
        rw [e3, to_maxL]
        refine ⟨by omega, m, hm, ?_⟩
        have t4 := ten40'
        by_cases hc : (10000000000000000000000000000000000000000 : Int) ≤ m
        · have hc' : ¬ m < 10000000000000000000000000000000000000000 := by omega
          simp [hc, hc']
        · have hc' : m < 10000000000000000000000000000000000000000 := by omega
          simp [hc, hc']
          refine next ⟨Nat.le_refl _, ?_, fun t ht => ?_⟩
          · have := ml f.b (by simp)
            omega
          · have := ml (absI t) (List.mem_append.mpr (.inl (List.mem_map_of_mem ht)))
            rw [abs_eq] at this
            omega
  · rintro l s h
    obtain ⟨rfl, as, bs, e, e2, ha, v, w, rfl⟩ := (hI _ _ _).mp h
    clear h
    have : bs = [] := by cases bs with | nil => rfl | cons c bs => cases e2
    subst this
    try simp
    rw [e, List.append_nil]
    exact ha
end NW
namespace K58
open PySem PySem.Spec PyProof.Rows L2 NW
theorem fits2 {f g : Pol} (hf : f.ts.length ≤ 1000) (hg : g.ts.length ≤ 1000) : (m_L_fits [.list [polyD f, polyD g]]).To fun d => ∃ b, d = .bool b ∧ (b = true → PBt 133 f.ts.length f ∧ PBt 133 g.ts.length g) := by
  refine (L_fits_list (fs := [f, g]) (by simp) (by intro p hp; simp at hp; rcases hp with rfl | rfl <;> assumption)).mono ?_
  rintro _ ⟨b, rfl, hb⟩
  exact ⟨b, rfl, fun e => ⟨hb e f (by simp), hb e g (by simp)⟩⟩
structure F2 (m k : Nat) (p q : Pol) : Prop where
  D : DgP m k
  pl : p.ts.length = m + 1
  ql : q.ts.length = k + 1
  ps : PBt 133 (m + 1) p
  qs : PBt 133 (k + 1) q
theorem F2.symm {m k : Nat} {p q : Pol} (h : F2 m k p q) : F2 k m q p := ⟨⟨h.D.2.2.1, h.D.2.2.2.1, h.D.1, h.D.2.1, by rw [Nat.lcm_comm]; exact h.D.2.2.2.2⟩, h.ql, h.pl, h.qs, h.ps⟩
theorem F2.same {m k : Nat} {p q : Pol} (h : F2 m k p q) : F2 m m p p := ⟨⟨h.D.1, h.D.2.1, h.D.1, h.D.2.1, by rw [Nat.lcm_self]; have := h.D.2.1; omega⟩, h.pl, h.pl, h.ps, h.ps⟩
theorem F2.dg {m k : Nat} {p q : Pol} (h : F2 m k p q) : Dg2 p q m k := ⟨h.pl, h.ql, h.D.1, h.D.2.2.1, by have := h.D.2.1; omega, by have := h.D.2.2.2.1; omega, h.D.2.2.2.2⟩
theorem hi_le {m k : Nat} (hm : 1 ≤ m) (hk : 1 ≤ k) (h6 : k ≤ 6) : hiD m k ≤ 6 := by
  have g0 : 0 < Nat.gcd m k := Nat.gcd_pos_of_pos_left k hm
  have h := hiD_mul (m := m) (k := k)
  have e : Nat.gcd m k * Nat.lcm m k = m * k := Nat.gcd_mul_lcm m k
  have l : Nat.lcm m k ≤ m * k := by
    rw [← e]
    exact Nat.le_mul_of_pos_left _ g0
  have : hiD m k * m ≤ k * m := by rw [h, Nat.mul_comm k]; exact l
  have := Nat.le_of_mul_le_mul_right this (by omega)
  omega
def B58 : Nat := bOut 1717 12
theorem told58 {m k : Nat} {p q : Pol} (F : F2 m k p q) : ∃ d fr, m_common_outer [polyD p, polyD q] = .ok d fr ∧ OutT p q (hiD m k) (hiD k m) (Nat.lcm m k + 1) B58 d ∧ Lk 4 d ∧ (m_L_right_32 [polyD p, polyD q, d]).To fun v => v = .bool true := by
  have D := F.dg
  obtain ⟨a0, _⟩ := D.h1
  obtain ⟨b0, _⟩ := D.w1
  have a6 := hi_le F.D.1 F.D.2.2.1 F.D.2.2.2.1
  have b6 := hi_le F.D.2.2.1 F.D.1 F.D.2.1
  have l12 := D.l1
  have be : B58 = 24129 := rfl
  have bb : bOut 1717 (hiD m k + hiD k m) ≤ B58 := by
    unfold B58 bOut
    have : (1717 + 7) * (hiD m k + hiD k m) ≤ (1717 + 7) * 12 := Nat.mul_le_mul_left _ (by omega)
    omega
  have h := common_outer_to (γ := 133) (σ := 1717) D F.ps F.qs (by omega) (by omega) (by omega) (by
    have : (hiD m k + hiD k m) * bOut 1717 (hiD m k + hiD k m) ≤ 12 * B58 := Nat.mul_le_mul (by omega) bb
    omega)
  cases e : m_common_outer [polyD p, polyD q] with
  | ok d fr =>
    rw [e] at h
    have h' : OutT p q (hiD m k) (hiD k m) (Nat.lcm m k + 1) B58 d := by
      rcases (show OutT p q (hiD m k) (hiD k m) (Nat.lcm m k + 1) (bOut 1717 (hiD m k + hiD k m)) d from h) with ⟨x, e1, e2, e3⟩ | ⟨h0, y, e1, e2, e3⟩
      · exact .inl ⟨x, e1, e2, fun j hj => (e3 j hj).mono bb⟩
      · exact .inr ⟨h0, y, e1, e2, fun j hj => (e3 j hj).mono bb⟩
    refine ⟨d, fr, rfl, h', ?_, right32_to (γ := 133) (σ := 1717) D F.ps F.qs (by omega) (by omega) (by omega) (by omega) (by omega) h'⟩
    rcases h' with ⟨x, rfl, _⟩ | ⟨_, y, rfl, _⟩
    · have vl : (vP (hiD m k) (hiD k m) x).ts.length ≤ 1000 := Nat.le_trans len_vP (by omega)
      have ul : (uP (hiD m k) x).ts.length ≤ 1000 := by rw [len_uP]; omega
      refine ⟨by simp, fun z hz => ?_⟩
      simp at hz
      rcases hz with rfl | rfl | rfl
      · show (PyData.str ("outer" : PySem.Str)).canLay0 = true
        decide +kernel
      · exact lk_poly ul
      · exact lk_poly vl
    · refine ⟨by simp, fun z hz => ?_⟩
      simp at hz
      rcases hz with rfl | rfl
      · show (PyData.str ("none" : PySem.Str)).canLay0 = true
        decide +kernel
      · refine ⟨by simp; omega, fun w hw => ?_⟩
        unfold rw_ at hw
        obtain ⟨j, _, rfl⟩ := List.mem_map.mp hw
        exact lk_frac
  | ex _ => rw [e] at h; exact h.elim
  | no => rw [e] at h; exact h.elim
theorem hsem : ∀ ns : List Int, ns.length ≤ 63 → ∃ st', b_law_k58 ((startL 8 [.scr ns]).set 1 (some .flow)) ⟨some (fl0 ns), []⟩ = .rt (.d (.bool true)) st' := by
  intro ns _
  refine rt_true ?_
  unfold b_law_k58
  generalize hL0 : (startL 8 [.scr ns]).set 1 (some .flow) = L0
  refine cut (fun l st => ∃ (m k : Nat) (p q : Pol) (g : Fl), DgP m k ∧ Pr2 600 m k p q ∧ FlOk g ∧ l = [some (.scr ns), some .flow, some (.d (polyD p)), some (.d (polyD q)), none, none, none, none] ∧ st = ⟨some g, []⟩) ?_ ?_
  · rw [← hL0]
    simp [startL]
    refine (outer_pair_to (fl0_ok ns)).mono ?_
    rintro _ f1 ⟨m, k, p, q, rfl, D, h, o⟩
    simp
    exact ⟨m, k, D, p, q, h, o, rfl, rfl⟩
  rintro l st ⟨m, k, p, q, g1, D, pr, o1, hL, hS⟩
  refine cut (fun l st => F2 m k p q ∧ l = [some (.scr ns), some .flow, some (.d (polyD p)), some (.d (polyD q)), none, none, none, none] ∧ st = ⟨some g1, []⟩) ?_ ?_
  · simp [hL, hS]
    refine (fits2 (f := p) (g := q) (by rw [pr.pl]; have := D.2.1; omega) (by rw [pr.ql]; have := D.2.2.2.1; omega)).mono ?_
    rintro _ ⟨b, rfl, hb⟩
    cases b with
    | false => exact .inl rfl
    | true =>
      obtain ⟨x1, x2⟩ := hb rfl
      rw [pr.pl] at x1
      rw [pr.ql] at x2
      exact .inr ⟨rfl, D, pr.pl, pr.ql, x1, x2⟩
  clear hL hS
  rintro l st ⟨F, hL, hS⟩
  obtain ⟨d1, fr1, e1, t1, lk1, r1⟩ := told58 F
  obtain ⟨d2, fr2, e2, t2, lk2, r2⟩ := told58 F.symm
  obtain ⟨d3, fr3, e3, t3, lk3, r3⟩ := told58 F.same
  have c1 : ∀ P : PyData → Prop, (m_common_outer [polyD p, polyD q]).To P ↔ P d1 := fun P => by rw [e1]; exact Iff.rfl
  have c2 : ∀ P : PyData → Prop, (m_common_outer [polyD q, polyD p]).To P ↔ P d2 := fun P => by rw [e2]; exact Iff.rfl
  have c3 : ∀ P : PyData → Prop, (m_common_outer [polyD p, polyD p]).To P ↔ P d3 := fun P => by rw [e3]; exact Iff.rfl
  refine cut (fun l st => l = [some (.scr ns), some .flow, some (.d (polyD p)), some (.d (polyD q)), some (.d d1), none, none, none] ∧ st = ⟨some g1, []⟩) ?_ ?_
  · simp [hL, hS, c1]
  clear hL hS
  rintro l st ⟨hL, hS⟩
  refine cut (fun l st => l = [some (.scr ns), some .flow, some (.d (polyD p)), some (.d (polyD q)), some (.d d1), none, none, none] ∧ st = ⟨some g1, []⟩) ?_ ?_
  · simp [hL, hS]
    refine r1.mono ?_
    rintro _ rfl
    rfl
  clear hL hS
  rintro l st ⟨hL, hS⟩
  refine cut (fun l st => l = [some (.scr ns), some .flow, some (.d (polyD p)), some (.d (polyD q)), some (.d d1), none, none, none] ∧ st = ⟨some g1, []⟩) ?_ ?_
  · simp [hL, hS]
    refine L_shape_to F.dg ?_
    simp
    by_cases h6 : 6 < Nat.lcm m k
    · exact .inr (by omega)
    · exact .inl (by omega)
  clear hL hS
  rintro l st ⟨hL, hS⟩
  refine cut (fun l st => l = [some (.scr ns), some .flow, some (.d (polyD p)), some (.d (polyD q)), some (.d d1), some (.d d2), none, none] ∧ st = ⟨some g1, []⟩) ?_ ?_
  · simp [hL, hS, c2]
  clear hL hS
  rintro l st ⟨hL, hS⟩
  refine cut (fun l st => l = [some (.scr ns), some .flow, some (.d (polyD p)), some (.d (polyD q)), some (.d d1), some (.d d2), none, none] ∧ st = ⟨some g1, []⟩) ?_ ?_
  · have sy : OutS p q (hiD m k) (hiD k m) ↔ OutS q p (hiD k m) (hiD m k) := by
      have D1 := F.dg
      have ha : hiD m k * m = hiD k m * k := by rw [hiD_mul, hiD_mul, Nat.lcm_comm]
      exact ⟨fun h => outS_symm D1.fl D1.gl D1.k0 D1.m0 ha D1.h1.1 h, fun h => outS_symm D1.gl D1.fl D1.m0 D1.k0 ha.symm D1.w1.1 h⟩
    have r2' := r2
    have r3' := r3
    rcases t1 with ⟨x, rfl, ex, _⟩ | ⟨n1, y, rfl, _⟩ <;> rcases t2 with ⟨x2, rfl, ex2, _⟩ | ⟨n2, y2, rfl, _⟩
    · simp [hL, hS, c3]
      refine r2.mono ?_
      rintro _ rfl
      refine ⟨rfl, r3.mono ?_⟩
      rintro _ rfl
      rfl
    · exact absurd (sy.mp (outS_iff.mpr ⟨x, ex⟩)) n2
    · exact absurd (sy.mpr (outS_iff.mpr ⟨x2, ex2⟩)) n1
    · simp [hL, hS, c3]
      refine r2.mono ?_
      rintro _ rfl
      refine ⟨rfl, r3.mono ?_⟩
      rintro _ rfl
      rfl
  clear hL hS
  rintro l st ⟨hL, hS⟩
  refine cut (fun l st => ∃ (m k : Nat) (p2 q2 : Pol) (g : Fl), DgP m k ∧ Pr2 600 m k p2 q2 ∧ FlOk g ∧ l = [some (.scr ns), some .flow, some (.d (polyD p)), some (.d (polyD q)), some (.d d1), some (.d d2), some (.d (polyD p2)), some (.d (polyD q2))] ∧ st = ⟨some g, []⟩) ?_ ?_
  · simp [hL, hS]
    refine (outer_pair_to o1).mono ?_
    rintro _ f1 ⟨m, k, p2, q2, rfl, D, h, o⟩
    simp
    exact ⟨m, k, D, p2, q2, h, o, rfl, rfl⟩
  clear hL hS
  rintro l st ⟨m2, k2, p2, q2, g2, D2, pr2, o2, hL, hS⟩
  refine cut (fun l st => l = [some (.scr ns), some .flow, some (.d (polyD p)), some (.d (polyD q)), some (.d d1), some (.d d2), some (.d (polyD p2)), some (.d (polyD q2))] ∧ st = ⟨some g2, []⟩) ?_ ?_
  · simp [hL, hS]
    refine L_shape_to ⟨pr2.pl, pr2.ql, D2.1, D2.2.2.1, by have := D2.2.1; omega, by have := D2.2.2.2.1; omega, D2.2.2.2.2⟩ ?_
    simp
    by_cases h7 : 7 ≤ Nat.lcm m2 k2
    · exact .inl (by omega)
    refine .inr ⟨by omega, ?_⟩
    refine (fits2 (f := p2) (g := q2) (by rw [pr2.pl]; have := D2.2.1; omega) (by rw [pr2.ql]; have := D2.2.2.2.1; omega)).mono ?_
    rintro _ ⟨b, rfl, hb⟩
    cases b with
    | false => exact .inl rfl
    | true =>
      obtain ⟨x1, x2⟩ := hb rfl
      rw [pr2.pl] at x1
      rw [pr2.ql] at x2
      obtain ⟨d4, fr4, e4, t4, lk4, r4⟩ := told58 (⟨D2, pr2.pl, pr2.ql, x1, x2⟩ : F2 m2 k2 p2 q2)
      refine .inr ⟨rfl, ?_⟩
      rw [e4]
      refine r4.mono ?_
      rintro _ rfl
      rfl
  clear hL hS
  rintro l st ⟨hL, hS⟩
  simp [hL, hS, c1]
  exact ⟨lk_shaped lk1 (by omega), lk_eqv lk1⟩
end K58
namespace K58
open PySem PySem.Spec PyProof.Rows L2 NW
def topS (i : Nat) : Stmt := PySem.Challenge.pw_nestwright_k58_outer_ones_or_weights.main.body.getD i (.Pass ⟨0, 0, 0, 0⟩)
abbrev s_common_part : Stmt := topS 1
theorem sc_common_part : FnScope [("one" : Str), ("other" : Str)] [("one" : Str), ("other" : Str)] (defScope s_common_part) := ⟨rfl, rfl, rfl, by decide +kernel, rfl, by decide +kernel, by decide +kernel⟩
theorem k_common_part {P : Program} {w : World} {K : PySem.W.Frag} {mg : Str → Option Value} {base : Heap} (hNT : base.NoSeer ∧ P.given.tree = none) (z_abs : mg "abs" = none) (D : DefIn K mg "common_part" s_common_part [("one" : Str), ("other" : Str)]) : Cal P w K mg base 33 "common_part" [("one" : Str), ("other" : Str)] (spP K 2 m_common_part) := by
  unfold m_common_part
  exact calP D sc_common_part (by decide) (fun f cdv A outer s H E hr => ⟨_, ((qss_cons (qs_while PassesOwn.never (qt_ne hr (q_var 1) q_int)
    (qss_one (qs_par 0 1 rfl sc_common_part.nd (qa_cons (q_var 1) (qa_cons (q_mod (q_var 0) (q_var 1)) qa_nil)))))
    (qss_one (qs_ret (q_abs z_abs (qa_cons (q_var 0) qa_nil))))))⟩)
abbrev s_fraction : Stmt := topS 2
theorem sc_fraction : FnScope [("top" : Str), ("bottom" : Str), ("part" : Str)] [("top" : Str), ("bottom" : Str)] (defScope s_fraction) := ⟨rfl, rfl, rfl, by decide +kernel, rfl, by decide +kernel, by decide +kernel⟩
theorem k_fraction {P : Program} {w : World} {K : PySem.W.Frag} {mg : Str → Option Value} {base : Heap} (hNT : base.NoSeer ∧ P.given.tree = none) (k_common_part : Cal P w K mg base 33 "common_part" [("one" : Str), ("other" : Str)] (spP K 2 m_common_part)) (D : DefIn K mg "fraction" s_fraction [("top" : Str), ("bottom" : Str)]) : Cal P w K mg base 34 "fraction" [("top" : Str), ("bottom" : Str)] (spP K 2 m_fraction) := by
  unfold m_fraction
  exact calP D sc_fraction (by decide) (fun f cdv A outer s H E hr => ⟨_, ((qss_cons (qs_set 2 sc_fraction.nd (q_calP k_common_part hr (by decide) (qa_cons (q_var 0) (qa_cons (q_var 1) qa_nil))))
    (qss_cons (qs_if (qt_lt (q_var 1) q_int)
    (qss_one (qs_set 2 sc_fraction.nd (q_sub q_int (q_var 2))))
    qss_nil)
    (qss_one (qs_ret (q_tup (qa_cons (q_div (seX hNT hr (by decide) ⟨_, _, rfl, rfl, rfl, rfl, rfl⟩) (q_var 0) (q_var 2)) (qa_cons (q_div (seX hNT hr (by decide) ⟨_, _, rfl, rfl, rfl, rfl, rfl⟩) (q_var 1) (q_var 2)) qa_nil))))))))⟩)
abbrev s_taken : Stmt := topS 3
theorem sc_taken : FnScope [("one" : Str), ("other" : Str)] [("one" : Str), ("other" : Str)] (defScope s_taken) := ⟨rfl, rfl, rfl, by decide +kernel, rfl, by decide +kernel, by decide +kernel⟩
theorem k_taken {P : Program} {w : World} {K : PySem.W.Frag} {mg : Str → Option Value} {base : Heap} (hNT : base.NoSeer ∧ P.given.tree = none) (k_fraction : Cal P w K mg base 34 "fraction" [("top" : Str), ("bottom" : Str)] (spP K 2 m_fraction)) (D : DefIn K mg "taken" s_taken [("one" : Str), ("other" : Str)]) : Cal P w K mg base 35 "taken" [("one" : Str), ("other" : Str)] (spP K 2 m_taken) := by
  unfold m_taken
  exact calP D sc_taken (by decide) (fun f cdv A outer s H E hr => ⟨_, ((qss_one (qs_ret (q_calP k_fraction hr (by decide) (qa_cons (q_sub (q_mulA (q_ix (q_var 0) q_int) (q_ix (q_var 1) q_int)) (q_mulA (q_ix (q_var 1) q_int) (q_ix (q_var 0) q_int))) (qa_cons (q_mulA (q_ix (q_var 0) q_int) (q_ix (q_var 1) q_int)) qa_nil))))))⟩)
abbrev s_multiplied : Stmt := topS 4
theorem sc_multiplied : FnScope [("one" : Str), ("other" : Str)] [("one" : Str), ("other" : Str)] (defScope s_multiplied) := ⟨rfl, rfl, rfl, by decide +kernel, rfl, by decide +kernel, by decide +kernel⟩
theorem k_multiplied {P : Program} {w : World} {K : PySem.W.Frag} {mg : Str → Option Value} {base : Heap} (hNT : base.NoSeer ∧ P.given.tree = none) (k_fraction : Cal P w K mg base 34 "fraction" [("top" : Str), ("bottom" : Str)] (spP K 2 m_fraction)) (D : DefIn K mg "multiplied" s_multiplied [("one" : Str), ("other" : Str)]) : Cal P w K mg base 35 "multiplied" [("one" : Str), ("other" : Str)] (spP K 2 m_multiplied) := by
  unfold m_multiplied
  exact calP D sc_multiplied (by decide) (fun f cdv A outer s H E hr => ⟨_, ((qss_one (qs_ret (q_calP k_fraction hr (by decide) (qa_cons (q_mulA (q_ix (q_var 0) q_int) (q_ix (q_var 1) q_int)) (qa_cons (q_mulA (q_ix (q_var 0) q_int) (q_ix (q_var 1) q_int)) qa_nil))))))⟩)
abbrev s_divided : Stmt := topS 5
theorem sc_divided : FnScope [("one" : Str), ("other" : Str)] [("one" : Str), ("other" : Str)] (defScope s_divided) := ⟨rfl, rfl, rfl, by decide +kernel, rfl, by decide +kernel, by decide +kernel⟩
theorem k_divided {P : Program} {w : World} {K : PySem.W.Frag} {mg : Str → Option Value} {base : Heap} (hNT : base.NoSeer ∧ P.given.tree = none) (k_fraction : Cal P w K mg base 34 "fraction" [("top" : Str), ("bottom" : Str)] (spP K 2 m_fraction)) (D : DefIn K mg "divided" s_divided [("one" : Str), ("other" : Str)]) : Cal P w K mg base 35 "divided" [("one" : Str), ("other" : Str)] (spP K 2 m_divided) := by
  unfold m_divided
  exact calP D sc_divided (by decide) (fun f cdv A outer s H E hr => ⟨_, ((qss_one (qs_ret (q_calP k_fraction hr (by decide) (qa_cons (q_mulA (q_ix (q_var 0) q_int) (q_ix (q_var 1) q_int)) (qa_cons (q_mulA (q_ix (q_var 0) q_int) (q_ix (q_var 1) q_int)) qa_nil))))))⟩)
abbrev s_over : Stmt := topS 8
theorem sc_over : FnScope [("tops" : Str), ("bottom" : Str), ("many" : Str), ("part" : Str), ("top" : Str)] [("tops" : Str), ("bottom" : Str)] (defScope s_over) := ⟨rfl, rfl, rfl, by decide +kernel, rfl, by decide +kernel, by decide +kernel⟩
theorem k_over {P : Program} {w : World} {K : PySem.W.Frag} {mg : Str → Option Value} {base : Heap} (hNT : base.NoSeer ∧ P.given.tree = none) (z_len : mg "len" = none) (z_tuple : mg "tuple" = none) (k_common_part : Cal P w K mg base 33 "common_part" [("one" : Str), ("other" : Str)] (spP K 2 m_common_part)) (D : DefIn K mg "over" s_over [("tops" : Str), ("bottom" : Str)]) : Cal P w K mg base 34 "over" [("tops" : Str), ("bottom" : Str)] (spP K 2 m_over) := by
  unfold m_over
  exact calP D sc_over (by decide) (fun f cdv A outer s H E hr => ⟨_, ((qss_cons (qs_set 2 sc_over.nd (q_len z_len (qa_cons (q_var 0) qa_nil)))
    (qss_cons (qs_while PassesOwn.never (qt_w (qw_and (qt_gt (q_var 2) q_int) (qw_and1 (qt_eq hr (q_ix (q_var 0) (q_sub (q_var 2) q_int)) q_int))))
    (qss_one (qs_set 2 sc_over.nd (q_sub (q_var 2) q_int))))
    (qss_cons (qs_set 3 sc_over.nd (q_var 1))
    (qss_cons (qs_for PassesOwn.never rfl (qi_any (q_slA (q_var 0) qo_none (qo_some (q_var 2)))) (qg_name 4 sc_over.nd)
    (qss_one (qs_set 3 sc_over.nd (q_calP k_common_part hr (by decide) (qa_cons (q_var 3) (qa_cons (q_var 4) qa_nil))))))
    (qss_one (qs_ret (q_tup (qa_cons (q_tuple z_tuple (qa_cons (q_frz (qn_lc (g := (gName 4)) (tt := tYes) (te := (tOp rDivI (tVar 4) (tVar 3))) (gm := (gNameM 4)) (cm := bYes) (em := (eOp fDiv (eVar 4) (eVar 3))) (ws := [4]) [(("top" : Str), 4)] rfl sc_over.nd (qi_any (q_slA (q_var 0) qo_none (qo_some (q_var 2)))) rfl rfl (by kernel_rfl) (fun _ _ _ _ _ => (qg_name 4 sc_over.nd)) (fun _ _ _ _ _ => qts_nil) (fun _ _ _ _ _ => (q_div (seX hNT hr (by decide) ⟨_, _, rfl, rfl, rfl, rfl, rfl⟩) (q_var 4) (q_var 3))) (by decide))) qa_nil)) (qa_cons (q_div (seX hNT hr (by decide) ⟨_, _, rfl, rfl, rfl, rfl, rfl⟩) (q_var 1) (q_var 3)) qa_nil))))))))))⟩)
abbrev s_poly : Stmt := topS 9
theorem sc_poly : FnScope [("some" : Str), ("bottom" : Str), ("top" : Str), ("own" : Str)] [("some" : Str)] (defScope s_poly) := ⟨rfl, rfl, rfl, by decide +kernel, rfl, by decide +kernel, by decide +kernel⟩
theorem k_poly {P : Program} {w : World} {K : PySem.W.Frag} {mg : Str → Option Value} {base : Heap} (hNT : base.NoSeer ∧ P.given.tree = none) (k_over : Cal P w K mg base 34 "over" [("tops" : Str), ("bottom" : Str)] (spP K 2 m_over)) (k_common_part : Cal P w K mg base 33 "common_part" [("one" : Str), ("other" : Str)] (spP K 2 m_common_part)) (D : DefIn K mg "poly" s_poly [("some" : Str)]) : Cal P w K mg base 35 "poly" [("some" : Str)] (spP K 1 m_poly) := by
  unfold m_poly
  exact calP D sc_poly (by decide) (fun f cdv A outer s H E hr => ⟨_, ((qss_cons (qs_set 1 sc_poly.nd q_int)
    (qss_cons (qs_for PassesOwn.never rfl (qi_any (q_var 0)) (qg_tup rfl (qgs_cons (qg_name 2 sc_poly.nd) (gName_noEx 2) (qgs_cons (qg_name 3 sc_poly.nd) (gName_noEx 3) qgs_nil)))
    (qss_one (qs_set 1 sc_poly.nd (q_div (seX hNT hr (by decide) ⟨_, _, rfl, rfl, rfl, rfl, rfl⟩) (q_mulA (q_var 1) (q_var 3)) (q_calP k_common_part hr (by decide) (qa_cons (q_var 1) (qa_cons (q_var 3) qa_nil)))))))
    (qss_one (qs_ret (q_calP k_over hr (by decide) (qa_cons (q_frz (qn_lc (g := (gTup K 2 (gCons (gName 2) (gCons (gName 3) gNil)))) (tt := tYes) (te := (tOp (rMulA K) (tVar 2) (tOp rDivI (tVar 1) (tVar 3)))) (gm := (gTupM 2 (gConsM (gNameM 2) (gConsM (gNameM 3) gNilM)))) (cm := bYes) (em := (eOp fMulA (eVar 2) (eOp fDiv (eVar 1) (eVar 3)))) (ws := ([2] ++ ([3] ++ []))) [(("top" : Str), 2), (("own" : Str), 3)] rfl sc_poly.nd (qi_any (q_var 0)) rfl rfl (by kernel_rfl) (fun _ _ _ _ _ => (qg_tup rfl (qgs_cons (qg_name 2 sc_poly.nd) (gName_noEx 2) (qgs_cons (qg_name 3 sc_poly.nd) (gName_noEx 3) qgs_nil)))) (fun _ _ _ _ _ => qts_nil) (fun _ _ _ _ _ => (q_mulA (q_var 2) (q_div (seX hNT hr (by decide) ⟨_, _, rfl, rfl, rfl, rfl, rfl⟩) (q_var 1) (q_var 3)))) (by decide))) (qa_cons (q_var 1) qa_nil))))))))⟩)
abbrev s_fraction_at : Stmt := topS 10
theorem sc_fraction_at : FnScope [("p" : Str), ("k" : Str)] [("p" : Str), ("k" : Str)] (defScope s_fraction_at) := ⟨rfl, rfl, rfl, by decide +kernel, rfl, by decide +kernel, by decide +kernel⟩
theorem k_fraction_at {P : Program} {w : World} {K : PySem.W.Frag} {mg : Str → Option Value} {base : Heap} (hNT : base.NoSeer ∧ P.given.tree = none) (z_len : mg "len" = none) (k_fraction : Cal P w K mg base 34 "fraction" [("top" : Str), ("bottom" : Str)] (spP K 2 m_fraction)) (D : DefIn K mg "fraction_at" s_fraction_at [("p" : Str), ("k" : Str)]) : Cal P w K mg base 35 "fraction_at" [("p" : Str), ("k" : Str)] (spP K 2 m_fraction_at) := by
  unfold m_fraction_at
  exact calP D sc_fraction_at (by decide) (fun f cdv A outer s H E hr => ⟨_, ((qss_cons (qs_if (qt_ge (q_var 1) (q_len z_len (qa_cons (q_ix (q_var 0) q_int) qa_nil)))
    (qss_one (qs_ret (q_tup (qa_cons q_int (qa_cons q_int qa_nil)))))
    qss_nil)
    (qss_one (qs_ret (q_calP k_fraction hr (by decide) (qa_cons (q_ix (q_ix (q_var 0) q_int) (q_var 1)) (qa_cons (q_ix (q_var 0) q_int) qa_nil)))))))⟩)
abbrev s_degree : Stmt := topS 11
theorem sc_degree : FnScope [("p" : Str)] [("p" : Str)] (defScope s_degree) := ⟨rfl, rfl, rfl, by decide +kernel, rfl, by decide +kernel, by decide +kernel⟩
theorem k_degree {P : Program} {w : World} {K : PySem.W.Frag} {mg : Str → Option Value} {base : Heap} (hNT : base.NoSeer ∧ P.given.tree = none) (z_len : mg "len" = none) (D : DefIn K mg "degree" s_degree [("p" : Str)]) : Cal P w K mg base 33 "degree" [("p" : Str)] (spP K 1 m_degree) := by
  unfold m_degree
  exact calP D sc_degree (by decide) (fun f cdv A outer s H E hr => ⟨_, ((qss_one (qs_ret (q_sub (q_len z_len (qa_cons (q_ix (q_var 0) q_int) qa_nil)) q_int))))⟩)
abbrev s_times : Stmt := topS 12
theorem sc_times : FnScope [("p" : Str), ("other" : Str), ("found" : Str), ("k" : Str), ("top" : Str), ("j" : Str), ("more" : Str)] [("p" : Str), ("other" : Str)] (defScope s_times) := ⟨rfl, rfl, rfl, by decide +kernel, rfl, by decide +kernel, by decide +kernel⟩
theorem k_times {P : Program} {w : World} {K : PySem.W.Frag} {mg : Str → Option Value} {base : Heap} (hNT : base.NoSeer ∧ P.given.tree = none) (z_enumerate : mg "enumerate" = none) (z_len : mg "len" = none) (k_over : Cal P w K mg base 34 "over" [("tops" : Str), ("bottom" : Str)] (spP K 2 m_over)) (D : DefIn K mg "times" s_times [("p" : Str), ("other" : Str)]) : Cal P w K mg base 35 "times" [("p" : Str), ("other" : Str)] (spP K 2 m_times) := by
  unfold m_times
  exact calP D sc_times (by decide) (fun f cdv A outer s H E hr => ⟨_, ((qss_cons (qs_set 2 sc_times.nd (q_own (qn_rep (q_frz (qn_disp (qa_cons q_int qa_nil))) (q_addA (q_len z_len (qa_cons (q_ix (q_var 0) q_int) qa_nil)) (q_len z_len (qa_cons (q_ix (q_var 1) q_int) qa_nil))))))
    (qss_cons (qs_for PassesOwn.never rfl (qi_enum z_enumerate (qa_cons (q_ix (q_var 0) q_int) qa_nil)) (qg_tup rfl (qgs_cons (qg_name 3 sc_times.nd) (gName_noEx 3) (qgs_cons (qg_name 4 sc_times.nd) (gName_noEx 4) qgs_nil)))
    (qss_one (qs_for PassesOwn.never rfl (qi_enum z_enumerate (qa_cons (q_ix (q_var 1) q_int) qa_nil)) (qg_tup rfl (qgs_cons (qg_name 5 sc_times.nd) (gName_noEx 5) (qgs_cons (qg_name 6 sc_times.nd) (gName_noEx 6) qgs_nil)))
    (qss_one (qs_asg (q_addA (q_ix (q_var 2) (q_addA (q_var 3) (q_var 5))) (q_mulA (q_var 4) (q_var 6))) (qg_sub (q_var 2) (q_addA (q_var 3) (q_var 5))))))))
    (qss_one (qs_ret (q_calP k_over hr (by decide) (qa_cons (q_var 2) (qa_cons (q_mulA (q_ix (q_var 0) q_int) (q_ix (q_var 1) q_int)) qa_nil))))))))⟩)
abbrev s_power : Stmt := topS 13
theorem sc_power : FnScope [("p" : Str), ("k" : Str), ("found" : Str), ("turn" : Str)] [("p" : Str), ("k" : Str)] (defScope s_power) := ⟨rfl, rfl, rfl, by decide +kernel, rfl, by decide +kernel, by decide +kernel⟩
theorem k_power {P : Program} {w : World} {K : PySem.W.Frag} {mg : Str → Option Value} {base : Heap} (hNT : base.NoSeer ∧ P.given.tree = none) (z_range : mg "range" = none) (k_times : Cal P w K mg base 35 "times" [("p" : Str), ("other" : Str)] (spP K 2 m_times)) (hC_ONE_polys : ConIn K mg "ONE_polys" c_ONE) (D : DefIn K mg "power" s_power [("p" : Str), ("k" : Str)]) : Cal P w K mg base 36 "power" [("p" : Str), ("k" : Str)] (spP K 2 m_power) := by
  obtain ⟨u_ONE_polys, v_ONE_polys, hm_ONE_polys, hc_ONE_polys⟩ := hC_ONE_polys.ex
  unfold m_power
  exact calP D sc_power (by decide) (fun f cdv A outer s H E hr => ⟨_, ((qss_cons (qs_set 2 sc_power.nd (q_glob (by rfl) hm_ONE_polys hc_ONE_polys))
    (qss_cons (qs_for PassesOwn.never rfl (qi_r1 z_range (qa_cons (q_var 1) qa_nil)) (qg_name 3 sc_power.nd)
    (qss_one (qs_set 2 sc_power.nd (q_calP k_times hr (by decide) (qa_cons (q_var 2) (qa_cons (q_var 0) qa_nil))))))
    (qss_one (qs_ret (q_var 2))))))⟩)
abbrev s_less_times : Stmt := topS 17
theorem sc_less_times : FnScope [("row" : Str), ("other" : Str), ("r" : Str), ("a" : Str), ("b" : Str)] [("row" : Str), ("other" : Str), ("r" : Str)] (defScope s_less_times) := ⟨rfl, rfl, rfl, by decide +kernel, rfl, by decide +kernel, by decide +kernel⟩
theorem k_less_times {P : Program} {w : World} {K : PySem.W.Frag} {mg : Str → Option Value} {base : Heap} (hNT : base.NoSeer ∧ P.given.tree = none) (z_zip : mg "zip" = none) (k_taken : Cal P w K mg base 35 "taken" [("one" : Str), ("other" : Str)] (spP K 2 m_taken)) (k_multiplied : Cal P w K mg base 35 "multiplied" [("one" : Str), ("other" : Str)] (spP K 2 m_multiplied)) (D : DefIn K mg "less_times" s_less_times [("row" : Str), ("other" : Str), ("r" : Str)]) : Cal P w K mg base 36 "less_times" [("row" : Str), ("other" : Str), ("r" : Str)] (spP K 3 m_less_times) := by
  unfold m_less_times
  exact calP D sc_less_times (by decide) (fun f cdv A outer s H E hr => ⟨_, ((qss_one (qs_ret (q_frz (qn_lc (g := (gTup K 2 (gCons (gName 3) (gCons (gName 4) gNil)))) (tt := tYes) (te := (tCall (spP K 2 m_taken) [] E0 (tCons (tVar 3) (tCons (tCall (spP K 2 m_multiplied) [] E0 (tCons (tVar 2) (tCons (tVar 4) tNil))) tNil)))) (gm := (gTupM 2 (gConsM (gNameM 3) (gConsM (gNameM 4) gNilM)))) (cm := bYes) (em := (eCallP 2 m_taken (aCons (eVar 3) (aCons (eCallP 2 m_multiplied (aCons (eVar 2) (aCons (eVar 4) aNil))) aNil)))) (ws := ([3] ++ ([4] ++ []))) [(("a" : Str), 3), (("b" : Str), 4)] rfl sc_less_times.nd (qi_zip z_zip (qa_cons (q_var 0) (qa_cons (q_var 1) qa_nil))) rfl rfl (by kernel_rfl) (fun _ _ _ _ _ => (qg_tup rfl (qgs_cons (qg_name 3 sc_less_times.nd) (gName_noEx 3) (qgs_cons (qg_name 4 sc_less_times.nd) (gName_noEx 4) qgs_nil)))) (fun _ _ _ _ _ => qts_nil) (fun _ _ _ _ _ => (q_calP k_taken hr (by decide) (qa_cons (q_var 3) (qa_cons (q_calP k_multiplied hr (by decide) (qa_cons (q_var 2) (qa_cons (q_var 4) qa_nil))) qa_nil)))) (by decide))))))⟩)
abbrev s_with_weights : Stmt := topS 18
theorem sc_with_weights : FnScope [("rows" : Str), ("found" : Str), ("k" : Str), ("fractions" : Str), ("due" : Str), ("own" : Str)] [("rows" : Str)] (defScope s_with_weights) := ⟨rfl, rfl, rfl, by decide +kernel, rfl, by decide +kernel, by decide +kernel⟩
theorem k_with_weights {P : Program} {w : World} {K : PySem.W.Frag} {mg : Str → Option Value} {base : Heap} (hNT : base.NoSeer ∧ P.given.tree = none) (z_enumerate : mg "enumerate" = none) (z_len : mg "len" = none) (z_list : mg "list" = none) (hC_ONE_sums : ConIn K mg "ONE_sums" c_ONCE) (hC_NOUGHT_sums : ConIn K mg "NOUGHT_sums" c_NONE_AT_ALL) (D : DefIn K mg "with_weights" s_with_weights [("rows" : Str)]) : Cal P w K mg base 33 "with_weights" [("rows" : Str)] (spP K 1 m_with_weights) := by
  obtain ⟨u_ONE_sums, v_ONE_sums, hm_ONE_sums, hc_ONE_sums⟩ := hC_ONE_sums.ex
  obtain ⟨u_NOUGHT_sums, v_NOUGHT_sums, hm_NOUGHT_sums, hc_NOUGHT_sums⟩ := hC_NOUGHT_sums.ex
  unfold m_with_weights
  exact calP D sc_with_weights (by decide) (fun f cdv A outer s H E hr => ⟨_, ((qss_cons (qs_set 1 sc_with_weights.nd (q_own (qn_disp qa_nil)))
    (qss_cons (qs_for PassesOwn.never rfl (qi_enum z_enumerate (qa_cons (q_var 0) qa_nil)) (qg_tup rfl (qgs_cons (qg_name 2 sc_with_weights.nd) (gName_noEx 2) (qgs_cons (qg_tup rfl (qgs_cons (qg_name 3 sc_with_weights.nd) (gName_noEx 3) (qgs_cons (qg_name 4 sc_with_weights.nd) (gName_noEx 4) qgs_nil))) (gTup_noEx (gCons_noEx (gName_noEx 3) (gCons_noEx (gName_noEx 4) gNil_noEx))) qgs_nil)))
    (qss_cons (qs_set 5 sc_with_weights.nd (q_own (qn_rep (q_frz (qn_disp (qa_cons (q_glob (by rfl) hm_NOUGHT_sums hc_NOUGHT_sums) qa_nil))) (q_len z_len (qa_cons (q_var 0) qa_nil)))))
    (qss_cons (qs_asg (q_glob (by rfl) hm_ONE_sums hc_ONE_sums) (qg_sub (q_var 5) (q_var 2)))
    (qss_one (qs_expr (q_append (q_var 1) (qa_cons (q_addA (q_addA (q_frz (qn_list z_list (qa_cons (q_var 3) qa_nil))) (q_frz (qn_disp (qa_cons (q_var 4) qa_nil)))) (q_var 5)) qa_nil)))))))
    (qss_one (qs_ret (q_var 1))))))⟩)
abbrev s_pivot : Stmt := topS 19
theorem sc_pivot : FnScope [("rows" : Str), ("done" : Str), ("at" : Str), ("k" : Str)] [("rows" : Str), ("done" : Str), ("at" : Str)] (defScope s_pivot) := ⟨rfl, rfl, rfl, by decide +kernel, rfl, by decide +kernel, by decide +kernel⟩
theorem k_pivot {P : Program} {w : World} {K : PySem.W.Frag} {mg : Str → Option Value} {base : Heap} (hNT : base.NoSeer ∧ P.given.tree = none) (z_len : mg "len" = none) (z_range : mg "range" = none) (hC_NOUGHT_sums : ConIn K mg "NOUGHT_sums" c_NONE_AT_ALL) (D : DefIn K mg "pivot" s_pivot [("rows" : Str), ("done" : Str), ("at" : Str)]) : Cal P w K mg base 33 "pivot" [("rows" : Str), ("done" : Str), ("at" : Str)] (spU K 3 m_pivot) := by
  obtain ⟨u_NOUGHT_sums, v_NOUGHT_sums, hm_NOUGHT_sums, hc_NOUGHT_sums⟩ := hC_NOUGHT_sums.ex
  unfold m_pivot
  exact calU D sc_pivot (by decide) (fun f cdv A outer s H E hr => ⟨_, ((qss_cons (qs_for PassesOwn.never rfl (qi_r1 z_range (qa_cons (q_len z_len (qa_cons (q_var 0) qa_nil)) qa_nil)) (qg_name 3 sc_pivot.nd)
    (qss_one (qs_if (qt_w (qw_and (qt_dnotin hr (q_var 3) (q_var 1)) (qw_and1 (qt_ne hr (q_ix (q_ix (q_var 0) (q_var 3)) (q_var 2)) (q_glob (by rfl) hm_NOUGHT_sums hc_NOUGHT_sums)))))
    (qss_one (qs_ret (q_var 3)))
    qss_nil)))
    (qss_one (qs_ret q_non))))⟩)
abbrev s_cleared : Stmt := topS 20
theorem sc_cleared : FnScope [("rows" : Str), ("k" : Str), ("at" : Str), ("own" : Str), ("found" : Str), ("j" : Str), ("row" : Str), ("one" : Str)] [("rows" : Str), ("k" : Str), ("at" : Str)] (defScope s_cleared) := ⟨rfl, rfl, rfl, by decide +kernel, rfl, by decide +kernel, by decide +kernel⟩
theorem k_cleared {P : Program} {w : World} {K : PySem.W.Frag} {mg : Str → Option Value} {base : Heap} (hNT : base.NoSeer ∧ P.given.tree = none) (z_enumerate : mg "enumerate" = none) (k_less_times : Cal P w K mg base 36 "less_times" [("row" : Str), ("other" : Str), ("r" : Str)] (spP K 3 m_less_times)) (k_divided : Cal P w K mg base 35 "divided" [("one" : Str), ("other" : Str)] (spP K 2 m_divided)) (D : DefIn K mg "cleared" s_cleared [("rows" : Str), ("k" : Str), ("at" : Str)]) : Cal P w K mg base 37 "cleared" [("rows" : Str), ("k" : Str), ("at" : Str)] (spP K 3 m_cleared) := by
  unfold m_cleared
  exact calP D sc_cleared (by decide) (fun f cdv A outer s H E hr => ⟨_, ((qss_cons (qs_setLc (g := (gName 7)) (tt := tYes) (te := (tCall (spP K 2 m_divided) [] E0 (tCons (tVar 7) (tCons (tOp (rIx K) (tOp (rIx K) (tVar 0) (tVar 1)) (tVar 2)) tNil)))) (gm := (gNameM 7)) (cm := bYes) (em := (eCallP 2 m_divided (aCons (eVar 7) (aCons (eOp fIx (eOp fIx (eVar 0) (eVar 1)) (eVar 2)) aNil)))) (ws := [7]) 3 [(("one" : Str), 7)] true rfl sc_cleared.nd (sw_true rfl rfl rfl (by decide +kernel)) (qi_any (q_ix (q_var 0) (q_var 1))) rfl rfl (by kernel_rfl) (fun _ _ _ _ _ => (qg_name 7 sc_cleared.nd)) (fun _ _ _ _ _ => qts_nil) (fun _ _ _ _ _ => (q_calP k_divided hr (by decide) (qa_cons (q_var 7) (qa_cons (q_ix (q_ix (q_var 0) (q_var 1)) (q_var 2)) qa_nil)))) (by decide))
    (qss_cons (qs_set 4 sc_cleared.nd (q_own (qn_disp qa_nil)))
    (qss_cons (qs_for PassesOwn.never rfl (qi_enum z_enumerate (qa_cons (q_var 0) qa_nil)) (qg_tup rfl (qgs_cons (qg_name 5 sc_cleared.nd) (gName_noEx 5) (qgs_cons (qg_name 6 sc_cleared.nd) (gName_noEx 6) qgs_nil)))
    (qss_one (qs_if (qt_eq hr (q_var 5) (q_var 1))
    (qss_one (qs_expr (q_append (q_var 4) (qa_cons (q_var 3) qa_nil))))
    (qss_one (qs_expr (q_append (q_var 4) (qa_cons (q_calP k_less_times hr (by decide) (qa_cons (q_var 6) (qa_cons (q_var 3) (qa_cons (q_ix (q_var 6) (q_var 2)) qa_nil)))) qa_nil)))))))
    (qss_one (qs_ret (q_var 4)))))))⟩)
abbrev s_solved : Stmt := topS 21
theorem sc_solved : FnScope [("rows" : Str), ("many" : Str), ("left" : Str), ("done" : Str), ("at" : Str), ("k" : Str), ("row" : Str), ("found" : Str)] [("rows" : Str)] (defScope s_solved) := ⟨rfl, rfl, rfl, by decide +kernel, rfl, by decide +kernel, by decide +kernel⟩
theorem k_solved {P : Program} {w : World} {K : PySem.W.Frag} {mg : Str → Option Value} {base : Heap} (hNT : base.NoSeer ∧ P.given.tree = none) (z_enumerate : mg "enumerate" = none) (z_len : mg "len" = none) (z_range : mg "range" = none) (z_tuple : mg "tuple" = none) (k_cleared : Cal P w K mg base 37 "cleared" [("rows" : Str), ("k" : Str), ("at" : Str)] (spP K 3 m_cleared)) (k_pivot : Cal P w K mg base 33 "pivot" [("rows" : Str), ("done" : Str), ("at" : Str)] (spU K 3 m_pivot)) (k_with_weights : Cal P w K mg base 33 "with_weights" [("rows" : Str)] (spP K 1 m_with_weights)) (hC_NOUGHT_sums : ConIn K mg "NOUGHT_sums" c_NONE_AT_ALL) (D : DefIn K mg "solved" s_solved [("rows" : Str)]) : Cal P w K mg base 38 "solved" [("rows" : Str)] (spP K 1 m_solved) := by
  obtain ⟨u_NOUGHT_sums, v_NOUGHT_sums, hm_NOUGHT_sums, hc_NOUGHT_sums⟩ := hC_NOUGHT_sums.ex
  unfold m_solved
  exact calP D sc_solved (by decide) (fun f cdv A outer s H E hr => ⟨_, ((qss_cons (qs_set 1 sc_solved.nd (q_len z_len (qa_cons (q_ix (q_ix (q_var 0) q_int) q_int) qa_nil)))
    (qss_cons (qs_set 2 sc_solved.nd (q_calP k_with_weights hr (by decide) (qa_cons (q_var 0) qa_nil)))
    (qss_cons (qs_set 3 sc_solved.nd q_newD)
    (qss_cons (qs_for PassesOwn.never rfl (qi_r1 z_range (qa_cons (q_var 1) qa_nil)) (qg_name 4 sc_solved.nd)
    (qss_cons (qs_set 5 sc_solved.nd (q_with 3 (q_calU k_pivot hr (by decide) (qa_cons (q_var 2) (qa_cons (q_var 3) (qa_cons (q_var 4) qa_nil))))))
    (qss_one (qs_if (qt_notN (q_var 5) q_non)
    (qss_cons (qs_set 2 sc_solved.nd (q_calP k_cleared hr (by decide) (qa_cons (q_var 2) (qa_cons (q_var 5) (qa_cons (q_var 4) qa_nil)))))
    (qss_one (qs_dput hr (q_var 3) (q_var 5) (q_var 4))))
    qss_nil))))
    (qss_cons (qs_for PassesOwn.never rfl (qi_enum z_enumerate (qa_cons (q_var 2) qa_nil)) (qg_tup rfl (qgs_cons (qg_name 5 sc_solved.nd) (gName_noEx 5) (qgs_cons (qg_name 6 sc_solved.nd) (gName_noEx 6) qgs_nil)))
    (qss_one (qs_if (qt_w (qw_and (qt_dnotin hr (q_var 5) (q_var 3)) (qw_and1 (qt_ne hr (q_ix (q_var 6) (q_var 1)) (q_glob (by rfl) hm_NOUGHT_sums hc_NOUGHT_sums)))))
    (qss_one (qs_ret (q_tup (qa_cons q_str (qa_cons (q_tuple z_tuple (qa_cons (q_slA (q_var 6) (qo_some (q_addA (q_var 1) q_int)) qo_none) qa_nil)) qa_nil)))))
    qss_nil)))
    (qss_cons (qs_set 7 sc_solved.nd (q_own (qn_rep (q_frz (qn_disp (qa_cons (q_glob (by rfl) hm_NOUGHT_sums hc_NOUGHT_sums) qa_nil))) (q_var 1))))
    (qss_cons (qs_lkS 3 (qs_for PassesOwn.never rfl (qi_dct (q_var 3)) (qg_name 5 sc_solved.nd)
    (qss_one (qs_asg (q_ix (q_ix (q_var 2) (q_var 5)) (q_var 1)) (qg_sub (q_var 7) (q_dget hr (q_var 3) (q_var 5)))))))
    (qss_one (qs_ret (q_tup (qa_cons q_str (qa_cons (q_tuple z_tuple (qa_cons (q_var 7) qa_nil)) qa_nil)))))))))))))⟩)
abbrev s_least_multiple : Stmt := topS 25
theorem sc_least_multiple : FnScope [("m" : Str), ("k" : Str), ("one" : Str), ("other" : Str)] [("m" : Str), ("k" : Str)] (defScope s_least_multiple) := ⟨rfl, rfl, rfl, by decide +kernel, rfl, by decide +kernel, by decide +kernel⟩
theorem k_least_multiple {P : Program} {w : World} {K : PySem.W.Frag} {mg : Str → Option Value} {base : Heap} (hNT : base.NoSeer ∧ P.given.tree = none) (D : DefIn K mg "least_multiple" s_least_multiple [("m" : Str), ("k" : Str)]) : Cal P w K mg base 33 "least_multiple" [("m" : Str), ("k" : Str)] (spP K 2 m_least_multiple) := by
  unfold m_least_multiple
  exact calP D sc_least_multiple (by decide) (fun f cdv A outer s H E hr => ⟨_, ((qss_cons (qs_par 2 3 rfl sc_least_multiple.nd (qa_cons (q_var 0) (qa_cons (q_var 1) qa_nil)))
    (qss_cons (qs_while PassesOwn.never (qt_gt (q_var 3) q_int)
    (qss_one (qs_par 2 3 rfl sc_least_multiple.nd (qa_cons (q_var 3) (qa_cons (q_mod (q_var 2) (q_var 3)) qa_nil)))))
    (qss_one (qs_ret (q_mulA (q_div (seX hNT hr (by decide) ⟨_, _, rfl, rfl, rfl, rfl, rfl⟩) (q_var 0) (q_var 2)) (q_var 1)))))))⟩)
abbrev s_shape : Stmt := topS 26
theorem sc_shape : FnScope [("f" : Str), ("g" : Str), ("most" : Str)] [("f" : Str), ("g" : Str)] (defScope s_shape) := ⟨rfl, rfl, rfl, by decide +kernel, rfl, by decide +kernel, by decide +kernel⟩
theorem k_shape {P : Program} {w : World} {K : PySem.W.Frag} {mg : Str → Option Value} {base : Heap} (hNT : base.NoSeer ∧ P.given.tree = none) (k_degree : Cal P w K mg base 33 "degree" [("p" : Str)] (spP K 1 m_degree)) (k_least_multiple : Cal P w K mg base 33 "least_multiple" [("m" : Str), ("k" : Str)] (spP K 2 m_least_multiple)) (D : DefIn K mg "shape" s_shape [("f" : Str), ("g" : Str)]) : Cal P w K mg base 34 "shape" [("f" : Str), ("g" : Str)] (spP K 2 m_shape) := by
  unfold m_shape
  exact calP D sc_shape (by decide) (fun f cdv A outer s H E hr => ⟨_, ((qss_cons (qs_set 2 sc_shape.nd (q_calP k_least_multiple hr (by decide) (qa_cons (q_calP k_degree hr (by decide) (qa_cons (q_var 0) qa_nil)) (qa_cons (q_calP k_degree hr (by decide) (qa_cons (q_var 1) qa_nil)) qa_nil))))
    (qss_one (qs_ret (q_tup (qa_cons (q_var 2) (qa_cons (q_div (seX hNT hr (by decide) ⟨_, _, rfl, rfl, rfl, rfl, rfl⟩) (q_var 2) (q_calP k_degree hr (by decide) (qa_cons (q_var 0) qa_nil))) (qa_cons (q_div (seX hNT hr (by decide) ⟨_, _, rfl, rfl, rfl, rfl, rfl⟩) (q_var 2) (q_calP k_degree hr (by decide) (qa_cons (q_var 1) qa_nil))) qa_nil))))))))⟩)
abbrev s_columns : Stmt := topS 27
theorem sc_columns : FnScope [("f" : Str), ("g" : Str), ("most" : Str), ("high" : Str), ("wide" : Str), ("some" : Str), ("i" : Str), ("j" : Str)] [("f" : Str), ("g" : Str)] (defScope s_columns) := ⟨rfl, rfl, rfl, by decide +kernel, rfl, by decide +kernel, by decide +kernel⟩
theorem k_columns {P : Program} {w : World} {K : PySem.W.Frag} {mg : Str → Option Value} {base : Heap} (hNT : base.NoSeer ∧ P.given.tree = none) (z_range : mg "range" = none) (k_power : Cal P w K mg base 36 "power" [("p" : Str), ("k" : Str)] (spP K 2 m_power)) (k_shape : Cal P w K mg base 34 "shape" [("f" : Str), ("g" : Str)] (spP K 2 m_shape)) (D : DefIn K mg "columns" s_columns [("f" : Str), ("g" : Str)]) : Cal P w K mg base 37 "columns" [("f" : Str), ("g" : Str)] (spP K 2 m_columns) := by
  unfold m_columns
  exact calP D sc_columns (by decide) (fun f cdv A outer s H E hr => ⟨_, ((qss_cons (qs_asg (q_calP k_shape hr (by decide) (qa_cons (q_var 0) (qa_cons (q_var 1) qa_nil))) (qg_tup rfl (qgs_cons (qg_name 2 sc_columns.nd) (gName_noEx 2) (qgs_cons (qg_name 3 sc_columns.nd) (gName_noEx 3) (qgs_cons (qg_name 4 sc_columns.nd) (gName_noEx 4) qgs_nil)))))
    (qss_cons (qs_set 5 sc_columns.nd (q_addA (q_frz (qn_lc (g := (gName 6)) (tt := tYes) (te := (tCall (spP K 2 m_power) [] E0 (tCons (tVar 0) (tCons (tVar 6) tNil)))) (gm := (gNameM 6)) (cm := bYes) (em := (eCallP 2 m_power (aCons (eVar 0) (aCons (eVar 6) aNil)))) (ws := [6]) [(("i" : Str), 6)] rfl sc_columns.nd (qi_r1 z_range (qa_cons (q_var 3) qa_nil)) rfl rfl (by kernel_rfl) (fun _ _ _ _ _ => (qg_name 6 sc_columns.nd)) (fun _ _ _ _ _ => qts_nil) (fun _ _ _ _ _ => (q_calP k_power hr (by decide) (qa_cons (q_var 0) (qa_cons (q_var 6) qa_nil)))) (by decide))) (q_frz (qn_lc (g := (gName 7)) (tt := tYes) (te := (tCall (spP K 2 m_power) [] E0 (tCons (tVar 1) (tCons (tVar 7) tNil)))) (gm := (gNameM 7)) (cm := bYes) (em := (eCallP 2 m_power (aCons (eVar 1) (aCons (eVar 7) aNil)))) (ws := [7]) [(("j" : Str), 7)] rfl sc_columns.nd (qi_r2 z_range (qa_cons q_int (qa_cons (q_addA (q_var 4) q_int) qa_nil))) rfl rfl (by kernel_rfl) (fun _ _ _ _ _ => (qg_name 7 sc_columns.nd)) (fun _ _ _ _ _ => qts_nil) (fun _ _ _ _ _ => (q_calP k_power hr (by decide) (qa_cons (q_var 1) (qa_cons (q_var 7) qa_nil)))) (by decide)))))
    (qss_one (qs_ret (q_tup (qa_cons (q_var 5) (qa_cons (q_calP k_power hr (by decide) (qa_cons (q_var 0) (qa_cons (q_var 3) qa_nil))) qa_nil))))))))⟩)
abbrev s_common_outer : Stmt := topS 28
theorem sc_common_outer : FnScope [("f" : Str), ("g" : Str), ("most" : Str), ("high" : Str), ("wide" : Str), ("some" : Str), ("due" : Str), ("rows" : Str), ("k" : Str), ("told" : Str), ("found" : Str), ("u" : Str), ("one" : Str), ("p" : Str)] [("f" : Str), ("g" : Str)] (defScope s_common_outer) := ⟨rfl, rfl, rfl, by decide +kernel, rfl, by decide +kernel, by decide +kernel⟩
theorem k_common_outer {P : Program} {w : World} {K : PySem.W.Frag} {mg : Str → Option Value} {base : Heap} (hNT : base.NoSeer ∧ P.given.tree = none) (z_list : mg "list" = none) (z_range : mg "range" = none) (z_tuple : mg "tuple" = none) (k_poly : Cal P w K mg base 35 "poly" [("some" : Str)] (spP K 1 m_poly)) (k_multiplied : Cal P w K mg base 35 "multiplied" [("one" : Str), ("other" : Str)] (spP K 2 m_multiplied)) (k_solved : Cal P w K mg base 38 "solved" [("rows" : Str)] (spP K 1 m_solved)) (k_fraction_at : Cal P w K mg base 35 "fraction_at" [("p" : Str), ("k" : Str)] (spP K 2 m_fraction_at)) (k_columns : Cal P w K mg base 37 "columns" [("f" : Str), ("g" : Str)] (spP K 2 m_columns)) (k_shape : Cal P w K mg base 34 "shape" [("f" : Str), ("g" : Str)] (spP K 2 m_shape)) (hC_NOUGHT_outer : ConIn K mg "NOUGHT_outer" c_NONE_AT_ALL) (hC_ONE_outer : ConIn K mg "ONE_outer" c_ONCE) (D : DefIn K mg "common_outer" s_common_outer [("f" : Str), ("g" : Str)]) : Cal P w K mg base 39 "common_outer" [("f" : Str), ("g" : Str)] (spP K 2 m_common_outer) := by
  obtain ⟨u_NOUGHT_outer, v_NOUGHT_outer, hm_NOUGHT_outer, hc_NOUGHT_outer⟩ := hC_NOUGHT_outer.ex
  obtain ⟨u_ONE_outer, v_ONE_outer, hm_ONE_outer, hc_ONE_outer⟩ := hC_ONE_outer.ex
  unfold m_common_outer
  exact calP D sc_common_outer (by decide) (fun f cdv A outer s H E hr => ⟨_, ((qss_cons (qs_asg (q_calP k_shape hr (by decide) (qa_cons (q_var 0) (qa_cons (q_var 1) qa_nil))) (qg_tup rfl (qgs_cons (qg_name 2 sc_common_outer.nd) (gName_noEx 2) (qgs_cons (qg_name 3 sc_common_outer.nd) (gName_noEx 3) (qgs_cons (qg_name 4 sc_common_outer.nd) (gName_noEx 4) qgs_nil)))))
    (qss_cons (qs_asg (q_calP k_columns hr (by decide) (qa_cons (q_var 0) (qa_cons (q_var 1) qa_nil))) (qg_tup rfl (qgs_cons (qg_name 5 sc_common_outer.nd) (gName_noEx 5) (qgs_cons (qg_name 6 sc_common_outer.nd) (gName_noEx 6) qgs_nil))))
    (qss_cons (qs_set 7 sc_common_outer.nd (q_own (qn_disp qa_nil)))
    (qss_cons (qs_for PassesOwn.never rfl (qi_r1 z_range (qa_cons (q_addA (q_var 2) q_int) qa_nil)) (qg_name 8 sc_common_outer.nd)
    (qss_one (qs_expr (q_append (q_var 7) (qa_cons (q_tup (qa_cons (q_tuple z_tuple (qa_cons (q_frz (qn_lc (g := (gName 13)) (tt := tYes) (te := (tCall (spP K 2 m_fraction_at) [] E0 (tCons (tVar 13) (tCons (tVar 8) tNil)))) (gm := (gNameM 13)) (cm := bYes) (em := (eCallP 2 m_fraction_at (aCons (eVar 13) (aCons (eVar 8) aNil)))) (ws := [13]) [(("p" : Str), 13)] rfl sc_common_outer.nd (qi_any (q_var 5)) rfl rfl (by kernel_rfl) (fun _ _ _ _ _ => (qg_name 13 sc_common_outer.nd)) (fun _ _ _ _ _ => qts_nil) (fun _ _ _ _ _ => (q_calP k_fraction_at hr (by decide) (qa_cons (q_var 13) (qa_cons (q_var 8) qa_nil)))) (by decide))) qa_nil)) (qa_cons (q_calP k_fraction_at hr (by decide) (qa_cons (q_var 6) (qa_cons (q_var 8) qa_nil))) qa_nil))) qa_nil)))))
    (qss_cons (qs_asg (q_calP k_solved hr (by decide) (qa_cons (q_tuple z_tuple (qa_cons (q_var 7) qa_nil)) qa_nil)) (qg_tup rfl (qgs_cons (qg_name 9 sc_common_outer.nd) (gName_noEx 9) (qgs_cons (qg_name 10 sc_common_outer.nd) (gName_noEx 10) qgs_nil))))
    (qss_cons (qs_if (qt_eq hr (q_var 9) q_str)
    (qss_one (qs_ret (q_tup (qa_cons q_str (qa_cons (q_var 10) qa_nil)))))
    qss_nil)
    (qss_cons (qs_set 11 sc_common_outer.nd (q_addA (q_frz (qn_lc (g := (gName 12)) (tt := tYes) (te := (tCall (spP K 2 m_multiplied) [] E0 (tCons (tTup (tCons (tUn rNegI (tC (.int 1))) (tCons (tC (.int 1)) tNil))) (tCons (tVar 12) tNil)))) (gm := (gNameM 12)) (cm := bYes) (em := (eCallP 2 m_multiplied (aCons (eTup (aCons (eC (.int (-1))) (aCons (eC (.int 1)) aNil))) (aCons (eVar 12) aNil)))) (ws := [12]) [(("one" : Str), 12)] rfl sc_common_outer.nd (qi_any (q_slA (q_var 10) qo_none (qo_some (q_var 3)))) rfl rfl (by kernel_rfl) (fun _ _ _ _ _ => (qg_name 12 sc_common_outer.nd)) (fun _ _ _ _ _ => qts_nil) (fun _ _ _ _ _ => (q_calP k_multiplied hr (by decide) (qa_cons (q_tup (qa_cons (q_neg 1) (qa_cons q_int qa_nil))) (qa_cons (q_var 12) qa_nil)))) (by decide))) (q_frz (qn_disp (qa_cons (q_glob (by rfl) hm_ONE_outer hc_ONE_outer) qa_nil)))))
    (qss_one (qs_ret (q_tup (qa_cons q_str (qa_cons (q_calP k_poly hr (by decide) (qa_cons (q_var 11) qa_nil)) (qa_cons (q_calP k_poly hr (by decide) (qa_cons (q_addA (q_frz (qn_disp (qa_cons (q_glob (by rfl) hm_NOUGHT_outer hc_NOUGHT_outer) qa_nil))) (q_frz (qn_list z_list (qa_cons (q_slA (q_var 10) (qo_some (q_var 3)) qo_none) qa_nil)))) qa_nil)) qa_nil))))))))))))))⟩)
abbrev s_L_flow : Stmt := topS 30
theorem sc_L_flow : FnScope [("_law_script" : Str)] [("_law_script" : Str)] (defScope s_L_flow) := ⟨rfl, rfl, rfl, by decide +kernel, rfl, by decide +kernel, by decide +kernel⟩
theorem k_L_flow {P : Program} {w : World} {K : PySem.W.Frag} {mg : Str → Option Value} {base : Heap} (hNT : base.NoSeer ∧ P.given.tree = none) (z_list : mg "list" = none) (D : DefIn K mg "_law_flow" s_L_flow [("_law_script" : Str)]) : Cal P w K mg base 33 "_law_flow" [("_law_script" : Str)] (spFl K) := by
  exact calFl (b := b_L_flow) D sc_L_flow rfl (by decide) (fun ns => rfl) (fun f cdv A outer s H E hr => ⟨_, ((qss_one (qs_ret (q_own (qn_disp (qa_cons (q_frz (qn_list z_list (qa_cons (q_var 0) qa_nil))) (qa_cons q_int (qa_cons q_int (qa_cons q_int (qa_cons q_int qa_nil))))))))))⟩)
abbrev s_L_pick : Stmt := topS 31
theorem sc_L_pick : FnScope [("_law_flow_here" : Str), ("_law_many" : Str), ("_law_cell" : Str), ("_law_digit" : Str)] [("_law_flow_here" : Str), ("_law_many" : Str)] (defScope s_L_pick) := ⟨rfl, rfl, rfl, by decide +kernel, rfl, by decide +kernel, by decide +kernel⟩
theorem k_L_pick {P : Program} {w : World} {K : PySem.W.Frag} {mg : Str → Option Value} {base : Heap} (hNT : base.NoSeer ∧ P.given.tree = none) (z_len : mg "len" = none) (D : DefIn K mg "_law_pick" s_L_pick [("_law_flow_here" : Str), ("_law_many" : Str)]) : Cal P w K mg base 33 "_law_pick" [("_law_flow_here" : Str), ("_law_many" : Str)] (spF K 2 m_L_pick) := by
  unfold m_L_pick
  exact calF D sc_L_pick (by decide) (fun f cdv A outer s H E hr => ⟨_, ((qss_cons (qs_if (qt_w (qw_and (qt_eq hr (q_ix (q_var 0) q_int) q_int) (qw_and1 (qt_lt (q_ix (q_var 0) q_int) (q_len z_len (qa_cons (q_ix (q_var 0) q_int) qa_nil))))))
    (qss_cons (qs_set 2 sc_L_pick.nd (q_ix (q_ix (q_var 0) q_int) (q_ix (q_var 0) q_int)))
    (qss_cons (qs_asg (q_addA (q_ix (q_var 0) q_int) q_int) (qg_sub (q_var 0) q_int))
    (qss_one (qs_if (qt_ge (q_var 2) (q_pow q_int q_int))
    (qss_one (qs_asg (q_var 2) (qg_sub (q_var 0) q_int)))
    (qss_one (qs_asg (q_mod (q_addA (q_addA (q_mulA (q_ix (q_var 0) q_int) q_int) (q_mod (q_var 2) q_int)) q_int) q_int) (qg_sub (q_var 0) q_int)))))))
    qss_nil)
    (qss_cons (qs_if (qt_gt (q_ix (q_var 0) q_int) q_int)
    (qss_cons (qs_set 3 sc_L_pick.nd (q_mod (q_ix (q_var 0) q_int) (q_var 1)))
    (qss_cons (qs_asg (q_div (seX hNT hr (by decide) ⟨_, _, rfl, rfl, rfl, rfl, rfl⟩) (q_ix (q_var 0) q_int) (q_var 1)) (qg_sub (q_var 0) q_int))
    (qss_one (qs_ret (q_var 3)))))
    qss_nil)
    (qss_cons (qs_asg (q_addA (q_ix (q_var 0) q_int) q_int) (qg_sub (q_var 0) q_int))
    (qss_cons (qs_asg (q_mod (q_addA (q_addA (q_mulA (q_ix (q_var 0) q_int) q_int) q_int) (q_ix (q_var 0) q_int)) q_int) (qg_sub (q_var 0) q_int))
    (qss_one (qs_ret (q_mod (q_div (seX hNT hr (by decide) ⟨_, _, rfl, rfl, rfl, rfl, rfl⟩) (q_mod (q_mulA (q_addA (q_mod (q_ix (q_var 0) q_int) q_int) q_int) (q_addA (q_div (seX hNT hr (by decide) ⟨_, _, rfl, rfl, rfl, rfl, rfl⟩) (q_ix (q_var 0) q_int) q_int) q_int)) q_int) q_int) (q_var 1)))))))))⟩)
abbrev s_L_common : Stmt := topS 32
theorem sc_L_common : FnScope [("_law_a" : Str), ("_law_b" : Str)] [("_law_a" : Str), ("_law_b" : Str)] (defScope s_L_common) := ⟨rfl, rfl, rfl, by decide +kernel, rfl, by decide +kernel, by decide +kernel⟩
theorem k_L_common {P : Program} {w : World} {K : PySem.W.Frag} {mg : Str → Option Value} {base : Heap} (hNT : base.NoSeer ∧ P.given.tree = none) (z_abs : mg "abs" = none) (D : DefIn K mg "_law_common" s_L_common [("_law_a" : Str), ("_law_b" : Str)]) : Cal P w K mg base 33 "_law_common" [("_law_a" : Str), ("_law_b" : Str)] (spP K 2 m_L_common) := by
  unfold m_L_common
  exact calP D sc_L_common (by decide) (fun f cdv A outer s H E hr => ⟨_, ((qss_cons (qs_while PassesOwn.never (qt_ne hr (q_var 1) q_int)
    (qss_one (qs_par 0 1 rfl sc_L_common.nd (qa_cons (q_var 1) (qa_cons (q_mod (q_var 0) (q_var 1)) qa_nil)))))
    (qss_one (qs_ret (q_abs z_abs (qa_cons (q_var 0) qa_nil))))))⟩)
abbrev s_L_fraction : Stmt := topS 33
theorem sc_L_fraction : FnScope [("_law_top" : Str), ("_law_bottom" : Str), ("_law_part" : Str)] [("_law_top" : Str), ("_law_bottom" : Str)] (defScope s_L_fraction) := ⟨rfl, rfl, rfl, by decide +kernel, rfl, by decide +kernel, by decide +kernel⟩
theorem k_L_fraction {P : Program} {w : World} {K : PySem.W.Frag} {mg : Str → Option Value} {base : Heap} (hNT : base.NoSeer ∧ P.given.tree = none) (k_L_common : Cal P w K mg base 33 "_law_common" [("_law_a" : Str), ("_law_b" : Str)] (spP K 2 m_L_common)) (D : DefIn K mg "_law_fraction" s_L_fraction [("_law_top" : Str), ("_law_bottom" : Str)]) : Cal P w K mg base 34 "_law_fraction" [("_law_top" : Str), ("_law_bottom" : Str)] (spP K 2 m_L_fraction) := by
  unfold m_L_fraction
  exact calP D sc_L_fraction (by decide) (fun f cdv A outer s H E hr => ⟨_, ((qss_cons (qs_set 2 sc_L_fraction.nd (q_calP k_L_common hr (by decide) (qa_cons (q_var 0) (qa_cons (q_var 1) qa_nil))))
    (qss_cons (qs_if (qt_lt (q_var 1) q_int)
    (qss_one (qs_set 2 sc_L_fraction.nd (q_sub q_int (q_var 2))))
    qss_nil)
    (qss_one (qs_ret (q_tup (qa_cons (q_div (seX hNT hr (by decide) ⟨_, _, rfl, rfl, rfl, rfl, rfl⟩) (q_var 0) (q_var 2)) (qa_cons (q_div (seX hNT hr (by decide) ⟨_, _, rfl, rfl, rfl, rfl, rfl⟩) (q_var 1) (q_var 2)) qa_nil))))))))⟩)
abbrev s_L_added : Stmt := topS 34
theorem sc_L_added : FnScope [("_law_one" : Str), ("_law_other" : Str)] [("_law_one" : Str), ("_law_other" : Str)] (defScope s_L_added) := ⟨rfl, rfl, rfl, by decide +kernel, rfl, by decide +kernel, by decide +kernel⟩
theorem k_L_added {P : Program} {w : World} {K : PySem.W.Frag} {mg : Str → Option Value} {base : Heap} (hNT : base.NoSeer ∧ P.given.tree = none) (k_L_fraction : Cal P w K mg base 34 "_law_fraction" [("_law_top" : Str), ("_law_bottom" : Str)] (spP K 2 m_L_fraction)) (D : DefIn K mg "_law_added" s_L_added [("_law_one" : Str), ("_law_other" : Str)]) : Cal P w K mg base 35 "_law_added" [("_law_one" : Str), ("_law_other" : Str)] (spP K 2 m_L_added) := by
  unfold m_L_added
  exact calP D sc_L_added (by decide) (fun f cdv A outer s H E hr => ⟨_, ((qss_one (qs_ret (q_calP k_L_fraction hr (by decide) (qa_cons (q_addA (q_mulA (q_ix (q_var 0) q_int) (q_ix (q_var 1) q_int)) (q_mulA (q_ix (q_var 1) q_int) (q_ix (q_var 0) q_int))) (qa_cons (q_mulA (q_ix (q_var 0) q_int) (q_ix (q_var 1) q_int)) qa_nil))))))⟩)
abbrev s_L_product : Stmt := topS 35
theorem sc_L_product : FnScope [("_law_one" : Str), ("_law_other" : Str)] [("_law_one" : Str), ("_law_other" : Str)] (defScope s_L_product) := ⟨rfl, rfl, rfl, by decide +kernel, rfl, by decide +kernel, by decide +kernel⟩
theorem k_L_product {P : Program} {w : World} {K : PySem.W.Frag} {mg : Str → Option Value} {base : Heap} (hNT : base.NoSeer ∧ P.given.tree = none) (k_L_fraction : Cal P w K mg base 34 "_law_fraction" [("_law_top" : Str), ("_law_bottom" : Str)] (spP K 2 m_L_fraction)) (D : DefIn K mg "_law_product" s_L_product [("_law_one" : Str), ("_law_other" : Str)]) : Cal P w K mg base 35 "_law_product" [("_law_one" : Str), ("_law_other" : Str)] (spP K 2 m_L_product) := by
  unfold m_L_product
  exact calP D sc_L_product (by decide) (fun f cdv A outer s H E hr => ⟨_, ((qss_one (qs_ret (q_calP k_L_fraction hr (by decide) (qa_cons (q_mulA (q_ix (q_var 0) q_int) (q_ix (q_var 1) q_int)) (qa_cons (q_mulA (q_ix (q_var 0) q_int) (q_ix (q_var 1) q_int)) qa_nil))))))⟩)
abbrev s_L_poly : Stmt := topS 36
theorem sc_L_poly : FnScope [("_law_tops" : Str), ("_law_bottom" : Str), ("_law_part" : Str), ("_law_top" : Str)] [("_law_tops" : Str), ("_law_bottom" : Str)] (defScope s_L_poly) := ⟨rfl, rfl, rfl, by decide +kernel, rfl, by decide +kernel, by decide +kernel⟩
theorem k_L_poly {P : Program} {w : World} {K : PySem.W.Frag} {mg : Str → Option Value} {base : Heap} (hNT : base.NoSeer ∧ P.given.tree = none) (z_len : mg "len" = none) (z_list : mg "list" = none) (z_tuple : mg "tuple" = none) (k_L_common : Cal P w K mg base 33 "_law_common" [("_law_a" : Str), ("_law_b" : Str)] (spP K 2 m_L_common)) (D : DefIn K mg "_law_poly" s_L_poly [("_law_tops" : Str), ("_law_bottom" : Str)]) : Cal P w K mg base 34 "_law_poly" [("_law_tops" : Str), ("_law_bottom" : Str)] (spP K 2 m_L_poly) := by
  unfold m_L_poly
  exact calP D sc_L_poly (by decide) (fun f cdv A outer s H E hr => ⟨_, ((qss_cons (qs_set 0 sc_L_poly.nd (q_own (qn_list z_list (qa_cons (q_var 0) qa_nil))))
    (qss_cons (qs_while PassesOwn.never (qt_w (qw_and (qt_gt (q_len z_len (qa_cons (q_var 0) qa_nil)) q_int) (qw_and1 (qt_eq hr (q_ix (q_var 0) (q_neg 1)) q_int))))
    (qss_one (qs_expr (q_pop (q_var 0)))))
    (qss_cons (qs_set 2 sc_L_poly.nd (q_var 1))
    (qss_cons (qs_for PassesOwn.never rfl (qi_any (q_var 0)) (qg_name 3 sc_L_poly.nd)
    (qss_one (qs_set 2 sc_L_poly.nd (q_calP k_L_common hr (by decide) (qa_cons (q_var 2) (qa_cons (q_var 3) qa_nil))))))
    (qss_one (qs_ret (q_tup (qa_cons (q_tuple z_tuple (qa_cons (q_frz (qn_lc (g := (gName 3)) (tt := tYes) (te := (tOp rDivI (tVar 3) (tVar 2))) (gm := (gNameM 3)) (cm := bYes) (em := (eOp fDiv (eVar 3) (eVar 2))) (ws := [3]) [(("_law_top" : Str), 3)] rfl sc_L_poly.nd (qi_any (q_var 0)) rfl rfl (by kernel_rfl) (fun _ _ _ _ _ => (qg_name 3 sc_L_poly.nd)) (fun _ _ _ _ _ => qts_nil) (fun _ _ _ _ _ => (q_div (seX hNT hr (by decide) ⟨_, _, rfl, rfl, rfl, rfl, rfl⟩) (q_var 3) (q_var 2))) (by decide))) qa_nil)) (qa_cons (q_div (seX hNT hr (by decide) ⟨_, _, rfl, rfl, rfl, rfl, rfl⟩) (q_var 1) (q_var 2)) qa_nil))))))))))⟩)
abbrev s_L_sum : Stmt := topS 37
theorem sc_L_sum : FnScope [("_law_p" : Str), ("_law_q" : Str), ("_law_many" : Str), ("_law_found" : Str), ("_law_k" : Str), ("_law_top" : Str)] [("_law_p" : Str), ("_law_q" : Str)] (defScope s_L_sum) := ⟨rfl, rfl, rfl, by decide +kernel, rfl, by decide +kernel, by decide +kernel⟩
theorem k_L_sum {P : Program} {w : World} {K : PySem.W.Frag} {mg : Str → Option Value} {base : Heap} (hNT : base.NoSeer ∧ P.given.tree = none) (z_enumerate : mg "enumerate" = none) (z_len : mg "len" = none) (z_max : mg "max" = none) (k_L_poly : Cal P w K mg base 34 "_law_poly" [("_law_tops" : Str), ("_law_bottom" : Str)] (spP K 2 m_L_poly)) (D : DefIn K mg "_law_sum" s_L_sum [("_law_p" : Str), ("_law_q" : Str)]) : Cal P w K mg base 35 "_law_sum" [("_law_p" : Str), ("_law_q" : Str)] (spP K 2 m_L_sum) := by
  unfold m_L_sum
  exact calP D sc_L_sum (by decide) (fun f cdv A outer s H E hr => ⟨_, ((qss_cons (qs_set 2 sc_L_sum.nd (q_max2 rfl z_max (qa_cons (q_len z_len (qa_cons (q_ix (q_var 0) q_int) qa_nil)) (qa_cons (q_len z_len (qa_cons (q_ix (q_var 1) q_int) qa_nil)) qa_nil))))
    (qss_cons (qs_set 3 sc_L_sum.nd (q_own (qn_rep (q_frz (qn_disp (qa_cons q_int qa_nil))) (q_var 2))))
    (qss_cons (qs_for PassesOwn.never rfl (qi_enum z_enumerate (qa_cons (q_ix (q_var 0) q_int) qa_nil)) (qg_tup rfl (qgs_cons (qg_name 4 sc_L_sum.nd) (gName_noEx 4) (qgs_cons (qg_name 5 sc_L_sum.nd) (gName_noEx 5) qgs_nil)))
    (qss_one (qs_asg (q_addA (q_ix (q_var 3) (q_var 4)) (q_mulA (q_var 5) (q_ix (q_var 1) q_int))) (qg_sub (q_var 3) (q_var 4)))))
    (qss_cons (qs_for PassesOwn.never rfl (qi_enum z_enumerate (qa_cons (q_ix (q_var 1) q_int) qa_nil)) (qg_tup rfl (qgs_cons (qg_name 4 sc_L_sum.nd) (gName_noEx 4) (qgs_cons (qg_name 5 sc_L_sum.nd) (gName_noEx 5) qgs_nil)))
    (qss_one (qs_asg (q_addA (q_ix (q_var 3) (q_var 4)) (q_mulA (q_var 5) (q_ix (q_var 0) q_int))) (qg_sub (q_var 3) (q_var 4)))))
    (qss_one (qs_ret (q_calP k_L_poly hr (by decide) (qa_cons (q_var 3) (qa_cons (q_mulA (q_ix (q_var 0) q_int) (q_ix (q_var 1) q_int)) qa_nil))))))))))⟩)
abbrev s_L_times : Stmt := topS 38
theorem sc_L_times : FnScope [("_law_p" : Str), ("_law_q" : Str), ("_law_found" : Str), ("_law_k" : Str), ("_law_top" : Str), ("_law_j" : Str), ("_law_other" : Str)] [("_law_p" : Str), ("_law_q" : Str)] (defScope s_L_times) := ⟨rfl, rfl, rfl, by decide +kernel, rfl, by decide +kernel, by decide +kernel⟩
theorem k_L_times {P : Program} {w : World} {K : PySem.W.Frag} {mg : Str → Option Value} {base : Heap} (hNT : base.NoSeer ∧ P.given.tree = none) (z_enumerate : mg "enumerate" = none) (z_len : mg "len" = none) (k_L_poly : Cal P w K mg base 34 "_law_poly" [("_law_tops" : Str), ("_law_bottom" : Str)] (spP K 2 m_L_poly)) (D : DefIn K mg "_law_times" s_L_times [("_law_p" : Str), ("_law_q" : Str)]) : Cal P w K mg base 35 "_law_times" [("_law_p" : Str), ("_law_q" : Str)] (spP K 2 m_L_times) := by
  unfold m_L_times
  exact calP D sc_L_times (by decide) (fun f cdv A outer s H E hr => ⟨_, ((qss_cons (qs_set 2 sc_L_times.nd (q_own (qn_rep (q_frz (qn_disp (qa_cons q_int qa_nil))) (q_addA (q_len z_len (qa_cons (q_ix (q_var 0) q_int) qa_nil)) (q_len z_len (qa_cons (q_ix (q_var 1) q_int) qa_nil))))))
    (qss_cons (qs_for PassesOwn.never rfl (qi_enum z_enumerate (qa_cons (q_ix (q_var 0) q_int) qa_nil)) (qg_tup rfl (qgs_cons (qg_name 3 sc_L_times.nd) (gName_noEx 3) (qgs_cons (qg_name 4 sc_L_times.nd) (gName_noEx 4) qgs_nil)))
    (qss_one (qs_for PassesOwn.never rfl (qi_enum z_enumerate (qa_cons (q_ix (q_var 1) q_int) qa_nil)) (qg_tup rfl (qgs_cons (qg_name 5 sc_L_times.nd) (gName_noEx 5) (qgs_cons (qg_name 6 sc_L_times.nd) (gName_noEx 6) qgs_nil)))
    (qss_one (qs_asg (q_addA (q_ix (q_var 2) (q_addA (q_var 3) (q_var 5))) (q_mulA (q_var 4) (q_var 6))) (qg_sub (q_var 2) (q_addA (q_var 3) (q_var 5))))))))
    (qss_one (qs_ret (q_calP k_L_poly hr (by decide) (qa_cons (q_var 2) (qa_cons (q_mulA (q_ix (q_var 0) q_int) (q_ix (q_var 1) q_int)) qa_nil))))))))⟩)
abbrev s_L_of : Stmt := topS 39
theorem sc_L_of : FnScope [("_law_p" : Str), ("_law_q" : Str), ("_law_found" : Str), ("_law_top" : Str)] [("_law_p" : Str), ("_law_q" : Str)] (defScope s_L_of) := ⟨rfl, rfl, rfl, by decide +kernel, rfl, by decide +kernel, by decide +kernel⟩
theorem k_L_of {P : Program} {w : World} {K : PySem.W.Frag} {mg : Str → Option Value} {base : Heap} (hNT : base.NoSeer ∧ P.given.tree = none) (z_reversed : mg "reversed" = none) (k_L_sum : Cal P w K mg base 35 "_law_sum" [("_law_p" : Str), ("_law_q" : Str)] (spP K 2 m_L_sum)) (k_L_poly : Cal P w K mg base 34 "_law_poly" [("_law_tops" : Str), ("_law_bottom" : Str)] (spP K 2 m_L_poly)) (k_L_times : Cal P w K mg base 35 "_law_times" [("_law_p" : Str), ("_law_q" : Str)] (spP K 2 m_L_times)) (D : DefIn K mg "_law_of" s_L_of [("_law_p" : Str), ("_law_q" : Str)]) : Cal P w K mg base 36 "_law_of" [("_law_p" : Str), ("_law_q" : Str)] (spP K 2 m_L_of) := by
  unfold m_L_of
  exact calP D sc_L_of (by decide) (fun f cdv A outer s H E hr => ⟨_, ((qss_cons (qs_set 2 sc_L_of.nd (q_tup (qa_cons (q_tup qa_nil) (qa_cons q_int qa_nil))))
    (qss_cons (qs_for PassesOwn.never rfl (qi_rev z_reversed (q_ix (q_var 0) q_int)) (qg_name 3 sc_L_of.nd)
    (qss_one (qs_set 2 sc_L_of.nd (q_calP k_L_sum hr (by decide) (qa_cons (q_calP k_L_times hr (by decide) (qa_cons (q_var 2) (qa_cons (q_var 1) qa_nil))) (qa_cons (q_calP k_L_poly hr (by decide) (qa_cons (q_frz (qn_disp (qa_cons (q_var 3) qa_nil))) (qa_cons (q_ix (q_var 0) q_int) qa_nil))) qa_nil))))))
    (qss_one (qs_ret (q_var 2))))))⟩)
abbrev s_L_straight : Stmt := topS 40
theorem sc_L_straight : FnScope [("_law_a" : Str), ("_law_b" : Str)] [("_law_a" : Str), ("_law_b" : Str)] (defScope s_L_straight) := ⟨rfl, rfl, rfl, by decide +kernel, rfl, by decide +kernel, by decide +kernel⟩
theorem k_L_straight {P : Program} {w : World} {K : PySem.W.Frag} {mg : Str → Option Value} {base : Heap} (hNT : base.NoSeer ∧ P.given.tree = none) (k_L_poly : Cal P w K mg base 34 "_law_poly" [("_law_tops" : Str), ("_law_bottom" : Str)] (spP K 2 m_L_poly)) (D : DefIn K mg "_law_straight" s_L_straight [("_law_a" : Str), ("_law_b" : Str)]) : Cal P w K mg base 35 "_law_straight" [("_law_a" : Str), ("_law_b" : Str)] (spP K 2 m_L_straight) := by
  unfold m_L_straight
  exact calP D sc_L_straight (by decide) (fun f cdv A outer s H E hr => ⟨_, ((qss_one (qs_ret (q_calP k_L_poly hr (by decide) (qa_cons (q_frz (qn_disp (qa_cons (q_mulA (q_ix (q_var 1) q_int) (q_ix (q_var 0) q_int)) (qa_cons (q_mulA (q_ix (q_var 0) q_int) (q_ix (q_var 1) q_int)) qa_nil)))) (qa_cons (q_mulA (q_ix (q_var 0) q_int) (q_ix (q_var 1) q_int)) qa_nil))))))⟩)
abbrev s_L_number : Stmt := topS 41
theorem sc_L_number : FnScope [("_law_flow_here" : Str), ("_law_most" : Str)] [("_law_flow_here" : Str), ("_law_most" : Str)] (defScope s_L_number) := ⟨rfl, rfl, rfl, by decide +kernel, rfl, by decide +kernel, by decide +kernel⟩
theorem k_L_number {P : Program} {w : World} {K : PySem.W.Frag} {mg : Str → Option Value} {base : Heap} (hNT : base.NoSeer ∧ P.given.tree = none) (k_L_pick : Cal P w K mg base 33 "_law_pick" [("_law_flow_here" : Str), ("_law_many" : Str)] (spF K 2 m_L_pick)) (D : DefIn K mg "_law_number" s_L_number [("_law_flow_here" : Str), ("_law_most" : Str)]) : Cal P w K mg base 34 "_law_number" [("_law_flow_here" : Str), ("_law_most" : Str)] (spF K 2 m_L_number) := by
  unfold m_L_number
  exact calF D sc_L_number (by decide) (fun f cdv A outer s H E hr => ⟨_, ((qss_one (qs_ret (q_sub (q_calF k_L_pick hr (by decide) (qa_cons (q_var 0) (qa_cons (q_addA (q_mulA q_int (q_var 1)) q_int) qa_nil))) (q_var 1)))))⟩)
abbrev s_L_any_fraction : Stmt := topS 42
theorem sc_L_any_fraction : FnScope [("_law_flow_here" : Str), ("_law_most" : Str)] [("_law_flow_here" : Str), ("_law_most" : Str)] (defScope s_L_any_fraction) := ⟨rfl, rfl, rfl, by decide +kernel, rfl, by decide +kernel, by decide +kernel⟩
theorem k_L_any_fraction {P : Program} {w : World} {K : PySem.W.Frag} {mg : Str → Option Value} {base : Heap} (hNT : base.NoSeer ∧ P.given.tree = none) (k_L_fraction : Cal P w K mg base 34 "_law_fraction" [("_law_top" : Str), ("_law_bottom" : Str)] (spP K 2 m_L_fraction)) (k_L_pick : Cal P w K mg base 33 "_law_pick" [("_law_flow_here" : Str), ("_law_many" : Str)] (spF K 2 m_L_pick)) (k_L_number : Cal P w K mg base 34 "_law_number" [("_law_flow_here" : Str), ("_law_most" : Str)] (spF K 2 m_L_number)) (D : DefIn K mg "_law_any_fraction" s_L_any_fraction [("_law_flow_here" : Str), ("_law_most" : Str)]) : Cal P w K mg base 35 "_law_any_fraction" [("_law_flow_here" : Str), ("_law_most" : Str)] (spF K 2 m_L_any_fraction) := by
  unfold m_L_any_fraction
  exact calF D sc_L_any_fraction (by decide) (fun f cdv A outer s H E hr => ⟨_, ((qss_one (qs_ret (q_calP k_L_fraction hr (by decide) (qa_cons (q_calF k_L_number hr (by decide) (qa_cons (q_var 0) (qa_cons (q_var 1) qa_nil))) (qa_cons (q_addA q_int (q_calF k_L_pick hr (by decide) (qa_cons (q_var 0) (qa_cons (q_ix (q_frz (qn_disp (qa_cons q_int (qa_cons q_int (qa_cons q_int (qa_cons (q_var 1) qa_nil)))))) (q_calF k_L_pick hr (by decide) (qa_cons (q_var 0) (qa_cons q_int qa_nil)))) qa_nil)))) qa_nil))))))⟩)
abbrev s_L_any_poly : Stmt := topS 43
theorem sc_L_any_poly : FnScope [("_law_flow_here" : Str), ("_law_many" : Str), ("_law_most" : Str), ("_law_tops" : Str), ("_law_first" : Str), ("_law_k" : Str)] [("_law_flow_here" : Str), ("_law_many" : Str), ("_law_most" : Str)] (defScope s_L_any_poly) := ⟨rfl, rfl, rfl, by decide +kernel, rfl, by decide +kernel, by decide +kernel⟩
theorem k_L_any_poly {P : Program} {w : World} {K : PySem.W.Frag} {mg : Str → Option Value} {base : Heap} (hNT : base.NoSeer ∧ P.given.tree = none) (z_int : mg "int" = none) (z_range : mg "range" = none) (k_L_poly : Cal P w K mg base 34 "_law_poly" [("_law_tops" : Str), ("_law_bottom" : Str)] (spP K 2 m_L_poly)) (k_L_pick : Cal P w K mg base 33 "_law_pick" [("_law_flow_here" : Str), ("_law_many" : Str)] (spF K 2 m_L_pick)) (k_L_number : Cal P w K mg base 34 "_law_number" [("_law_flow_here" : Str), ("_law_most" : Str)] (spF K 2 m_L_number)) (D : DefIn K mg "_law_any_poly" s_L_any_poly [("_law_flow_here" : Str), ("_law_many" : Str), ("_law_most" : Str)]) : Cal P w K mg base 35 "_law_any_poly" [("_law_flow_here" : Str), ("_law_many" : Str), ("_law_most" : Str)] (spF K 3 m_L_any_poly) := by
  unfold m_L_any_poly
  exact calF D sc_L_any_poly (by decide) (fun f cdv A outer s H E hr => ⟨_, ((qss_cons (qs_setLc (g := (gName 5)) (tt := tYes) (te := (tOp (rMulA K) (tCall (spF K 2 m_L_number) [] E0 (tCons (tVar 0) (tCons (tVar 2) tNil))) (tCB rIntA (tCons (tOp rGtI (tCall (spF K 2 m_L_pick) [] E0 (tCons (tVar 0) (tCons (tC (.int 4)) tNil))) (tC (.int 0))) tNil)))) (gm := (gNameM 5)) (cm := bYes) (em := (eOp fMulA (eCallF 2 m_L_number (aCons (eVar 0) (aCons (eVar 2) aNil))) (eCB cInt (aCons (eOp fGt (eCallF 2 m_L_pick (aCons (eVar 0) (aCons (eC (.int 4)) aNil))) (eC (.int 0))) aNil)))) (ws := [5]) 3 [(("_law_k" : Str), 5)] true rfl sc_L_any_poly.nd (sw_true rfl rfl rfl (by decide +kernel)) (qi_r1 z_range (qa_cons (q_var 1) qa_nil)) rfl rfl (by kernel_rfl) (fun _ _ _ _ _ => (qg_name 5 sc_L_any_poly.nd)) (fun _ _ _ _ _ => qts_nil) (fun _ _ _ _ _ => (q_mulA (q_calF k_L_number hr (by decide) (qa_cons (q_var 0) (qa_cons (q_var 2) qa_nil))) (q_intc z_int (qa_cons (q_gt (q_calF k_L_pick hr (by decide) (qa_cons (q_var 0) (qa_cons q_int qa_nil))) q_int) qa_nil)))) (by decide))
    (qss_cons (qs_set 4 sc_L_any_poly.nd (q_ix (q_frz (qn_disp (qa_cons q_int (qa_cons (q_sub q_int q_int) (qa_cons (q_addA q_int (q_calF k_L_pick hr (by decide) (qa_cons (q_var 0) (qa_cons (q_var 2) qa_nil)))) (qa_cons (q_sub (q_sub q_int q_int) (q_calF k_L_pick hr (by decide) (qa_cons (q_var 0) (qa_cons (q_var 2) qa_nil)))) qa_nil)))))) (q_calF k_L_pick hr (by decide) (qa_cons (q_var 0) (qa_cons q_int qa_nil)))))
    (qss_one (qs_ret (q_calP k_L_poly hr (by decide) (qa_cons (q_addA (q_var 3) (q_frz (qn_disp (qa_cons (q_var 4) qa_nil)))) (qa_cons (q_addA q_int (q_calF k_L_pick hr (by decide) (qa_cons (q_var 0) (qa_cons (q_ix (q_frz (qn_disp (qa_cons q_int (qa_cons q_int (qa_cons q_int (qa_cons q_int qa_nil)))))) (q_calF k_L_pick hr (by decide) (qa_cons (q_var 0) (qa_cons q_int qa_nil)))) qa_nil)))) qa_nil))))))))⟩)
abbrev s_L_any_straight : Stmt := topS 44
theorem sc_L_any_straight : FnScope [("_law_flow_here" : Str), ("_law_most" : Str), ("_law_first" : Str)] [("_law_flow_here" : Str), ("_law_most" : Str)] (defScope s_L_any_straight) := ⟨rfl, rfl, rfl, by decide +kernel, rfl, by decide +kernel, by decide +kernel⟩
theorem k_L_any_straight {P : Program} {w : World} {K : PySem.W.Frag} {mg : Str → Option Value} {base : Heap} (hNT : base.NoSeer ∧ P.given.tree = none) (k_L_straight : Cal P w K mg base 35 "_law_straight" [("_law_a" : Str), ("_law_b" : Str)] (spP K 2 m_L_straight)) (k_L_any_fraction : Cal P w K mg base 35 "_law_any_fraction" [("_law_flow_here" : Str), ("_law_most" : Str)] (spF K 2 m_L_any_fraction)) (k_L_fraction : Cal P w K mg base 34 "_law_fraction" [("_law_top" : Str), ("_law_bottom" : Str)] (spP K 2 m_L_fraction)) (k_L_pick : Cal P w K mg base 33 "_law_pick" [("_law_flow_here" : Str), ("_law_many" : Str)] (spF K 2 m_L_pick)) (D : DefIn K mg "_law_any_straight" s_L_any_straight [("_law_flow_here" : Str), ("_law_most" : Str)]) : Cal P w K mg base 36 "_law_any_straight" [("_law_flow_here" : Str), ("_law_most" : Str)] (spF K 2 m_L_any_straight) := by
  unfold m_L_any_straight
  exact calF D sc_L_any_straight (by decide) (fun f cdv A outer s H E hr => ⟨_, ((qss_cons (qs_set 2 sc_L_any_straight.nd (q_ix (q_frz (qn_disp (qa_cons (q_tup (qa_cons q_int (qa_cons q_int qa_nil))) (qa_cons (q_tup (qa_cons (q_sub q_int q_int) (qa_cons q_int qa_nil))) (qa_cons (q_calP k_L_fraction hr (by decide) (qa_cons (q_addA q_int (q_calF k_L_pick hr (by decide) (qa_cons (q_var 0) (qa_cons (q_var 1) qa_nil)))) (qa_cons (q_addA q_int (q_calF k_L_pick hr (by decide) (qa_cons (q_var 0) (qa_cons q_int qa_nil)))) qa_nil))) qa_nil))))) (q_calF k_L_pick hr (by decide) (qa_cons (q_var 0) (qa_cons q_int qa_nil)))))
    (qss_one (qs_ret (q_calP k_L_straight hr (by decide) (qa_cons (q_var 2) (qa_cons (q_calF k_L_any_fraction hr (by decide) (qa_cons (q_var 0) (qa_cons (q_var 1) qa_nil))) qa_nil)))))))⟩)
abbrev s_L_turning : Stmt := topS 45
theorem sc_L_turning : FnScope [("_law_n" : Str), ("_law_a" : Str), ("_law_found" : Str), ("_law_k" : Str), ("_law_less" : Str)] [("_law_n" : Str), ("_law_a" : Str)] (defScope s_L_turning) := ⟨rfl, rfl, rfl, by decide +kernel, rfl, by decide +kernel, by decide +kernel⟩
theorem k_L_turning {P : Program} {w : World} {K : PySem.W.Frag} {mg : Str → Option Value} {base : Heap} (hNT : base.NoSeer ∧ P.given.tree = none) (z_range : mg "range" = none) (k_L_sum : Cal P w K mg base 35 "_law_sum" [("_law_p" : Str), ("_law_q" : Str)] (spP K 2 m_L_sum)) (k_L_times : Cal P w K mg base 35 "_law_times" [("_law_p" : Str), ("_law_q" : Str)] (spP K 2 m_L_times)) (k_L_poly : Cal P w K mg base 34 "_law_poly" [("_law_tops" : Str), ("_law_bottom" : Str)] (spP K 2 m_L_poly)) (D : DefIn K mg "_law_turning" s_L_turning [("_law_n" : Str), ("_law_a" : Str)]) : Cal P w K mg base 36 "_law_turning" [("_law_n" : Str), ("_law_a" : Str)] (spP K 2 m_L_turning) := by
  unfold m_L_turning
  exact calP D sc_L_turning (by decide) (fun f cdv A outer s H E hr => ⟨_, ((qss_cons (qs_set 2 sc_L_turning.nd (q_own (qn_disp (qa_cons (q_tup (qa_cons (q_tup (qa_cons q_int qa_nil)) (qa_cons q_int qa_nil))) (qa_cons (q_tup (qa_cons (q_tup (qa_cons q_int (qa_cons q_int qa_nil))) (qa_cons q_int qa_nil))) qa_nil)))))
    (qss_cons (qs_for PassesOwn.never rfl (qi_r1 z_range (qa_cons (q_sub (q_var 0) q_int) qa_nil)) (qg_name 3 sc_L_turning.nd)
    (qss_cons (qs_set 4 sc_L_turning.nd (q_calP k_L_times hr (by decide) (qa_cons (q_ix (q_var 2) (q_neg 2)) (qa_cons (q_calP k_L_poly hr (by decide) (qa_cons (q_frz (qn_disp (qa_cons (q_sub q_int (q_ix (q_var 1) q_int)) qa_nil))) (qa_cons (q_ix (q_var 1) q_int) qa_nil))) qa_nil))))
    (qss_one (qs_expr (q_append (q_var 2) (qa_cons (q_calP k_L_sum hr (by decide) (qa_cons (q_calP k_L_times hr (by decide) (qa_cons (q_tup (qa_cons (q_tup (qa_cons q_int (qa_cons q_int qa_nil))) (qa_cons q_int qa_nil))) (qa_cons (q_ix (q_var 2) (q_neg 1)) qa_nil))) (qa_cons (q_var 4) qa_nil))) qa_nil))))))
    (qss_one (qs_ret (q_ix (q_var 2) (q_var 0)))))))⟩)
abbrev s_L_is_fraction : Stmt := topS 46
theorem sc_L_is_fraction : FnScope [("_law_r" : Str), ("_law_n" : Str)] [("_law_r" : Str)] (defScope s_L_is_fraction) := ⟨rfl, rfl, rfl, by decide +kernel, rfl, by decide +kernel, by decide +kernel⟩
theorem k_L_is_fraction {P : Program} {w : World} {K : PySem.W.Frag} {mg : Str → Option Value} {base : Heap} (hNT : base.NoSeer ∧ P.given.tree = none) (z_all : mg "all" = none) (z_bool : mg "bool" = none) (z_int : mg "int" = none) (z_isinstance : mg "isinstance" = none) (z_len : mg "len" = none) (z_tuple : mg "tuple" = none) (k_L_common : Cal P w K mg base 33 "_law_common" [("_law_a" : Str), ("_law_b" : Str)] (spP K 2 m_L_common)) (D : DefIn K mg "_law_is_fraction" s_L_is_fraction [("_law_r" : Str)]) : Cal P w K mg base 34 "_law_is_fraction" [("_law_r" : Str)] (spP K 1 m_L_is_fraction) := by
  unfold m_L_is_fraction
  exact calP D sc_L_is_fraction (by decide) (fun f cdv A outer s H E hr => ⟨_, ((qss_cons (qs_if (qt_w (qw_or (qt_not (qt_tru (q_isi z_isinstance z_tuple boot_tuple (q_var 0)))) (qw_or (qt_ne hr (q_len z_len (qa_cons (q_var 0) qa_nil)) q_int) (qw_or1 (qt_not (qt_tru (q_all rfl z_all (qa_cons (q_frz (qn_lc (g := (gName 1)) (tt := tYes) (te := (tAndV (tCB (rIsi K) (tCons (tVar 1) (tCons (tC (.ty "int")) tNil))) (tNotV (tCB (rIsi K) (tCons (tVar 1) (tCons (tC (.ty "bool")) tNil)))))) (gm := (gNameM 1)) (cm := bYes) (em := (eAndV (eIsi (eVar 1) "int") (eNotV (eIsi (eVar 1) "bool")))) (ws := [1]) [(("_law_n" : Str), 1)] rfl sc_L_is_fraction.nd (qi_any (q_var 0)) rfl rfl (by kernel_rfl) (fun _ _ _ _ _ => (qg_name 1 sc_L_is_fraction.nd)) (fun _ _ _ _ _ => qts_nil) (fun _ _ _ _ _ => (q_and (q_isi z_isinstance z_int boot_int (q_var 1)) (q_one (q_not (q_isi z_isinstance z_bool boot_bool (q_var 1)))))) (by decide))) qa_nil))))))))
    (qss_one (qs_ret q_bl))
    qss_nil)
    (qss_one (qs_ret (q_and (q_gt (q_ix (q_var 0) q_int) q_int) (q_one (q_eq hr (q_calP k_L_common hr (by decide) (qa_cons (q_ix (q_var 0) q_int) (qa_cons (q_ix (q_var 0) q_int) qa_nil))) q_int)))))))⟩)
abbrev s_L_fits : Stmt := topS 47
theorem sc_L_fits : FnScope [("_law_some" : Str), ("_law_p" : Str), ("_law_top" : Str)] [("_law_some" : Str)] (defScope s_L_fits) := ⟨rfl, rfl, rfl, by decide +kernel, rfl, by decide +kernel, by decide +kernel⟩
theorem k_L_fits {P : Program} {w : World} {K : PySem.W.Frag} {mg : Str → Option Value} {base : Heap} (hNT : base.NoSeer ∧ P.given.tree = none) (z_abs : mg "abs" = none) (z_max : mg "max" = none) (D : DefIn K mg "_law_fits" s_L_fits [("_law_some" : Str)]) : Cal P w K mg base 33 "_law_fits" [("_law_some" : Str)] (spP K 1 m_L_fits) := by
  unfold m_L_fits
  exact calP D sc_L_fits (by decide) (fun f cdv A outer s H E hr => ⟨_, ((qss_cons (qs_for PassesOwn.never rfl (qi_any (q_var 0)) (qg_name 1 sc_L_fits.nd)
    (qss_one (qs_if (qt_ge (q_maxL rfl z_max (qa_cons (q_addA (q_frz (qn_lc (g := (gName 2)) (tt := tYes) (te := (tCB rAbsA (tCons (tVar 2) tNil))) (gm := (gNameM 2)) (cm := bYes) (em := (eCB cAbs (aCons (eVar 2) aNil))) (ws := [2]) [(("_law_top" : Str), 2)] rfl sc_L_fits.nd (qi_any (q_ix (q_var 1) q_int)) rfl rfl (by kernel_rfl) (fun _ _ _ _ _ => (qg_name 2 sc_L_fits.nd)) (fun _ _ _ _ _ => qts_nil) (fun _ _ _ _ _ => (q_abs z_abs (qa_cons (q_var 2) qa_nil))) (by decide))) (q_frz (qn_disp (qa_cons (q_ix (q_var 1) q_int) qa_nil)))) qa_nil)) (q_pow q_int q_int))
    (qss_one (qs_ret q_bl))
    qss_nil)))
    (qss_one (qs_ret q_bl))))⟩)
abbrev s_L_power : Stmt := topS 48
theorem sc_L_power : FnScope [("_law_p" : Str), ("_law_k" : Str), ("_law_found" : Str), ("_law_turn" : Str)] [("_law_p" : Str), ("_law_k" : Str)] (defScope s_L_power) := ⟨rfl, rfl, rfl, by decide +kernel, rfl, by decide +kernel, by decide +kernel⟩
theorem k_L_power {P : Program} {w : World} {K : PySem.W.Frag} {mg : Str → Option Value} {base : Heap} (hNT : base.NoSeer ∧ P.given.tree = none) (z_range : mg "range" = none) (k_L_times : Cal P w K mg base 35 "_law_times" [("_law_p" : Str), ("_law_q" : Str)] (spP K 2 m_L_times)) (D : DefIn K mg "_law_power" s_L_power [("_law_p" : Str), ("_law_k" : Str)]) : Cal P w K mg base 36 "_law_power" [("_law_p" : Str), ("_law_k" : Str)] (spP K 2 m_L_power) := by
  unfold m_L_power
  exact calP D sc_L_power (by decide) (fun f cdv A outer s H E hr => ⟨_, ((qss_cons (qs_set 2 sc_L_power.nd (q_tup (qa_cons (q_tup (qa_cons q_int qa_nil)) (qa_cons q_int qa_nil))))
    (qss_cons (qs_for PassesOwn.never rfl (qi_r1 z_range (qa_cons (q_var 1) qa_nil)) (qg_name 3 sc_L_power.nd)
    (qss_one (qs_set 2 sc_L_power.nd (q_calP k_L_times hr (by decide) (qa_cons (q_var 2) (qa_cons (q_var 0) qa_nil))))))
    (qss_one (qs_ret (q_var 2))))))⟩)
abbrev s_L_shape : Stmt := topS 49
theorem sc_L_shape : FnScope [("_law_f" : Str), ("_law_g" : Str), ("_law_m" : Str), ("_law_k" : Str), ("_law_most" : Str)] [("_law_f" : Str), ("_law_g" : Str)] (defScope s_L_shape) := ⟨rfl, rfl, rfl, by decide +kernel, rfl, by decide +kernel, by decide +kernel⟩
theorem k_L_shape {P : Program} {w : World} {K : PySem.W.Frag} {mg : Str → Option Value} {base : Heap} (hNT : base.NoSeer ∧ P.given.tree = none) (z_len : mg "len" = none) (k_L_common : Cal P w K mg base 33 "_law_common" [("_law_a" : Str), ("_law_b" : Str)] (spP K 2 m_L_common)) (D : DefIn K mg "_law_shape" s_L_shape [("_law_f" : Str), ("_law_g" : Str)]) : Cal P w K mg base 34 "_law_shape" [("_law_f" : Str), ("_law_g" : Str)] (spP K 2 m_L_shape) := by
  unfold m_L_shape
  exact calP D sc_L_shape (by decide) (fun f cdv A outer s H E hr => ⟨_, ((qss_cons (qs_par 2 3 rfl sc_L_shape.nd (qa_cons (q_sub (q_len z_len (qa_cons (q_ix (q_var 0) q_int) qa_nil)) q_int) (qa_cons (q_sub (q_len z_len (qa_cons (q_ix (q_var 1) q_int) qa_nil)) q_int) qa_nil)))
    (qss_cons (qs_set 4 sc_L_shape.nd (q_div (seX hNT hr (by decide) ⟨_, _, rfl, rfl, rfl, rfl, rfl⟩) (q_mulA (q_var 2) (q_var 3)) (q_calP k_L_common hr (by decide) (qa_cons (q_var 2) (qa_cons (q_var 3) qa_nil)))))
    (qss_one (qs_ret (q_tup (qa_cons (q_var 4) (qa_cons (q_div (seX hNT hr (by decide) ⟨_, _, rfl, rfl, rfl, rfl, rfl⟩) (q_var 4) (q_var 2)) (qa_cons (q_div (seX hNT hr (by decide) ⟨_, _, rfl, rfl, rfl, rfl, rfl⟩) (q_var 4) (q_var 3)) qa_nil)))))))))⟩)
abbrev s_L_left : Stmt := topS 50
theorem sc_L_left : FnScope [("_law_p" : Str), ("_law_weights" : Str), ("_law_found" : Str), ("_law_top" : Str), ("_law_weight" : Str)] [("_law_p" : Str), ("_law_weights" : Str)] (defScope s_L_left) := ⟨rfl, rfl, rfl, by decide +kernel, rfl, by decide +kernel, by decide +kernel⟩
theorem k_L_left {P : Program} {w : World} {K : PySem.W.Frag} {mg : Str → Option Value} {base : Heap} (hNT : base.NoSeer ∧ P.given.tree = none) (z_zip : mg "zip" = none) (k_L_added : Cal P w K mg base 35 "_law_added" [("_law_one" : Str), ("_law_other" : Str)] (spP K 2 m_L_added)) (k_L_product : Cal P w K mg base 35 "_law_product" [("_law_one" : Str), ("_law_other" : Str)] (spP K 2 m_L_product)) (D : DefIn K mg "_law_left" s_L_left [("_law_p" : Str), ("_law_weights" : Str)]) : Cal P w K mg base 36 "_law_left" [("_law_p" : Str), ("_law_weights" : Str)] (spP K 2 m_L_left) := by
  unfold m_L_left
  exact calP D sc_L_left (by decide) (fun f cdv A outer s H E hr => ⟨_, ((qss_cons (qs_set 2 sc_L_left.nd (q_tup (qa_cons q_int (qa_cons q_int qa_nil))))
    (qss_cons (qs_for PassesOwn.never rfl (qi_zip z_zip (qa_cons (q_ix (q_var 0) q_int) (qa_cons (q_var 1) qa_nil))) (qg_tup rfl (qgs_cons (qg_name 3 sc_L_left.nd) (gName_noEx 3) (qgs_cons (qg_name 4 sc_L_left.nd) (gName_noEx 4) qgs_nil)))
    (qss_one (qs_set 2 sc_L_left.nd (q_calP k_L_added hr (by decide) (qa_cons (q_var 2) (qa_cons (q_calP k_L_product hr (by decide) (qa_cons (q_tup (qa_cons (q_var 3) (qa_cons (q_ix (q_var 0) q_int) qa_nil))) (qa_cons (q_var 4) qa_nil))) qa_nil))))))
    (qss_one (qs_ret (q_var 2))))))⟩)
abbrev s_L_outer_shown : Stmt := topS 51
theorem sc_L_outer_shown : FnScope [("_law_f" : Str), ("_law_g" : Str), ("_law_u" : Str), ("_law_v" : Str), ("_law_most" : Str), ("_law_high" : Str), ("_law_wide" : Str)] [("_law_f" : Str), ("_law_g" : Str), ("_law_u" : Str), ("_law_v" : Str)] (defScope s_L_outer_shown) := ⟨rfl, rfl, rfl, by decide +kernel, rfl, by decide +kernel, by decide +kernel⟩
theorem k_L_outer_shown {P : Program} {w : World} {K : PySem.W.Frag} {mg : Str → Option Value} {base : Heap} (hNT : base.NoSeer ∧ P.given.tree = none) (z_len : mg "len" = none) (k_L_of : Cal P w K mg base 36 "_law_of" [("_law_p" : Str), ("_law_q" : Str)] (spP K 2 m_L_of)) (k_L_shape : Cal P w K mg base 34 "_law_shape" [("_law_f" : Str), ("_law_g" : Str)] (spP K 2 m_L_shape)) (D : DefIn K mg "_law_outer_shown" s_L_outer_shown [("_law_f" : Str), ("_law_g" : Str), ("_law_u" : Str), ("_law_v" : Str)]) : Cal P w K mg base 37 "_law_outer_shown" [("_law_f" : Str), ("_law_g" : Str), ("_law_u" : Str), ("_law_v" : Str)] (spP K 4 m_L_outer_shown) := by
  unfold m_L_outer_shown
  exact calP D sc_L_outer_shown (by decide) (fun f cdv A outer s H E hr => ⟨_, ((qss_cons (qs_asg (q_calP k_L_shape hr (by decide) (qa_cons (q_var 0) (qa_cons (q_var 1) qa_nil))) (qg_tup rfl (qgs_cons (qg_name 4 sc_L_outer_shown.nd) (gName_noEx 4) (qgs_cons (qg_name 5 sc_L_outer_shown.nd) (gName_noEx 5) (qgs_cons (qg_name 6 sc_L_outer_shown.nd) (gName_noEx 6) qgs_nil)))))
    (qss_cons (qs_if (qt_w (qw_or (qt_ne hr (q_len z_len (qa_cons (q_ix (q_var 2) q_int) qa_nil)) (q_addA (q_var 5) q_int)) (qw_or (qt_ne hr (q_len z_len (qa_cons (q_ix (q_var 3) q_int) qa_nil)) (q_addA (q_var 6) q_int)) (qw_or (qt_ne hr (q_ix (q_ix (q_var 2) q_int) (q_neg 1)) (q_ix (q_var 2) q_int)) (qw_or1 (qt_ne hr (q_ix (q_ix (q_var 3) q_int) q_int) q_int))))))
    (qss_one (qs_ret q_bl))
    qss_nil)
    (qss_one (qs_ret (q_eq hr (q_calP k_L_of hr (by decide) (qa_cons (q_var 2) (qa_cons (q_var 0) qa_nil))) (q_calP k_L_of hr (by decide) (qa_cons (q_var 3) (qa_cons (q_var 1) qa_nil)))))))))⟩)
abbrev s_L_barred : Stmt := topS 52
theorem sc_L_barred : FnScope [("_law_f" : Str), ("_law_g" : Str), ("_law_weights" : Str), ("_law_most" : Str), ("_law_high" : Str), ("_law_wide" : Str), ("_law_some" : Str), ("_law_k" : Str), ("_law_p" : Str)] [("_law_f" : Str), ("_law_g" : Str), ("_law_weights" : Str)] (defScope s_L_barred) := ⟨rfl, rfl, rfl, by decide +kernel, rfl, by decide +kernel, by decide +kernel⟩
theorem k_L_barred {P : Program} {w : World} {K : PySem.W.Frag} {mg : Str → Option Value} {base : Heap} (hNT : base.NoSeer ∧ P.given.tree = none) (z_all : mg "all" = none) (z_len : mg "len" = none) (z_range : mg "range" = none) (k_L_left : Cal P w K mg base 36 "_law_left" [("_law_p" : Str), ("_law_weights" : Str)] (spP K 2 m_L_left)) (k_L_power : Cal P w K mg base 36 "_law_power" [("_law_p" : Str), ("_law_k" : Str)] (spP K 2 m_L_power)) (k_L_shape : Cal P w K mg base 34 "_law_shape" [("_law_f" : Str), ("_law_g" : Str)] (spP K 2 m_L_shape)) (D : DefIn K mg "_law_barred" s_L_barred [("_law_f" : Str), ("_law_g" : Str), ("_law_weights" : Str)]) : Cal P w K mg base 37 "_law_barred" [("_law_f" : Str), ("_law_g" : Str), ("_law_weights" : Str)] (spP K 3 m_L_barred) := by
  unfold m_L_barred
  exact calP D sc_L_barred (by decide) (fun f cdv A outer s H E hr => ⟨_, ((qss_cons (qs_asg (q_calP k_L_shape hr (by decide) (qa_cons (q_var 0) (qa_cons (q_var 1) qa_nil))) (qg_tup rfl (qgs_cons (qg_name 3 sc_L_barred.nd) (gName_noEx 3) (qgs_cons (qg_name 4 sc_L_barred.nd) (gName_noEx 4) (qgs_cons (qg_name 5 sc_L_barred.nd) (gName_noEx 5) qgs_nil)))))
    (qss_cons (qs_if (qt_ne hr (q_len z_len (qa_cons (q_var 2) qa_nil)) (q_addA (q_var 3) q_int))
    (qss_one (qs_ret q_bl))
    qss_nil)
    (qss_cons (qs_set 6 sc_L_barred.nd (q_addA (q_frz (qn_lc (g := (gName 7)) (tt := tYes) (te := (tCall (spP K 2 m_L_power) [] E0 (tCons (tVar 0) (tCons (tVar 7) tNil)))) (gm := (gNameM 7)) (cm := bYes) (em := (eCallP 2 m_L_power (aCons (eVar 0) (aCons (eVar 7) aNil)))) (ws := [7]) [(("_law_k" : Str), 7)] rfl sc_L_barred.nd (qi_r1 z_range (qa_cons (q_var 4) qa_nil)) rfl rfl (by kernel_rfl) (fun _ _ _ _ _ => (qg_name 7 sc_L_barred.nd)) (fun _ _ _ _ _ => qts_nil) (fun _ _ _ _ _ => (q_calP k_L_power hr (by decide) (qa_cons (q_var 0) (qa_cons (q_var 7) qa_nil)))) (by decide))) (q_frz (qn_lc (g := (gName 7)) (tt := tYes) (te := (tCall (spP K 2 m_L_power) [] E0 (tCons (tVar 1) (tCons (tVar 7) tNil)))) (gm := (gNameM 7)) (cm := bYes) (em := (eCallP 2 m_L_power (aCons (eVar 1) (aCons (eVar 7) aNil)))) (ws := [7]) [(("_law_k" : Str), 7)] rfl sc_L_barred.nd (qi_r2 z_range (qa_cons q_int (qa_cons (q_addA (q_var 5) q_int) qa_nil))) rfl rfl (by kernel_rfl) (fun _ _ _ _ _ => (qg_name 7 sc_L_barred.nd)) (fun _ _ _ _ _ => qts_nil) (fun _ _ _ _ _ => (q_calP k_L_power hr (by decide) (qa_cons (q_var 1) (qa_cons (q_var 7) qa_nil)))) (by decide)))))
    (qss_one (qs_ret (q_and (q_all rfl z_all (qa_cons (q_frz (qn_lc (g := (gName 8)) (tt := tYes) (te := (tOp (rEqD K) (tCall (spP K 2 m_L_left) [] E0 (tCons (tVar 8) (tCons (tVar 2) tNil))) (tTup (tCons (tC (.int 0)) (tCons (tC (.int 1)) tNil))))) (gm := (gNameM 8)) (cm := bYes) (em := (eOp (opEq false) (eCallP 2 m_L_left (aCons (eVar 8) (aCons (eVar 2) aNil))) (eTup (aCons (eC (.int 0)) (aCons (eC (.int 1)) aNil))))) (ws := [8]) [(("_law_p" : Str), 8)] rfl sc_L_barred.nd (qi_any (q_var 6)) rfl rfl (by kernel_rfl) (fun _ _ _ _ _ => (qg_name 8 sc_L_barred.nd)) (fun _ _ _ _ _ => qts_nil) (fun _ _ _ _ _ => (q_eq hr (q_calP k_L_left hr (by decide) (qa_cons (q_var 8) (qa_cons (q_var 2) qa_nil))) (q_tup (qa_cons q_int (qa_cons q_int qa_nil))))) (by decide))) qa_nil)) (q_one (q_ne hr (q_calP k_L_left hr (by decide) (qa_cons (q_calP k_L_power hr (by decide) (qa_cons (q_var 0) (qa_cons (q_var 4) qa_nil))) (qa_cons (q_var 2) qa_nil))) (q_tup (qa_cons q_int (qa_cons q_int qa_nil))))))))))))⟩)
abbrev s_L_degrees : Stmt := topS 53
theorem sc_L_degrees : FnScope [("_law_flow_here" : Str), ("_law_some" : Str)] [("_law_flow_here" : Str)] (defScope s_L_degrees) := ⟨rfl, rfl, rfl, by decide +kernel, rfl, by decide +kernel, by decide +kernel⟩
theorem k_L_degrees {P : Program} {w : World} {K : PySem.W.Frag} {mg : Str → Option Value} {base : Heap} (hNT : base.NoSeer ∧ P.given.tree = none) (k_L_pick : Cal P w K mg base 33 "_law_pick" [("_law_flow_here" : Str), ("_law_many" : Str)] (spF K 2 m_L_pick)) (D : DefIn K mg "_law_degrees" s_L_degrees [("_law_flow_here" : Str)]) : Cal P w K mg base 34 "_law_degrees" [("_law_flow_here" : Str)] (spF K 1 m_L_degrees) := by
  unfold m_L_degrees
  exact calF D sc_L_degrees (by decide) (fun f cdv A outer s H E hr => ⟨_, ((qss_cons (qs_if (qt_eq hr (q_calF k_L_pick hr (by decide) (qa_cons (q_var 0) (qa_cons q_int qa_nil))) q_int)
    (qss_one (qs_ret (q_ix (q_frz (qn_disp (qa_cons (q_tup (qa_cons q_int (qa_cons q_int qa_nil))) (qa_cons (q_tup (qa_cons q_int (qa_cons q_int qa_nil))) (qa_cons (q_tup (qa_cons q_int (qa_cons q_int qa_nil))) (qa_cons (q_tup (qa_cons q_int (qa_cons q_int qa_nil))) (qa_cons (q_tup (qa_cons q_int (qa_cons q_int qa_nil))) (qa_cons (q_tup (qa_cons q_int (qa_cons q_int qa_nil))) qa_nil)))))))) (q_calF k_L_pick hr (by decide) (qa_cons (q_var 0) (qa_cons q_int qa_nil))))))
    qss_nil)
    (qss_cons (qs_set 1 sc_L_degrees.nd (q_frz (qn_disp (qa_cons (q_tup (qa_cons q_int (qa_cons q_int qa_nil))) (qa_cons (q_tup (qa_cons q_int (qa_cons q_int qa_nil))) (qa_cons (q_tup (qa_cons q_int (qa_cons q_int qa_nil))) (qa_cons (q_tup (qa_cons q_int (qa_cons q_int qa_nil))) (qa_cons (q_tup (qa_cons q_int (qa_cons q_int qa_nil))) (qa_cons (q_tup (qa_cons q_int (qa_cons q_int qa_nil))) (qa_cons (q_tup (qa_cons q_int (qa_cons q_int qa_nil))) (qa_cons (q_tup (qa_cons q_int (qa_cons q_int qa_nil))) (qa_cons (q_tup (qa_cons q_int (qa_cons q_int qa_nil))) (qa_cons (q_tup (qa_cons q_int (qa_cons q_int qa_nil))) (qa_cons (q_tup (qa_cons q_int (qa_cons q_int qa_nil))) (qa_cons (q_tup (qa_cons q_int (qa_cons q_int qa_nil))) (qa_cons (q_tup (qa_cons q_int (qa_cons q_int qa_nil))) qa_nil))))))))))))))))
    (qss_cons (qs_set 1 sc_L_degrees.nd (q_addA (q_var 1) (q_frz (qn_disp (qa_cons (q_tup (qa_cons q_int (qa_cons q_int qa_nil))) (qa_cons (q_tup (qa_cons q_int (qa_cons q_int qa_nil))) (qa_cons (q_tup (qa_cons q_int (qa_cons q_int qa_nil))) (qa_cons (q_tup (qa_cons q_int (qa_cons q_int qa_nil))) (qa_cons (q_tup (qa_cons q_int (qa_cons q_int qa_nil))) (qa_cons (q_tup (qa_cons q_int (qa_cons q_int qa_nil))) (qa_cons (q_tup (qa_cons q_int (qa_cons q_int qa_nil))) qa_nil)))))))))))
    (qss_one (qs_ret (q_ix (q_var 1) (q_calF k_L_pick hr (by decide) (qa_cons (q_var 0) (qa_cons q_int qa_nil))))))))))⟩)
abbrev s_L_multiple : Stmt := topS 54
theorem sc_L_multiple : FnScope [("_law_flow_here" : Str), ("_law_m" : Str), ("_law_k" : Str), ("_law_g" : Str), ("_law_f" : Str)] [("_law_flow_here" : Str), ("_law_m" : Str), ("_law_k" : Str)] (defScope s_L_multiple) := ⟨rfl, rfl, rfl, by decide +kernel, rfl, by decide +kernel, by decide +kernel⟩
theorem k_L_multiple {P : Program} {w : World} {K : PySem.W.Frag} {mg : Str → Option Value} {base : Heap} (hNT : base.NoSeer ∧ P.given.tree = none) (k_L_poly : Cal P w K mg base 34 "_law_poly" [("_law_tops" : Str), ("_law_bottom" : Str)] (spP K 2 m_L_poly)) (k_L_of : Cal P w K mg base 36 "_law_of" [("_law_p" : Str), ("_law_q" : Str)] (spP K 2 m_L_of)) (k_L_any_poly : Cal P w K mg base 35 "_law_any_poly" [("_law_flow_here" : Str), ("_law_many" : Str), ("_law_most" : Str)] (spF K 3 m_L_any_poly)) (D : DefIn K mg "_law_multiple" s_L_multiple [("_law_flow_here" : Str), ("_law_m" : Str), ("_law_k" : Str)]) : ∀ n, Cal P w K mg base (37 + n) "_law_multiple" [("_law_flow_here" : Str), ("_law_m" : Str), ("_law_k" : Str)] (spF K 3 (m_L_multiple n))
  | 0 => by
    rw [NW.z_L_multiple]
    exact calF0 D sc_L_multiple
  | n + 1 => by
    have k_L_multiple := k_L_multiple (P := P) (w := w) (base := base) hNT k_L_poly k_L_of k_L_any_poly D n
    rw [NW.s_L_multiple]
    exact calF (k := 37 + n) D sc_L_multiple (by decide) (fun f cdv A outer s H E hr => ⟨_, ((qss_cons (qs_if (qt_eq hr (q_mod (q_var 1) (q_var 2)) q_int)
    (qss_cons (qs_set 3 sc_L_multiple.nd (q_calF k_L_any_poly hr (by omega) (qa_cons (q_var 0) (qa_cons (q_var 2) (qa_cons q_int qa_nil)))))
    (qss_one (qs_ret (q_tup (qa_cons (q_calP k_L_of hr (by omega) (qa_cons (q_calF k_L_any_poly hr (by omega) (qa_cons (q_var 0) (qa_cons (q_div (seX hNT hr (by omega) ⟨_, _, rfl, rfl, rfl, rfl, rfl⟩) (q_var 1) (q_var 2)) (qa_cons q_int qa_nil)))) (qa_cons (q_var 3) qa_nil))) (qa_cons (q_var 3) qa_nil))))))
    qss_nil)
    (qss_cons (qs_if (qt_eq hr (q_mod (q_var 2) (q_var 1)) q_int)
    (qss_cons (qs_asg (q_calF k_L_multiple hr (by omega) (qa_cons (q_var 0) (qa_cons (q_var 2) (qa_cons (q_var 1) qa_nil)))) (qg_tup rfl (qgs_cons (qg_name 3 sc_L_multiple.nd) (gName_noEx 3) (qgs_cons (qg_name 4 sc_L_multiple.nd) (gName_noEx 4) qgs_nil))))
    (qss_one (qs_ret (q_tup (qa_cons (q_var 4) (qa_cons (q_var 3) qa_nil))))))
    qss_nil)
    (qss_one (qs_ret (q_tup (qa_cons (q_calP k_L_poly hr (by omega) (qa_cons (q_addA (q_mulA (q_frz (qn_disp (qa_cons q_int qa_nil))) (q_var 1)) (q_frz (qn_disp (qa_cons q_int qa_nil)))) (qa_cons q_int qa_nil))) (qa_cons (q_calP k_L_poly hr (by omega) (qa_cons (q_addA (q_mulA (q_frz (qn_disp (qa_cons q_int qa_nil))) (q_var 2)) (q_frz (qn_disp (qa_cons q_int qa_nil)))) (qa_cons q_int qa_nil))) qa_nil))))))))⟩)
abbrev s_L_bent : Stmt := topS 55
theorem sc_L_bent : FnScope [("_law_flow_here" : Str), ("_law_m" : Str), ("_law_k" : Str), ("_law_part" : Str), ("_law_g" : Str), ("_law_f" : Str), ("_law_turn" : Str), ("_law_below" : Str)] [("_law_flow_here" : Str), ("_law_m" : Str), ("_law_k" : Str)] (defScope s_L_bent) := ⟨rfl, rfl, rfl, by decide +kernel, rfl, by decide +kernel, by decide +kernel⟩
theorem k_L_bent {P : Program} {w : World} {K : PySem.W.Frag} {mg : Str → Option Value} {base : Heap} (hNT : base.NoSeer ∧ P.given.tree = none) (z_range : mg "range" = none) (k_L_of : Cal P w K mg base 36 "_law_of" [("_law_p" : Str), ("_law_q" : Str)] (spP K 2 m_L_of)) (k_L_poly : Cal P w K mg base 34 "_law_poly" [("_law_tops" : Str), ("_law_bottom" : Str)] (spP K 2 m_L_poly)) (k_L_times : Cal P w K mg base 35 "_law_times" [("_law_p" : Str), ("_law_q" : Str)] (spP K 2 m_L_times)) (k_L_number : Cal P w K mg base 34 "_law_number" [("_law_flow_here" : Str), ("_law_most" : Str)] (spF K 2 m_L_number)) (k_L_common : Cal P w K mg base 33 "_law_common" [("_law_a" : Str), ("_law_b" : Str)] (spP K 2 m_L_common)) (D : DefIn K mg "_law_bent" s_L_bent [("_law_flow_here" : Str), ("_law_m" : Str), ("_law_k" : Str)]) : ∀ n, Cal P w K mg base (37 + n) "_law_bent" [("_law_flow_here" : Str), ("_law_m" : Str), ("_law_k" : Str)] (spF K 3 (m_L_bent n))
  | 0 => by
    rw [NW.z_L_bent]
    exact calF0 D sc_L_bent
  | n + 1 => by
    have k_L_bent := k_L_bent (P := P) (w := w) (base := base) hNT z_range k_L_of k_L_poly k_L_times k_L_number k_L_common D n
    rw [NW.s_L_bent]
    exact calF (k := 37 + n) D sc_L_bent (by decide) (fun f cdv A outer s H E hr => ⟨_, ((qss_cons (qs_set 3 sc_L_bent.nd (q_calP k_L_common hr (by omega) (qa_cons (q_var 1) (qa_cons (q_var 2) qa_nil))))
    (qss_cons (qs_par 1 2 rfl sc_L_bent.nd (qa_cons (q_div (seX hNT hr (by omega) ⟨_, _, rfl, rfl, rfl, rfl, rfl⟩) (q_var 1) (q_var 3)) (qa_cons (q_div (seX hNT hr (by omega) ⟨_, _, rfl, rfl, rfl, rfl, rfl⟩) (q_var 2) (q_var 3)) qa_nil)))
    (qss_cons (qs_if (qt_lt (q_var 1) (q_var 2))
    (qss_one (qs_asg (q_calF k_L_bent hr (by omega) (qa_cons (q_var 0) (qa_cons (q_var 2) (qa_cons (q_var 1) qa_nil)))) (qg_tup rfl (qgs_cons (qg_name 4 sc_L_bent.nd) (gName_noEx 4) (qgs_cons (qg_name 5 sc_L_bent.nd) (gName_noEx 5) qgs_nil)))))
    (qss_cons (qs_set 5 sc_L_bent.nd (q_calP k_L_poly hr (by omega) (qa_cons (q_addA (q_mulA (q_frz (qn_disp (qa_cons q_int qa_nil))) (q_mod (q_var 1) (q_var 2))) (q_frz (qn_disp (qa_cons q_int qa_nil)))) (qa_cons q_int qa_nil))))
    (qss_cons (qs_for PassesOwn.never rfl (qi_r1 z_range (qa_cons (q_div (seX hNT hr (by omega) ⟨_, _, rfl, rfl, rfl, rfl, rfl⟩) (q_var 1) (q_var 2)) qa_nil)) (qg_name 6 sc_L_bent.nd)
    (qss_one (qs_set 5 sc_L_bent.nd (q_calP k_L_times hr (by omega) (qa_cons (q_var 5) (qa_cons (q_calP k_L_poly hr (by omega) (qa_cons (q_addA (q_addA (q_frz (qn_disp (qa_cons (q_calF k_L_number hr (by omega) (qa_cons (q_var 0) (qa_cons q_int qa_nil))) qa_nil))) (q_mulA (q_frz (qn_disp (qa_cons q_int qa_nil))) (q_sub (q_var 2) q_int))) (q_frz (qn_disp (qa_cons q_int qa_nil)))) (qa_cons q_int qa_nil))) qa_nil))))))
    (qss_one (qs_set 4 sc_L_bent.nd (q_calP k_L_poly hr (by omega) (qa_cons (q_addA (q_mulA (q_frz (qn_disp (qa_cons q_int qa_nil))) (q_var 2)) (q_frz (qn_disp (qa_cons q_int qa_nil)))) (qa_cons q_int qa_nil))))))))
    (qss_cons (qs_set 7 sc_L_bent.nd (q_calP k_L_poly hr (by omega) (qa_cons (q_addA (q_mulA (q_frz (qn_disp (qa_cons q_int qa_nil))) (q_var 3)) (q_frz (qn_disp (qa_cons q_int qa_nil)))) (qa_cons q_int qa_nil))))
    (qss_one (qs_ret (q_tup (qa_cons (q_calP k_L_of hr (by omega) (qa_cons (q_var 5) (qa_cons (q_var 7) qa_nil))) (qa_cons (q_calP k_L_of hr (by omega) (qa_cons (q_var 4) (qa_cons (q_var 7) qa_nil))) qa_nil))))))))))⟩)
abbrev s_L_outer_pair : Stmt := topS 56
theorem sc_L_outer_pair : FnScope [("_law_flow_here" : Str), ("_law_m" : Str), ("_law_k" : Str), ("_law_form" : Str), ("_law_f" : Str), ("_law_g" : Str), ("_law_a" : Str), ("_law_own" : Str)] [("_law_flow_here" : Str)] (defScope s_L_outer_pair) := ⟨rfl, rfl, rfl, by decide +kernel, rfl, by decide +kernel, by decide +kernel⟩
theorem k_L_outer_pair {P : Program} {w : World} {K : PySem.W.Frag} {mg : Str → Option Value} {base : Heap} (hNT : base.NoSeer ∧ P.given.tree = none) (z_len : mg "len" = none) (k_L_pick : Cal P w K mg base 33 "_law_pick" [("_law_flow_here" : Str), ("_law_many" : Str)] (spF K 2 m_L_pick)) (k_L_sum : Cal P w K mg base 35 "_law_sum" [("_law_p" : Str), ("_law_q" : Str)] (spP K 2 m_L_sum)) (k_L_poly : Cal P w K mg base 34 "_law_poly" [("_law_tops" : Str), ("_law_bottom" : Str)] (spP K 2 m_L_poly)) (k_L_of : Cal P w K mg base 36 "_law_of" [("_law_p" : Str), ("_law_q" : Str)] (spP K 2 m_L_of)) (k_L_any_straight : Cal P w K mg base 36 "_law_any_straight" [("_law_flow_here" : Str), ("_law_most" : Str)] (spF K 2 m_L_any_straight)) (k_L_turning : Cal P w K mg base 36 "_law_turning" [("_law_n" : Str), ("_law_a" : Str)] (spP K 2 m_L_turning)) (k_L_any_fraction : Cal P w K mg base 35 "_law_any_fraction" [("_law_flow_here" : Str), ("_law_most" : Str)] (spF K 2 m_L_any_fraction)) (k_L_bent : Cal P w K mg base 47 "_law_bent" [("_law_flow_here" : Str), ("_law_m" : Str), ("_law_k" : Str)] (spF K 3 (m_L_bent 10))) (k_L_multiple : Cal P w K mg base 47 "_law_multiple" [("_law_flow_here" : Str), ("_law_m" : Str), ("_law_k" : Str)] (spF K 3 (m_L_multiple 10))) (k_L_any_poly : Cal P w K mg base 35 "_law_any_poly" [("_law_flow_here" : Str), ("_law_many" : Str), ("_law_most" : Str)] (spF K 3 m_L_any_poly)) (k_L_degrees : Cal P w K mg base 34 "_law_degrees" [("_law_flow_here" : Str)] (spF K 1 m_L_degrees)) (D : DefIn K mg "_law_outer_pair" s_L_outer_pair [("_law_flow_here" : Str)]) : Cal P w K mg base 48 "_law_outer_pair" [("_law_flow_here" : Str)] (spF K 1 m_L_outer_pair) := by
  unfold m_L_outer_pair
  exact calF D sc_L_outer_pair (by decide) (fun f cdv A outer s H E hr => ⟨_, ((qss_cons (qs_asg (q_calF k_L_degrees hr (by decide) (qa_cons (q_var 0) qa_nil)) (qg_tup rfl (qgs_cons (qg_name 1 sc_L_outer_pair.nd) (gName_noEx 1) (qgs_cons (qg_name 2 sc_L_outer_pair.nd) (gName_noEx 2) qgs_nil))))
    (qss_cons (qs_set 3 sc_L_outer_pair.nd (q_calF k_L_pick hr (by decide) (qa_cons (q_var 0) (qa_cons q_int qa_nil))))
    (qss_cons (qs_if (qt_eq hr (q_var 3) q_int)
    (qss_one (qs_ret (q_tup (qa_cons (q_calF k_L_any_poly hr (by decide) (qa_cons (q_var 0) (qa_cons (q_var 1) (qa_cons q_int qa_nil)))) (qa_cons (q_calF k_L_any_poly hr (by decide) (qa_cons (q_var 0) (qa_cons (q_var 2) (qa_cons q_int qa_nil)))) qa_nil)))))
    qss_nil)
    (qss_cons (qs_if (qt_eq hr (q_var 3) q_int)
    (qss_one (qs_par 4 5 rfl sc_L_outer_pair.nd (qa_cons (q_calP k_L_poly hr (by decide) (qa_cons (q_addA (q_mulA (q_frz (qn_disp (qa_cons q_int qa_nil))) (q_var 1)) (q_frz (qn_disp (qa_cons q_int qa_nil)))) (qa_cons q_int qa_nil))) (qa_cons (q_calP k_L_poly hr (by decide) (qa_cons (q_addA (q_mulA (q_frz (qn_disp (qa_cons q_int qa_nil))) (q_var 2)) (q_frz (qn_disp (qa_cons q_int qa_nil)))) (qa_cons q_int qa_nil))) qa_nil))))
    (qss_one (qs_if (qt_eq hr (q_var 3) q_int)
    (qss_cons (qs_set 6 sc_L_outer_pair.nd (q_calF k_L_any_fraction hr (by decide) (qa_cons (q_var 0) (qa_cons q_int qa_nil))))
    (qss_one (qs_par 4 5 rfl sc_L_outer_pair.nd (qa_cons (q_calP k_L_turning hr (by decide) (qa_cons (q_var 1) (qa_cons (q_var 6) qa_nil))) (qa_cons (q_calP k_L_turning hr (by decide) (qa_cons (q_var 2) (qa_cons (q_var 6) qa_nil))) qa_nil)))))
    (qss_one (qs_if (qt_lt (q_var 3) q_int)
    (qss_one (qs_asg (q_calF k_L_bent hr (by decide) (qa_cons (q_var 0) (qa_cons (q_var 1) (qa_cons (q_var 2) qa_nil)))) (qg_tup rfl (qgs_cons (qg_name 4 sc_L_outer_pair.nd) (gName_noEx 4) (qgs_cons (qg_name 5 sc_L_outer_pair.nd) (gName_noEx 5) qgs_nil)))))
    (qss_one (qs_asg (q_calF k_L_multiple hr (by decide) (qa_cons (q_var 0) (qa_cons (q_var 1) (qa_cons (q_var 2) qa_nil)))) (qg_tup rfl (qgs_cons (qg_name 4 sc_L_outer_pair.nd) (gName_noEx 4) (qgs_cons (qg_name 5 sc_L_outer_pair.nd) (gName_noEx 5) qgs_nil))))))))))
    (qss_cons (qs_set 7 sc_L_outer_pair.nd (q_calF k_L_any_straight hr (by decide) (qa_cons (q_var 0) (qa_cons q_int qa_nil))))
    (qss_cons (qs_set 4 sc_L_outer_pair.nd (q_calP k_L_of hr (by decide) (qa_cons (q_calP k_L_of hr (by decide) (qa_cons (q_calF k_L_any_straight hr (by decide) (qa_cons (q_var 0) (qa_cons q_int qa_nil))) (qa_cons (q_var 4) qa_nil))) (qa_cons (q_var 7) qa_nil))))
    (qss_cons (qs_set 5 sc_L_outer_pair.nd (q_calP k_L_of hr (by decide) (qa_cons (q_calP k_L_of hr (by decide) (qa_cons (q_calF k_L_any_straight hr (by decide) (qa_cons (q_var 0) (qa_cons q_int qa_nil))) (qa_cons (q_var 5) qa_nil))) (qa_cons (q_var 7) qa_nil))))
    (qss_cons (qs_if (qt_eq hr (q_calF k_L_pick hr (by decide) (qa_cons (q_var 0) (qa_cons q_int qa_nil))) q_int)
    (qss_one (qs_set 4 sc_L_outer_pair.nd (q_calP k_L_sum hr (by decide) (qa_cons (q_var 4) (qa_cons (q_calP k_L_poly hr (by decide) (qa_cons (q_addA (q_mulA (q_frz (qn_disp (qa_cons q_int qa_nil))) (q_calF k_L_pick hr (by decide) (qa_cons (q_var 0) (qa_cons (q_sub (q_len z_len (qa_cons (q_ix (q_var 4) q_int) qa_nil)) q_int) qa_nil)))) (q_frz (qn_disp (qa_cons q_int qa_nil)))) (qa_cons (q_addA q_int (q_calF k_L_pick hr (by decide) (qa_cons (q_var 0) (qa_cons q_int qa_nil)))) qa_nil))) qa_nil)))))
    qss_nil)
    (qss_one (qs_ret (q_tup (qa_cons (q_var 4) (qa_cons (q_var 5) qa_nil))))))))))))))⟩)
abbrev s_L_is_poly : Stmt := topS 57
theorem sc_L_is_poly : FnScope [("_law_p" : Str), ("_law_n" : Str)] [("_law_p" : Str)] (defScope s_L_is_poly) := ⟨rfl, rfl, rfl, by decide +kernel, rfl, by decide +kernel, by decide +kernel⟩
theorem k_L_is_poly {P : Program} {w : World} {K : PySem.W.Frag} {mg : Str → Option Value} {base : Heap} (hNT : base.NoSeer ∧ P.given.tree = none) (z_all : mg "all" = none) (z_bool : mg "bool" = none) (z_int : mg "int" = none) (z_isinstance : mg "isinstance" = none) (z_len : mg "len" = none) (z_tuple : mg "tuple" = none) (k_L_poly : Cal P w K mg base 34 "_law_poly" [("_law_tops" : Str), ("_law_bottom" : Str)] (spP K 2 m_L_poly)) (D : DefIn K mg "_law_is_poly" s_L_is_poly [("_law_p" : Str)]) : Cal P w K mg base 35 "_law_is_poly" [("_law_p" : Str)] (spP K 1 m_L_is_poly_2) := by
  unfold m_L_is_poly_2
  exact calP D sc_L_is_poly (by decide) (fun f cdv A outer s H E hr => ⟨_, ((qss_cons (qs_if (qt_w (qw_or (qt_not (qt_tru (q_isi z_isinstance z_tuple boot_tuple (q_var 0)))) (qw_or (qt_ne hr (q_len z_len (qa_cons (q_var 0) qa_nil)) q_int) (qw_or (qt_not (qt_tru (q_isi z_isinstance z_tuple boot_tuple (q_ix (q_var 0) q_int)))) (qw_or1 (qt_eq hr (q_len z_len (qa_cons (q_ix (q_var 0) q_int) qa_nil)) q_int))))))
    (qss_one (qs_ret q_bl))
    qss_nil)
    (qss_cons (qs_if (qt_not (qt_tru (q_all rfl z_all (qa_cons (q_frz (qn_lc (g := (gName 1)) (tt := tYes) (te := (tAndV (tCB (rIsi K) (tCons (tVar 1) (tCons (tC (.ty "int")) tNil))) (tNotV (tCB (rIsi K) (tCons (tVar 1) (tCons (tC (.ty "bool")) tNil)))))) (gm := (gNameM 1)) (cm := bYes) (em := (eAndV (eIsi (eVar 1) "int") (eNotV (eIsi (eVar 1) "bool")))) (ws := [1]) [(("_law_n" : Str), 1)] rfl sc_L_is_poly.nd (qi_any (q_addA (q_ix (q_var 0) q_int) (q_slA (q_var 0) (qo_some q_int) qo_none))) rfl rfl (by kernel_rfl) (fun _ _ _ _ _ => (qg_name 1 sc_L_is_poly.nd)) (fun _ _ _ _ _ => qts_nil) (fun _ _ _ _ _ => (q_and (q_isi z_isinstance z_int boot_int (q_var 1)) (q_one (q_not (q_isi z_isinstance z_bool boot_bool (q_var 1)))))) (by decide))) qa_nil))))
    (qss_one (qs_ret q_bl))
    qss_nil)
    (qss_one (qs_ret (q_and (q_gt (q_ix (q_var 0) q_int) q_int) (q_one (q_eq hr (q_calP k_L_poly hr (by decide) (qa_cons (q_ix (q_var 0) q_int) (qa_cons (q_ix (q_var 0) q_int) qa_nil))) (q_var 0)))))))))⟩)
abbrev s_L_right : Stmt := topS 58
theorem sc_L_right : FnScope [("_law_f" : Str), ("_law_g" : Str), ("_law_told" : Str), ("_law_one" : Str)] [("_law_f" : Str), ("_law_g" : Str), ("_law_told" : Str)] (defScope s_L_right) := ⟨rfl, rfl, rfl, by decide +kernel, rfl, by decide +kernel, by decide +kernel⟩
theorem k_L_right {P : Program} {w : World} {K : PySem.W.Frag} {mg : Str → Option Value} {base : Heap} (hNT : base.NoSeer ∧ P.given.tree = none) (z_all : mg "all" = none) (z_int : mg "int" = none) (z_isinstance : mg "isinstance" = none) (z_len : mg "len" = none) (z_tuple : mg "tuple" = none) (k_L_barred : Cal P w K mg base 37 "_law_barred" [("_law_f" : Str), ("_law_g" : Str), ("_law_weights" : Str)] (spP K 3 m_L_barred)) (k_L_is_fraction : Cal P w K mg base 34 "_law_is_fraction" [("_law_r" : Str)] (spP K 1 m_L_is_fraction)) (k_L_outer_shown : Cal P w K mg base 37 "_law_outer_shown" [("_law_f" : Str), ("_law_g" : Str), ("_law_u" : Str), ("_law_v" : Str)] (spP K 4 m_L_outer_shown)) (k_L_is_poly : Cal P w K mg base 35 "_law_is_poly" [("_law_p" : Str)] (spP K 1 m_L_is_poly_2)) (D : DefIn K mg "_law_right" s_L_right [("_law_f" : Str), ("_law_g" : Str), ("_law_told" : Str)]) : Cal P w K mg base 38 "_law_right" [("_law_f" : Str), ("_law_g" : Str), ("_law_told" : Str)] (spP K 3 m_L_right_32) := by
  unfold m_L_right_32
  exact calP D sc_L_right (by decide) (fun f cdv A outer s H E hr => ⟨_, ((qss_cons (qs_if (qt_w (qw_or (qt_not (qt_tru (q_isi z_isinstance z_tuple boot_tuple (q_var 2)))) (qw_or (qt_notin (q_ix (q_var 2) q_int) (q_tup (qa_cons q_str (qa_cons q_str qa_nil)))) (qw_or1 (qt_ne hr (q_len z_len (qa_cons (q_var 2) qa_nil)) (q_addA q_int (q_intc z_int (qa_cons (q_eq hr (q_ix (q_var 2) q_int) q_str) qa_nil))))))))
    (qss_one (qs_ret q_bl))
    qss_nil)
    (qss_cons (qs_if (qt_eq hr (q_ix (q_var 2) q_int) q_str)
    (qss_one (qs_ret (q_and (q_calP k_L_is_poly hr (by decide) (qa_cons (q_ix (q_var 2) q_int) qa_nil)) (q_and (q_calP k_L_is_poly hr (by decide) (qa_cons (q_ix (q_var 2) q_int) qa_nil)) (q_one (q_calP k_L_outer_shown hr (by decide) (qa_cons (q_var 0) (qa_cons (q_var 1) (qa_cons (q_ix (q_var 2) q_int) (qa_cons (q_ix (q_var 2) q_int) qa_nil))))))))))
    qss_nil)
    (qss_cons (qs_if (qt_w (qw_or (qt_not (qt_tru (q_isi z_isinstance z_tuple boot_tuple (q_ix (q_var 2) q_int)))) (qw_or1 (qt_not (qt_tru (q_all rfl z_all (qa_cons (q_frz (qn_lc (g := (gName 3)) (tt := tYes) (te := (tCall (spP K 1 m_L_is_fraction) [] E0 (tCons (tVar 3) tNil))) (gm := (gNameM 3)) (cm := bYes) (em := (eCallP 1 m_L_is_fraction (aCons (eVar 3) aNil))) (ws := [3]) [(("_law_one" : Str), 3)] rfl sc_L_right.nd (qi_any (q_ix (q_var 2) q_int)) rfl rfl (by kernel_rfl) (fun _ _ _ _ _ => (qg_name 3 sc_L_right.nd)) (fun _ _ _ _ _ => qts_nil) (fun _ _ _ _ _ => (q_calP k_L_is_fraction hr (by decide) (qa_cons (q_var 3) qa_nil))) (by decide))) qa_nil)))))))
    (qss_one (qs_ret q_bl))
    qss_nil)
    (qss_one (qs_ret (q_calP k_L_barred hr (by decide) (qa_cons (q_var 0) (qa_cons (q_var 1) (qa_cons (q_ix (q_var 2) q_int) qa_nil))))))))))⟩)
abbrev s_law : Stmt := topS 59
theorem sc_law : FnScope [("_law_script" : Str), ("_law_flow_here" : Str), ("_law_f" : Str), ("_law_g" : Str), ("_law_first" : Str), ("_law_about" : Str), ("_law_other" : Str), ("_law_third" : Str)] [("_law_script" : Str)] (defScope s_law) := ⟨rfl, rfl, rfl, by decide +kernel, rfl, by decide +kernel, by decide +kernel⟩
theorem ok_law {P : Program} {w : World} {K : PySem.W.Frag} {mg : Str → Option Value} {base : Heap} (hNT : base.NoSeer ∧ P.given.tree = none) {f : Addr} {fd : FuncData} (k_common_outer : Cal P w K mg base 39 "common_outer" [("f" : Str), ("g" : Str)] (spP K 2 m_common_outer)) (k_L_fits : Cal P w K mg base 33 "_law_fits" [("_law_some" : Str)] (spP K 1 m_L_fits)) (k_L_shape : Cal P w K mg base 34 "_law_shape" [("_law_f" : Str), ("_law_g" : Str)] (spP K 2 m_L_shape)) (k_L_right : Cal P w K mg base 38 "_law_right" [("_law_f" : Str), ("_law_g" : Str), ("_law_told" : Str)] (spP K 3 m_L_right_32)) (k_L_outer_pair : Cal P w K mg base 48 "_law_outer_pair" [("_law_flow_here" : Str)] (spF K 1 m_L_outer_pair))
    (k_Lflow : Cal P w K mg base 33 "_law_flow" ["_law_script"] (spFl K)) (D : Fun K "law" "law" s_law f fd)
    (hsem : ∀ ns : List Int, ns.length ≤ 63 → ∃ st', b_law_k58 ((startL 8 [.scr ns]).set 1 (some .flow)) ⟨some (fl0 ns), []⟩ = .rt (.d (.bool true)) st') :
    FnOk P w K mg base CX0 49 f fd ["_law_script"] (spLaw K) := by
  refine okLaw (i := 1) (mf := "_law_flow") (psf := ["_law_script"]) (kf := 1) D sc_law rfl (by decide) (fun cdv A outer s H E hr => ?_) hsem
  obtain ⟨fF, fdF, FF, mF, kF, bF⟩ := k_Lflow.ex
  have z : QSs (cxOf CX0 P w K mg base _ "law" (defScope s_law) f cdv A outer s H E).nox (defBody s_law).tail _ b_law_k58 := (qss_cons (qs_asg (q_calF k_L_outer_pair hr (by decide) (qa_cons (q_var 1) qa_nil)) (qg_tup rfl (qgs_cons (qg_name 2 sc_law.nd) (gName_noEx 2) (qgs_cons (qg_name 3 sc_law.nd) (gName_noEx 3) qgs_nil))))
    (qss_cons (qs_if (qt_not (qt_tru (q_calP k_L_fits hr (by decide) (qa_cons (q_frz (qn_disp (qa_cons (q_var 2) (qa_cons (q_var 3) qa_nil)))) qa_nil))))
    (qss_one (qs_ret q_bl))
    qss_nil)
    (qss_cons (qs_set 4 sc_law.nd (q_calP k_common_outer hr (by decide) (qa_cons (q_var 2) (qa_cons (q_var 3) qa_nil))))
    (qss_cons (qs_if (qt_not (qt_tru (q_calP k_L_right hr (by decide) (qa_cons (q_var 2) (qa_cons (q_var 3) (qa_cons (q_var 4) qa_nil))))))
    (qss_one (qs_ret q_bl))
    qss_nil)
    (qss_cons (qs_if (qt_gt (q_ix (q_calP k_L_shape hr (by decide) (qa_cons (q_var 2) (qa_cons (q_var 3) qa_nil))) q_int) q_int)
    (qss_one (qs_ret q_bl))
    qss_nil)
    (qss_cons (qs_set 5 sc_law.nd (q_calP k_common_outer hr (by decide) (qa_cons (q_var 3) (qa_cons (q_var 2) qa_nil))))
    (qss_cons (qs_if (qt_w (qw_or (qt_not (qt_tru (q_calP k_L_right hr (by decide) (qa_cons (q_var 3) (qa_cons (q_var 2) (qa_cons (q_var 5) qa_nil)))))) (qw_or (qt_ne hr (q_ix (q_var 5) q_int) (q_ix (q_var 4) q_int)) (qw_or1 (qt_not (qt_tru (q_calP k_L_right hr (by decide) (qa_cons (q_var 2) (qa_cons (q_var 2) (qa_cons (q_calP k_common_outer hr (by decide) (qa_cons (q_var 2) (qa_cons (q_var 2) qa_nil))) qa_nil))))))))))
    (qss_one (qs_ret q_bl))
    qss_nil)
    (qss_cons (qs_asg (q_calF k_L_outer_pair hr (by decide) (qa_cons (q_var 1) qa_nil)) (qg_tup rfl (qgs_cons (qg_name 6 sc_law.nd) (gName_noEx 6) (qgs_cons (qg_name 7 sc_law.nd) (gName_noEx 7) qgs_nil))))
    (qss_cons (qs_if (qt_w (qw_and (qt_lt (q_ix (q_calP k_L_shape hr (by decide) (qa_cons (q_var 6) (qa_cons (q_var 7) qa_nil))) q_int) q_int) (qw_and1 (qt_tru (q_calP k_L_fits hr (by decide) (qa_cons (q_frz (qn_disp (qa_cons (q_var 6) (qa_cons (q_var 7) qa_nil)))) qa_nil))))))
    (qss_one (qs_if (qt_not (qt_tru (q_calP k_L_right hr (by decide) (qa_cons (q_var 6) (qa_cons (q_var 7) (qa_cons (q_calP k_common_outer hr (by decide) (qa_cons (q_var 6) (qa_cons (q_var 7) qa_nil))) qa_nil))))))
    (qss_one (qs_ret q_bl))
    qss_nil))
    qss_nil)
    (qss_one (qs_ret (q_eq hr (q_calP k_common_outer hr (by decide) (qa_cons (q_var 2) (qa_cons (q_var 3) qa_nil))) (q_var 4)))))))))))))
  exact ⟨_, pss_cons (ps_set (i := 1) sc_law.nd rfl (by first | exact .inl rfl | exact .inr rfl) (pe_call FF (hr.mono (by decide)) (by rfl) mF kF bF .nil pass0 (pa_cons (pv 0) pa_nil))) z.pss, fun G hG => z.sim G hG⟩
theorem all_mk {l : PySem.W.OpenLaw} {w : World} {K1 K : PySem.W.Frag} {h : Heap} {mg : Str → Option Value} {fa : Addr} (M : More K1 K) (X : K.In h) (G : h.Ns mainGlobals mg) (hT : l.prog.given.tree = none) (hfa : mg "law" = some (.ref fa)) (hsem : ∀ ns : List Int, ns.length ≤ 63 → ∃ st', b_law_k58 ((startL 8 [.scr ns]).set 1 (some .flow)) ⟨some (fl0 ns), []⟩ = .rt (.d (.bool true)) st')
    {f_common_part : Addr} {oc_common_part kV_common_part dc_common_part pm_common_part cd_common_part ct_common_part : Value} {od_common_part an_common_part : Option Addr} {sl_common_part : Array (Option Value)}
    (a_common_part : PySem.W.nsIn K1 mainGlobals "common_part" = some (some (.ref f_common_part))) (l_common_part : K1.lookup f_common_part = some ⟨oc_common_part, od_common_part, .func (PySem.W.fnOf "common_part" "common_part" (defArgs s_common_part) (defBody s_common_part) (defScope s_common_part) .none kV_common_part dc_common_part pm_common_part an_common_part cd_common_part ct_common_part), sl_common_part⟩) (c_common_part : PySem.W.codeIn K1 cd_common_part "common_part" = true)
    {f_fraction : Addr} {oc_fraction kV_fraction dc_fraction pm_fraction cd_fraction ct_fraction : Value} {od_fraction an_fraction : Option Addr} {sl_fraction : Array (Option Value)}
    (a_fraction : PySem.W.nsIn K1 mainGlobals "fraction" = some (some (.ref f_fraction))) (l_fraction : K1.lookup f_fraction = some ⟨oc_fraction, od_fraction, .func (PySem.W.fnOf "fraction" "fraction" (defArgs s_fraction) (defBody s_fraction) (defScope s_fraction) .none kV_fraction dc_fraction pm_fraction an_fraction cd_fraction ct_fraction), sl_fraction⟩) (c_fraction : PySem.W.codeIn K1 cd_fraction "fraction" = true)
    {f_taken : Addr} {oc_taken kV_taken dc_taken pm_taken cd_taken ct_taken : Value} {od_taken an_taken : Option Addr} {sl_taken : Array (Option Value)}
    (a_taken : PySem.W.nsIn K1 mainGlobals "taken" = some (some (.ref f_taken))) (l_taken : K1.lookup f_taken = some ⟨oc_taken, od_taken, .func (PySem.W.fnOf "taken" "taken" (defArgs s_taken) (defBody s_taken) (defScope s_taken) .none kV_taken dc_taken pm_taken an_taken cd_taken ct_taken), sl_taken⟩) (c_taken : PySem.W.codeIn K1 cd_taken "taken" = true)
    {f_multiplied : Addr} {oc_multiplied kV_multiplied dc_multiplied pm_multiplied cd_multiplied ct_multiplied : Value} {od_multiplied an_multiplied : Option Addr} {sl_multiplied : Array (Option Value)}
    (a_multiplied : PySem.W.nsIn K1 mainGlobals "multiplied" = some (some (.ref f_multiplied))) (l_multiplied : K1.lookup f_multiplied = some ⟨oc_multiplied, od_multiplied, .func (PySem.W.fnOf "multiplied" "multiplied" (defArgs s_multiplied) (defBody s_multiplied) (defScope s_multiplied) .none kV_multiplied dc_multiplied pm_multiplied an_multiplied cd_multiplied ct_multiplied), sl_multiplied⟩) (c_multiplied : PySem.W.codeIn K1 cd_multiplied "multiplied" = true)
    {f_divided : Addr} {oc_divided kV_divided dc_divided pm_divided cd_divided ct_divided : Value} {od_divided an_divided : Option Addr} {sl_divided : Array (Option Value)}
    (a_divided : PySem.W.nsIn K1 mainGlobals "divided" = some (some (.ref f_divided))) (l_divided : K1.lookup f_divided = some ⟨oc_divided, od_divided, .func (PySem.W.fnOf "divided" "divided" (defArgs s_divided) (defBody s_divided) (defScope s_divided) .none kV_divided dc_divided pm_divided an_divided cd_divided ct_divided), sl_divided⟩) (c_divided : PySem.W.codeIn K1 cd_divided "divided" = true)
    {f_over : Addr} {oc_over kV_over dc_over pm_over cd_over ct_over : Value} {od_over an_over : Option Addr} {sl_over : Array (Option Value)}
    (a_over : PySem.W.nsIn K1 mainGlobals "over" = some (some (.ref f_over))) (l_over : K1.lookup f_over = some ⟨oc_over, od_over, .func (PySem.W.fnOf "over" "over" (defArgs s_over) (defBody s_over) (defScope s_over) .none kV_over dc_over pm_over an_over cd_over ct_over), sl_over⟩) (c_over : PySem.W.codeIn K1 cd_over "over" = true)
    {f_poly : Addr} {oc_poly kV_poly dc_poly pm_poly cd_poly ct_poly : Value} {od_poly an_poly : Option Addr} {sl_poly : Array (Option Value)}
    (a_poly : PySem.W.nsIn K1 mainGlobals "poly" = some (some (.ref f_poly))) (l_poly : K1.lookup f_poly = some ⟨oc_poly, od_poly, .func (PySem.W.fnOf "poly" "poly" (defArgs s_poly) (defBody s_poly) (defScope s_poly) .none kV_poly dc_poly pm_poly an_poly cd_poly ct_poly), sl_poly⟩) (c_poly : PySem.W.codeIn K1 cd_poly "poly" = true)
    {f_fraction_at : Addr} {oc_fraction_at kV_fraction_at dc_fraction_at pm_fraction_at cd_fraction_at ct_fraction_at : Value} {od_fraction_at an_fraction_at : Option Addr} {sl_fraction_at : Array (Option Value)}
    (a_fraction_at : PySem.W.nsIn K1 mainGlobals "fraction_at" = some (some (.ref f_fraction_at))) (l_fraction_at : K1.lookup f_fraction_at = some ⟨oc_fraction_at, od_fraction_at, .func (PySem.W.fnOf "fraction_at" "fraction_at" (defArgs s_fraction_at) (defBody s_fraction_at) (defScope s_fraction_at) .none kV_fraction_at dc_fraction_at pm_fraction_at an_fraction_at cd_fraction_at ct_fraction_at), sl_fraction_at⟩) (c_fraction_at : PySem.W.codeIn K1 cd_fraction_at "fraction_at" = true)
    {f_degree : Addr} {oc_degree kV_degree dc_degree pm_degree cd_degree ct_degree : Value} {od_degree an_degree : Option Addr} {sl_degree : Array (Option Value)}
    (a_degree : PySem.W.nsIn K1 mainGlobals "degree" = some (some (.ref f_degree))) (l_degree : K1.lookup f_degree = some ⟨oc_degree, od_degree, .func (PySem.W.fnOf "degree" "degree" (defArgs s_degree) (defBody s_degree) (defScope s_degree) .none kV_degree dc_degree pm_degree an_degree cd_degree ct_degree), sl_degree⟩) (c_degree : PySem.W.codeIn K1 cd_degree "degree" = true)
    {f_times : Addr} {oc_times kV_times dc_times pm_times cd_times ct_times : Value} {od_times an_times : Option Addr} {sl_times : Array (Option Value)}
    (a_times : PySem.W.nsIn K1 mainGlobals "times" = some (some (.ref f_times))) (l_times : K1.lookup f_times = some ⟨oc_times, od_times, .func (PySem.W.fnOf "times" "times" (defArgs s_times) (defBody s_times) (defScope s_times) .none kV_times dc_times pm_times an_times cd_times ct_times), sl_times⟩) (c_times : PySem.W.codeIn K1 cd_times "times" = true)
    {f_power : Addr} {oc_power kV_power dc_power pm_power cd_power ct_power : Value} {od_power an_power : Option Addr} {sl_power : Array (Option Value)}
    (a_power : PySem.W.nsIn K1 mainGlobals "power" = some (some (.ref f_power))) (l_power : K1.lookup f_power = some ⟨oc_power, od_power, .func (PySem.W.fnOf "power" "power" (defArgs s_power) (defBody s_power) (defScope s_power) .none kV_power dc_power pm_power an_power cd_power ct_power), sl_power⟩) (c_power : PySem.W.codeIn K1 cd_power "power" = true)
    {f_less_times : Addr} {oc_less_times kV_less_times dc_less_times pm_less_times cd_less_times ct_less_times : Value} {od_less_times an_less_times : Option Addr} {sl_less_times : Array (Option Value)}
    (a_less_times : PySem.W.nsIn K1 mainGlobals "less_times" = some (some (.ref f_less_times))) (l_less_times : K1.lookup f_less_times = some ⟨oc_less_times, od_less_times, .func (PySem.W.fnOf "less_times" "less_times" (defArgs s_less_times) (defBody s_less_times) (defScope s_less_times) .none kV_less_times dc_less_times pm_less_times an_less_times cd_less_times ct_less_times), sl_less_times⟩) (c_less_times : PySem.W.codeIn K1 cd_less_times "less_times" = true)
    {f_with_weights : Addr} {oc_with_weights kV_with_weights dc_with_weights pm_with_weights cd_with_weights ct_with_weights : Value} {od_with_weights an_with_weights : Option Addr} {sl_with_weights : Array (Option Value)}
    (a_with_weights : PySem.W.nsIn K1 mainGlobals "with_weights" = some (some (.ref f_with_weights))) (l_with_weights : K1.lookup f_with_weights = some ⟨oc_with_weights, od_with_weights, .func (PySem.W.fnOf "with_weights" "with_weights" (defArgs s_with_weights) (defBody s_with_weights) (defScope s_with_weights) .none kV_with_weights dc_with_weights pm_with_weights an_with_weights cd_with_weights ct_with_weights), sl_with_weights⟩) (c_with_weights : PySem.W.codeIn K1 cd_with_weights "with_weights" = true)
    {f_pivot : Addr} {oc_pivot kV_pivot dc_pivot pm_pivot cd_pivot ct_pivot : Value} {od_pivot an_pivot : Option Addr} {sl_pivot : Array (Option Value)}
    (a_pivot : PySem.W.nsIn K1 mainGlobals "pivot" = some (some (.ref f_pivot))) (l_pivot : K1.lookup f_pivot = some ⟨oc_pivot, od_pivot, .func (PySem.W.fnOf "pivot" "pivot" (defArgs s_pivot) (defBody s_pivot) (defScope s_pivot) .none kV_pivot dc_pivot pm_pivot an_pivot cd_pivot ct_pivot), sl_pivot⟩) (c_pivot : PySem.W.codeIn K1 cd_pivot "pivot" = true)
    {f_cleared : Addr} {oc_cleared kV_cleared dc_cleared pm_cleared cd_cleared ct_cleared : Value} {od_cleared an_cleared : Option Addr} {sl_cleared : Array (Option Value)}
    (a_cleared : PySem.W.nsIn K1 mainGlobals "cleared" = some (some (.ref f_cleared))) (l_cleared : K1.lookup f_cleared = some ⟨oc_cleared, od_cleared, .func (PySem.W.fnOf "cleared" "cleared" (defArgs s_cleared) (defBody s_cleared) (defScope s_cleared) .none kV_cleared dc_cleared pm_cleared an_cleared cd_cleared ct_cleared), sl_cleared⟩) (c_cleared : PySem.W.codeIn K1 cd_cleared "cleared" = true)
    {f_solved : Addr} {oc_solved kV_solved dc_solved pm_solved cd_solved ct_solved : Value} {od_solved an_solved : Option Addr} {sl_solved : Array (Option Value)}
    (a_solved : PySem.W.nsIn K1 mainGlobals "solved" = some (some (.ref f_solved))) (l_solved : K1.lookup f_solved = some ⟨oc_solved, od_solved, .func (PySem.W.fnOf "solved" "solved" (defArgs s_solved) (defBody s_solved) (defScope s_solved) .none kV_solved dc_solved pm_solved an_solved cd_solved ct_solved), sl_solved⟩) (c_solved : PySem.W.codeIn K1 cd_solved "solved" = true)
    {f_least_multiple : Addr} {oc_least_multiple kV_least_multiple dc_least_multiple pm_least_multiple cd_least_multiple ct_least_multiple : Value} {od_least_multiple an_least_multiple : Option Addr} {sl_least_multiple : Array (Option Value)}
    (a_least_multiple : PySem.W.nsIn K1 mainGlobals "least_multiple" = some (some (.ref f_least_multiple))) (l_least_multiple : K1.lookup f_least_multiple = some ⟨oc_least_multiple, od_least_multiple, .func (PySem.W.fnOf "least_multiple" "least_multiple" (defArgs s_least_multiple) (defBody s_least_multiple) (defScope s_least_multiple) .none kV_least_multiple dc_least_multiple pm_least_multiple an_least_multiple cd_least_multiple ct_least_multiple), sl_least_multiple⟩) (c_least_multiple : PySem.W.codeIn K1 cd_least_multiple "least_multiple" = true)
    {f_shape : Addr} {oc_shape kV_shape dc_shape pm_shape cd_shape ct_shape : Value} {od_shape an_shape : Option Addr} {sl_shape : Array (Option Value)}
    (a_shape : PySem.W.nsIn K1 mainGlobals "shape" = some (some (.ref f_shape))) (l_shape : K1.lookup f_shape = some ⟨oc_shape, od_shape, .func (PySem.W.fnOf "shape" "shape" (defArgs s_shape) (defBody s_shape) (defScope s_shape) .none kV_shape dc_shape pm_shape an_shape cd_shape ct_shape), sl_shape⟩) (c_shape : PySem.W.codeIn K1 cd_shape "shape" = true)
    {f_columns : Addr} {oc_columns kV_columns dc_columns pm_columns cd_columns ct_columns : Value} {od_columns an_columns : Option Addr} {sl_columns : Array (Option Value)}
    (a_columns : PySem.W.nsIn K1 mainGlobals "columns" = some (some (.ref f_columns))) (l_columns : K1.lookup f_columns = some ⟨oc_columns, od_columns, .func (PySem.W.fnOf "columns" "columns" (defArgs s_columns) (defBody s_columns) (defScope s_columns) .none kV_columns dc_columns pm_columns an_columns cd_columns ct_columns), sl_columns⟩) (c_columns : PySem.W.codeIn K1 cd_columns "columns" = true)
    {f_common_outer : Addr} {oc_common_outer kV_common_outer dc_common_outer pm_common_outer cd_common_outer ct_common_outer : Value} {od_common_outer an_common_outer : Option Addr} {sl_common_outer : Array (Option Value)}
    (a_common_outer : PySem.W.nsIn K1 mainGlobals "common_outer" = some (some (.ref f_common_outer))) (l_common_outer : K1.lookup f_common_outer = some ⟨oc_common_outer, od_common_outer, .func (PySem.W.fnOf "common_outer" "common_outer" (defArgs s_common_outer) (defBody s_common_outer) (defScope s_common_outer) .none kV_common_outer dc_common_outer pm_common_outer an_common_outer cd_common_outer ct_common_outer), sl_common_outer⟩) (c_common_outer : PySem.W.codeIn K1 cd_common_outer "common_outer" = true)
    {f_L_flow : Addr} {oc_L_flow kV_L_flow dc_L_flow pm_L_flow cd_L_flow ct_L_flow : Value} {od_L_flow an_L_flow : Option Addr} {sl_L_flow : Array (Option Value)}
    (a_L_flow : PySem.W.nsIn K1 mainGlobals "_law_flow" = some (some (.ref f_L_flow))) (l_L_flow : K1.lookup f_L_flow = some ⟨oc_L_flow, od_L_flow, .func (PySem.W.fnOf "_law_flow" "_law_flow" (defArgs s_L_flow) (defBody s_L_flow) (defScope s_L_flow) .none kV_L_flow dc_L_flow pm_L_flow an_L_flow cd_L_flow ct_L_flow), sl_L_flow⟩) (c_L_flow : PySem.W.codeIn K1 cd_L_flow "_law_flow" = true)
    {f_L_pick : Addr} {oc_L_pick kV_L_pick dc_L_pick pm_L_pick cd_L_pick ct_L_pick : Value} {od_L_pick an_L_pick : Option Addr} {sl_L_pick : Array (Option Value)}
    (a_L_pick : PySem.W.nsIn K1 mainGlobals "_law_pick" = some (some (.ref f_L_pick))) (l_L_pick : K1.lookup f_L_pick = some ⟨oc_L_pick, od_L_pick, .func (PySem.W.fnOf "_law_pick" "_law_pick" (defArgs s_L_pick) (defBody s_L_pick) (defScope s_L_pick) .none kV_L_pick dc_L_pick pm_L_pick an_L_pick cd_L_pick ct_L_pick), sl_L_pick⟩) (c_L_pick : PySem.W.codeIn K1 cd_L_pick "_law_pick" = true)
    {f_L_common : Addr} {oc_L_common kV_L_common dc_L_common pm_L_common cd_L_common ct_L_common : Value} {od_L_common an_L_common : Option Addr} {sl_L_common : Array (Option Value)}
    (a_L_common : PySem.W.nsIn K1 mainGlobals "_law_common" = some (some (.ref f_L_common))) (l_L_common : K1.lookup f_L_common = some ⟨oc_L_common, od_L_common, .func (PySem.W.fnOf "_law_common" "_law_common" (defArgs s_L_common) (defBody s_L_common) (defScope s_L_common) .none kV_L_common dc_L_common pm_L_common an_L_common cd_L_common ct_L_common), sl_L_common⟩) (c_L_common : PySem.W.codeIn K1 cd_L_common "_law_common" = true)
    {f_L_fraction : Addr} {oc_L_fraction kV_L_fraction dc_L_fraction pm_L_fraction cd_L_fraction ct_L_fraction : Value} {od_L_fraction an_L_fraction : Option Addr} {sl_L_fraction : Array (Option Value)}
    (a_L_fraction : PySem.W.nsIn K1 mainGlobals "_law_fraction" = some (some (.ref f_L_fraction))) (l_L_fraction : K1.lookup f_L_fraction = some ⟨oc_L_fraction, od_L_fraction, .func (PySem.W.fnOf "_law_fraction" "_law_fraction" (defArgs s_L_fraction) (defBody s_L_fraction) (defScope s_L_fraction) .none kV_L_fraction dc_L_fraction pm_L_fraction an_L_fraction cd_L_fraction ct_L_fraction), sl_L_fraction⟩) (c_L_fraction : PySem.W.codeIn K1 cd_L_fraction "_law_fraction" = true)
    {f_L_added : Addr} {oc_L_added kV_L_added dc_L_added pm_L_added cd_L_added ct_L_added : Value} {od_L_added an_L_added : Option Addr} {sl_L_added : Array (Option Value)}
    (a_L_added : PySem.W.nsIn K1 mainGlobals "_law_added" = some (some (.ref f_L_added))) (l_L_added : K1.lookup f_L_added = some ⟨oc_L_added, od_L_added, .func (PySem.W.fnOf "_law_added" "_law_added" (defArgs s_L_added) (defBody s_L_added) (defScope s_L_added) .none kV_L_added dc_L_added pm_L_added an_L_added cd_L_added ct_L_added), sl_L_added⟩) (c_L_added : PySem.W.codeIn K1 cd_L_added "_law_added" = true)
    {f_L_product : Addr} {oc_L_product kV_L_product dc_L_product pm_L_product cd_L_product ct_L_product : Value} {od_L_product an_L_product : Option Addr} {sl_L_product : Array (Option Value)}
    (a_L_product : PySem.W.nsIn K1 mainGlobals "_law_product" = some (some (.ref f_L_product))) (l_L_product : K1.lookup f_L_product = some ⟨oc_L_product, od_L_product, .func (PySem.W.fnOf "_law_product" "_law_product" (defArgs s_L_product) (defBody s_L_product) (defScope s_L_product) .none kV_L_product dc_L_product pm_L_product an_L_product cd_L_product ct_L_product), sl_L_product⟩) (c_L_product : PySem.W.codeIn K1 cd_L_product "_law_product" = true)
    {f_L_poly : Addr} {oc_L_poly kV_L_poly dc_L_poly pm_L_poly cd_L_poly ct_L_poly : Value} {od_L_poly an_L_poly : Option Addr} {sl_L_poly : Array (Option Value)}
    (a_L_poly : PySem.W.nsIn K1 mainGlobals "_law_poly" = some (some (.ref f_L_poly))) (l_L_poly : K1.lookup f_L_poly = some ⟨oc_L_poly, od_L_poly, .func (PySem.W.fnOf "_law_poly" "_law_poly" (defArgs s_L_poly) (defBody s_L_poly) (defScope s_L_poly) .none kV_L_poly dc_L_poly pm_L_poly an_L_poly cd_L_poly ct_L_poly), sl_L_poly⟩) (c_L_poly : PySem.W.codeIn K1 cd_L_poly "_law_poly" = true)
    {f_L_sum : Addr} {oc_L_sum kV_L_sum dc_L_sum pm_L_sum cd_L_sum ct_L_sum : Value} {od_L_sum an_L_sum : Option Addr} {sl_L_sum : Array (Option Value)}
    (a_L_sum : PySem.W.nsIn K1 mainGlobals "_law_sum" = some (some (.ref f_L_sum))) (l_L_sum : K1.lookup f_L_sum = some ⟨oc_L_sum, od_L_sum, .func (PySem.W.fnOf "_law_sum" "_law_sum" (defArgs s_L_sum) (defBody s_L_sum) (defScope s_L_sum) .none kV_L_sum dc_L_sum pm_L_sum an_L_sum cd_L_sum ct_L_sum), sl_L_sum⟩) (c_L_sum : PySem.W.codeIn K1 cd_L_sum "_law_sum" = true)
    {f_L_times : Addr} {oc_L_times kV_L_times dc_L_times pm_L_times cd_L_times ct_L_times : Value} {od_L_times an_L_times : Option Addr} {sl_L_times : Array (Option Value)}
    (a_L_times : PySem.W.nsIn K1 mainGlobals "_law_times" = some (some (.ref f_L_times))) (l_L_times : K1.lookup f_L_times = some ⟨oc_L_times, od_L_times, .func (PySem.W.fnOf "_law_times" "_law_times" (defArgs s_L_times) (defBody s_L_times) (defScope s_L_times) .none kV_L_times dc_L_times pm_L_times an_L_times cd_L_times ct_L_times), sl_L_times⟩) (c_L_times : PySem.W.codeIn K1 cd_L_times "_law_times" = true)
    {f_L_of : Addr} {oc_L_of kV_L_of dc_L_of pm_L_of cd_L_of ct_L_of : Value} {od_L_of an_L_of : Option Addr} {sl_L_of : Array (Option Value)}
    (a_L_of : PySem.W.nsIn K1 mainGlobals "_law_of" = some (some (.ref f_L_of))) (l_L_of : K1.lookup f_L_of = some ⟨oc_L_of, od_L_of, .func (PySem.W.fnOf "_law_of" "_law_of" (defArgs s_L_of) (defBody s_L_of) (defScope s_L_of) .none kV_L_of dc_L_of pm_L_of an_L_of cd_L_of ct_L_of), sl_L_of⟩) (c_L_of : PySem.W.codeIn K1 cd_L_of "_law_of" = true)
    {f_L_straight : Addr} {oc_L_straight kV_L_straight dc_L_straight pm_L_straight cd_L_straight ct_L_straight : Value} {od_L_straight an_L_straight : Option Addr} {sl_L_straight : Array (Option Value)}
    (a_L_straight : PySem.W.nsIn K1 mainGlobals "_law_straight" = some (some (.ref f_L_straight))) (l_L_straight : K1.lookup f_L_straight = some ⟨oc_L_straight, od_L_straight, .func (PySem.W.fnOf "_law_straight" "_law_straight" (defArgs s_L_straight) (defBody s_L_straight) (defScope s_L_straight) .none kV_L_straight dc_L_straight pm_L_straight an_L_straight cd_L_straight ct_L_straight), sl_L_straight⟩) (c_L_straight : PySem.W.codeIn K1 cd_L_straight "_law_straight" = true)
    {f_L_number : Addr} {oc_L_number kV_L_number dc_L_number pm_L_number cd_L_number ct_L_number : Value} {od_L_number an_L_number : Option Addr} {sl_L_number : Array (Option Value)}
    (a_L_number : PySem.W.nsIn K1 mainGlobals "_law_number" = some (some (.ref f_L_number))) (l_L_number : K1.lookup f_L_number = some ⟨oc_L_number, od_L_number, .func (PySem.W.fnOf "_law_number" "_law_number" (defArgs s_L_number) (defBody s_L_number) (defScope s_L_number) .none kV_L_number dc_L_number pm_L_number an_L_number cd_L_number ct_L_number), sl_L_number⟩) (c_L_number : PySem.W.codeIn K1 cd_L_number "_law_number" = true)
    {f_L_any_fraction : Addr} {oc_L_any_fraction kV_L_any_fraction dc_L_any_fraction pm_L_any_fraction cd_L_any_fraction ct_L_any_fraction : Value} {od_L_any_fraction an_L_any_fraction : Option Addr} {sl_L_any_fraction : Array (Option Value)}
    (a_L_any_fraction : PySem.W.nsIn K1 mainGlobals "_law_any_fraction" = some (some (.ref f_L_any_fraction))) (l_L_any_fraction : K1.lookup f_L_any_fraction = some ⟨oc_L_any_fraction, od_L_any_fraction, .func (PySem.W.fnOf "_law_any_fraction" "_law_any_fraction" (defArgs s_L_any_fraction) (defBody s_L_any_fraction) (defScope s_L_any_fraction) .none kV_L_any_fraction dc_L_any_fraction pm_L_any_fraction an_L_any_fraction cd_L_any_fraction ct_L_any_fraction), sl_L_any_fraction⟩) (c_L_any_fraction : PySem.W.codeIn K1 cd_L_any_fraction "_law_any_fraction" = true)
    {f_L_any_poly : Addr} {oc_L_any_poly kV_L_any_poly dc_L_any_poly pm_L_any_poly cd_L_any_poly ct_L_any_poly : Value} {od_L_any_poly an_L_any_poly : Option Addr} {sl_L_any_poly : Array (Option Value)}
    (a_L_any_poly : PySem.W.nsIn K1 mainGlobals "_law_any_poly" = some (some (.ref f_L_any_poly))) (l_L_any_poly : K1.lookup f_L_any_poly = some ⟨oc_L_any_poly, od_L_any_poly, .func (PySem.W.fnOf "_law_any_poly" "_law_any_poly" (defArgs s_L_any_poly) (defBody s_L_any_poly) (defScope s_L_any_poly) .none kV_L_any_poly dc_L_any_poly pm_L_any_poly an_L_any_poly cd_L_any_poly ct_L_any_poly), sl_L_any_poly⟩) (c_L_any_poly : PySem.W.codeIn K1 cd_L_any_poly "_law_any_poly" = true)
    {f_L_any_straight : Addr} {oc_L_any_straight kV_L_any_straight dc_L_any_straight pm_L_any_straight cd_L_any_straight ct_L_any_straight : Value} {od_L_any_straight an_L_any_straight : Option Addr} {sl_L_any_straight : Array (Option Value)}
    (a_L_any_straight : PySem.W.nsIn K1 mainGlobals "_law_any_straight" = some (some (.ref f_L_any_straight))) (l_L_any_straight : K1.lookup f_L_any_straight = some ⟨oc_L_any_straight, od_L_any_straight, .func (PySem.W.fnOf "_law_any_straight" "_law_any_straight" (defArgs s_L_any_straight) (defBody s_L_any_straight) (defScope s_L_any_straight) .none kV_L_any_straight dc_L_any_straight pm_L_any_straight an_L_any_straight cd_L_any_straight ct_L_any_straight), sl_L_any_straight⟩) (c_L_any_straight : PySem.W.codeIn K1 cd_L_any_straight "_law_any_straight" = true)
    {f_L_turning : Addr} {oc_L_turning kV_L_turning dc_L_turning pm_L_turning cd_L_turning ct_L_turning : Value} {od_L_turning an_L_turning : Option Addr} {sl_L_turning : Array (Option Value)}
    (a_L_turning : PySem.W.nsIn K1 mainGlobals "_law_turning" = some (some (.ref f_L_turning))) (l_L_turning : K1.lookup f_L_turning = some ⟨oc_L_turning, od_L_turning, .func (PySem.W.fnOf "_law_turning" "_law_turning" (defArgs s_L_turning) (defBody s_L_turning) (defScope s_L_turning) .none kV_L_turning dc_L_turning pm_L_turning an_L_turning cd_L_turning ct_L_turning), sl_L_turning⟩) (c_L_turning : PySem.W.codeIn K1 cd_L_turning "_law_turning" = true)
    {f_L_is_fraction : Addr} {oc_L_is_fraction kV_L_is_fraction dc_L_is_fraction pm_L_is_fraction cd_L_is_fraction ct_L_is_fraction : Value} {od_L_is_fraction an_L_is_fraction : Option Addr} {sl_L_is_fraction : Array (Option Value)}
    (a_L_is_fraction : PySem.W.nsIn K1 mainGlobals "_law_is_fraction" = some (some (.ref f_L_is_fraction))) (l_L_is_fraction : K1.lookup f_L_is_fraction = some ⟨oc_L_is_fraction, od_L_is_fraction, .func (PySem.W.fnOf "_law_is_fraction" "_law_is_fraction" (defArgs s_L_is_fraction) (defBody s_L_is_fraction) (defScope s_L_is_fraction) .none kV_L_is_fraction dc_L_is_fraction pm_L_is_fraction an_L_is_fraction cd_L_is_fraction ct_L_is_fraction), sl_L_is_fraction⟩) (c_L_is_fraction : PySem.W.codeIn K1 cd_L_is_fraction "_law_is_fraction" = true)
    {f_L_fits : Addr} {oc_L_fits kV_L_fits dc_L_fits pm_L_fits cd_L_fits ct_L_fits : Value} {od_L_fits an_L_fits : Option Addr} {sl_L_fits : Array (Option Value)}
    (a_L_fits : PySem.W.nsIn K1 mainGlobals "_law_fits" = some (some (.ref f_L_fits))) (l_L_fits : K1.lookup f_L_fits = some ⟨oc_L_fits, od_L_fits, .func (PySem.W.fnOf "_law_fits" "_law_fits" (defArgs s_L_fits) (defBody s_L_fits) (defScope s_L_fits) .none kV_L_fits dc_L_fits pm_L_fits an_L_fits cd_L_fits ct_L_fits), sl_L_fits⟩) (c_L_fits : PySem.W.codeIn K1 cd_L_fits "_law_fits" = true)
    {f_L_power : Addr} {oc_L_power kV_L_power dc_L_power pm_L_power cd_L_power ct_L_power : Value} {od_L_power an_L_power : Option Addr} {sl_L_power : Array (Option Value)}
    (a_L_power : PySem.W.nsIn K1 mainGlobals "_law_power" = some (some (.ref f_L_power))) (l_L_power : K1.lookup f_L_power = some ⟨oc_L_power, od_L_power, .func (PySem.W.fnOf "_law_power" "_law_power" (defArgs s_L_power) (defBody s_L_power) (defScope s_L_power) .none kV_L_power dc_L_power pm_L_power an_L_power cd_L_power ct_L_power), sl_L_power⟩) (c_L_power : PySem.W.codeIn K1 cd_L_power "_law_power" = true)
    {f_L_shape : Addr} {oc_L_shape kV_L_shape dc_L_shape pm_L_shape cd_L_shape ct_L_shape : Value} {od_L_shape an_L_shape : Option Addr} {sl_L_shape : Array (Option Value)}
    (a_L_shape : PySem.W.nsIn K1 mainGlobals "_law_shape" = some (some (.ref f_L_shape))) (l_L_shape : K1.lookup f_L_shape = some ⟨oc_L_shape, od_L_shape, .func (PySem.W.fnOf "_law_shape" "_law_shape" (defArgs s_L_shape) (defBody s_L_shape) (defScope s_L_shape) .none kV_L_shape dc_L_shape pm_L_shape an_L_shape cd_L_shape ct_L_shape), sl_L_shape⟩) (c_L_shape : PySem.W.codeIn K1 cd_L_shape "_law_shape" = true)
    {f_L_left : Addr} {oc_L_left kV_L_left dc_L_left pm_L_left cd_L_left ct_L_left : Value} {od_L_left an_L_left : Option Addr} {sl_L_left : Array (Option Value)}
    (a_L_left : PySem.W.nsIn K1 mainGlobals "_law_left" = some (some (.ref f_L_left))) (l_L_left : K1.lookup f_L_left = some ⟨oc_L_left, od_L_left, .func (PySem.W.fnOf "_law_left" "_law_left" (defArgs s_L_left) (defBody s_L_left) (defScope s_L_left) .none kV_L_left dc_L_left pm_L_left an_L_left cd_L_left ct_L_left), sl_L_left⟩) (c_L_left : PySem.W.codeIn K1 cd_L_left "_law_left" = true)
    {f_L_outer_shown : Addr} {oc_L_outer_shown kV_L_outer_shown dc_L_outer_shown pm_L_outer_shown cd_L_outer_shown ct_L_outer_shown : Value} {od_L_outer_shown an_L_outer_shown : Option Addr} {sl_L_outer_shown : Array (Option Value)}
    (a_L_outer_shown : PySem.W.nsIn K1 mainGlobals "_law_outer_shown" = some (some (.ref f_L_outer_shown))) (l_L_outer_shown : K1.lookup f_L_outer_shown = some ⟨oc_L_outer_shown, od_L_outer_shown, .func (PySem.W.fnOf "_law_outer_shown" "_law_outer_shown" (defArgs s_L_outer_shown) (defBody s_L_outer_shown) (defScope s_L_outer_shown) .none kV_L_outer_shown dc_L_outer_shown pm_L_outer_shown an_L_outer_shown cd_L_outer_shown ct_L_outer_shown), sl_L_outer_shown⟩) (c_L_outer_shown : PySem.W.codeIn K1 cd_L_outer_shown "_law_outer_shown" = true)
    {f_L_barred : Addr} {oc_L_barred kV_L_barred dc_L_barred pm_L_barred cd_L_barred ct_L_barred : Value} {od_L_barred an_L_barred : Option Addr} {sl_L_barred : Array (Option Value)}
    (a_L_barred : PySem.W.nsIn K1 mainGlobals "_law_barred" = some (some (.ref f_L_barred))) (l_L_barred : K1.lookup f_L_barred = some ⟨oc_L_barred, od_L_barred, .func (PySem.W.fnOf "_law_barred" "_law_barred" (defArgs s_L_barred) (defBody s_L_barred) (defScope s_L_barred) .none kV_L_barred dc_L_barred pm_L_barred an_L_barred cd_L_barred ct_L_barred), sl_L_barred⟩) (c_L_barred : PySem.W.codeIn K1 cd_L_barred "_law_barred" = true)
    {f_L_degrees : Addr} {oc_L_degrees kV_L_degrees dc_L_degrees pm_L_degrees cd_L_degrees ct_L_degrees : Value} {od_L_degrees an_L_degrees : Option Addr} {sl_L_degrees : Array (Option Value)}
    (a_L_degrees : PySem.W.nsIn K1 mainGlobals "_law_degrees" = some (some (.ref f_L_degrees))) (l_L_degrees : K1.lookup f_L_degrees = some ⟨oc_L_degrees, od_L_degrees, .func (PySem.W.fnOf "_law_degrees" "_law_degrees" (defArgs s_L_degrees) (defBody s_L_degrees) (defScope s_L_degrees) .none kV_L_degrees dc_L_degrees pm_L_degrees an_L_degrees cd_L_degrees ct_L_degrees), sl_L_degrees⟩) (c_L_degrees : PySem.W.codeIn K1 cd_L_degrees "_law_degrees" = true)
    {f_L_multiple : Addr} {oc_L_multiple kV_L_multiple dc_L_multiple pm_L_multiple cd_L_multiple ct_L_multiple : Value} {od_L_multiple an_L_multiple : Option Addr} {sl_L_multiple : Array (Option Value)}
    (a_L_multiple : PySem.W.nsIn K1 mainGlobals "_law_multiple" = some (some (.ref f_L_multiple))) (l_L_multiple : K1.lookup f_L_multiple = some ⟨oc_L_multiple, od_L_multiple, .func (PySem.W.fnOf "_law_multiple" "_law_multiple" (defArgs s_L_multiple) (defBody s_L_multiple) (defScope s_L_multiple) .none kV_L_multiple dc_L_multiple pm_L_multiple an_L_multiple cd_L_multiple ct_L_multiple), sl_L_multiple⟩) (c_L_multiple : PySem.W.codeIn K1 cd_L_multiple "_law_multiple" = true)
    {f_L_bent : Addr} {oc_L_bent kV_L_bent dc_L_bent pm_L_bent cd_L_bent ct_L_bent : Value} {od_L_bent an_L_bent : Option Addr} {sl_L_bent : Array (Option Value)}
    (a_L_bent : PySem.W.nsIn K1 mainGlobals "_law_bent" = some (some (.ref f_L_bent))) (l_L_bent : K1.lookup f_L_bent = some ⟨oc_L_bent, od_L_bent, .func (PySem.W.fnOf "_law_bent" "_law_bent" (defArgs s_L_bent) (defBody s_L_bent) (defScope s_L_bent) .none kV_L_bent dc_L_bent pm_L_bent an_L_bent cd_L_bent ct_L_bent), sl_L_bent⟩) (c_L_bent : PySem.W.codeIn K1 cd_L_bent "_law_bent" = true)
    {f_L_outer_pair : Addr} {oc_L_outer_pair kV_L_outer_pair dc_L_outer_pair pm_L_outer_pair cd_L_outer_pair ct_L_outer_pair : Value} {od_L_outer_pair an_L_outer_pair : Option Addr} {sl_L_outer_pair : Array (Option Value)}
    (a_L_outer_pair : PySem.W.nsIn K1 mainGlobals "_law_outer_pair" = some (some (.ref f_L_outer_pair))) (l_L_outer_pair : K1.lookup f_L_outer_pair = some ⟨oc_L_outer_pair, od_L_outer_pair, .func (PySem.W.fnOf "_law_outer_pair" "_law_outer_pair" (defArgs s_L_outer_pair) (defBody s_L_outer_pair) (defScope s_L_outer_pair) .none kV_L_outer_pair dc_L_outer_pair pm_L_outer_pair an_L_outer_pair cd_L_outer_pair ct_L_outer_pair), sl_L_outer_pair⟩) (c_L_outer_pair : PySem.W.codeIn K1 cd_L_outer_pair "_law_outer_pair" = true)
    {f_L_is_poly : Addr} {oc_L_is_poly kV_L_is_poly dc_L_is_poly pm_L_is_poly cd_L_is_poly ct_L_is_poly : Value} {od_L_is_poly an_L_is_poly : Option Addr} {sl_L_is_poly : Array (Option Value)}
    (a_L_is_poly : PySem.W.nsIn K1 mainGlobals "_law_is_poly" = some (some (.ref f_L_is_poly))) (l_L_is_poly : K1.lookup f_L_is_poly = some ⟨oc_L_is_poly, od_L_is_poly, .func (PySem.W.fnOf "_law_is_poly" "_law_is_poly" (defArgs s_L_is_poly) (defBody s_L_is_poly) (defScope s_L_is_poly) .none kV_L_is_poly dc_L_is_poly pm_L_is_poly an_L_is_poly cd_L_is_poly ct_L_is_poly), sl_L_is_poly⟩) (c_L_is_poly : PySem.W.codeIn K1 cd_L_is_poly "_law_is_poly" = true)
    {f_L_right : Addr} {oc_L_right kV_L_right dc_L_right pm_L_right cd_L_right ct_L_right : Value} {od_L_right an_L_right : Option Addr} {sl_L_right : Array (Option Value)}
    (a_L_right : PySem.W.nsIn K1 mainGlobals "_law_right" = some (some (.ref f_L_right))) (l_L_right : K1.lookup f_L_right = some ⟨oc_L_right, od_L_right, .func (PySem.W.fnOf "_law_right" "_law_right" (defArgs s_L_right) (defBody s_L_right) (defScope s_L_right) .none kV_L_right dc_L_right pm_L_right an_L_right cd_L_right ct_L_right), sl_L_right⟩) (c_L_right : PySem.W.codeIn K1 cd_L_right "_law_right" = true)
    {f_law : Addr} {oc_law kV_law dc_law pm_law cd_law ct_law : Value} {od_law an_law : Option Addr} {sl_law : Array (Option Value)}
    (a_law : PySem.W.nsIn K1 mainGlobals "law" = some (some (.ref f_law))) (l_law : K1.lookup f_law = some ⟨oc_law, od_law, .func (PySem.W.fnOf "law" "law" (defArgs s_law) (defBody s_law) (defScope s_law) .none kV_law dc_law pm_law an_law cd_law ct_law), sl_law⟩) (c_law : PySem.W.codeIn K1 cd_law "law" = true)
    (b_abs : PySem.W.nsIn K1 mainGlobals "abs" = some none)
    (b_all : PySem.W.nsIn K1 mainGlobals "all" = some none)
    (b_bool : PySem.W.nsIn K1 mainGlobals "bool" = some none)
    (b_enumerate : PySem.W.nsIn K1 mainGlobals "enumerate" = some none)
    (b_int : PySem.W.nsIn K1 mainGlobals "int" = some none)
    (b_isinstance : PySem.W.nsIn K1 mainGlobals "isinstance" = some none)
    (b_len : PySem.W.nsIn K1 mainGlobals "len" = some none)
    (b_list : PySem.W.nsIn K1 mainGlobals "list" = some none)
    (b_max : PySem.W.nsIn K1 mainGlobals "max" = some none)
    (b_range : PySem.W.nsIn K1 mainGlobals "range" = some none)
    (b_reversed : PySem.W.nsIn K1 mainGlobals "reversed" = some none)
    (b_tuple : PySem.W.nsIn K1 mainGlobals "tuple" = some none)
    (b_zip : PySem.W.nsIn K1 mainGlobals "zip" = some none)
    {x_NOUGHT_outer_0 : Addr} {od_x_NOUGHT_outer_0 : Option Addr} {n_x_NOUGHT_outer_0 : Nat} {sl_x_NOUGHT_outer_0 : Array (Option Value)} {t_NOUGHT_outer_1 : Tok} {t_NOUGHT_outer_2 : Tok} (l_NOUGHT_outer_0 : K1.lookup x_NOUGHT_outer_0 = some ⟨.type "tuple", od_x_NOUGHT_outer_0, .seq #[.int 0 t_NOUGHT_outer_1, .int 1 t_NOUGHT_outer_2] n_x_NOUGHT_outer_0, sl_x_NOUGHT_outer_0⟩) (n_NOUGHT_outer : PySem.W.nsIn K1 mainGlobals "NOUGHT_outer" = some (some (.ref x_NOUGHT_outer_0)))
    {x_NOUGHT_sums_0 : Addr} {od_x_NOUGHT_sums_0 : Option Addr} {n_x_NOUGHT_sums_0 : Nat} {sl_x_NOUGHT_sums_0 : Array (Option Value)} {t_NOUGHT_sums_1 : Tok} {t_NOUGHT_sums_2 : Tok} (l_NOUGHT_sums_0 : K1.lookup x_NOUGHT_sums_0 = some ⟨.type "tuple", od_x_NOUGHT_sums_0, .seq #[.int 0 t_NOUGHT_sums_1, .int 1 t_NOUGHT_sums_2] n_x_NOUGHT_sums_0, sl_x_NOUGHT_sums_0⟩) (n_NOUGHT_sums : PySem.W.nsIn K1 mainGlobals "NOUGHT_sums" = some (some (.ref x_NOUGHT_sums_0)))
    {x_ONE_outer_0 : Addr} {od_x_ONE_outer_0 : Option Addr} {n_x_ONE_outer_0 : Nat} {sl_x_ONE_outer_0 : Array (Option Value)} {t_ONE_outer_1 : Tok} {t_ONE_outer_2 : Tok} (l_ONE_outer_0 : K1.lookup x_ONE_outer_0 = some ⟨.type "tuple", od_x_ONE_outer_0, .seq #[.int 1 t_ONE_outer_1, .int 1 t_ONE_outer_2] n_x_ONE_outer_0, sl_x_ONE_outer_0⟩) (n_ONE_outer : PySem.W.nsIn K1 mainGlobals "ONE_outer" = some (some (.ref x_ONE_outer_0)))
    {x_ONE_polys_0 : Addr} {od_x_ONE_polys_0 : Option Addr} {n_x_ONE_polys_0 : Nat} {sl_x_ONE_polys_0 : Array (Option Value)} {x_ONE_polys_1 : Addr} {od_x_ONE_polys_1 : Option Addr} {n_x_ONE_polys_1 : Nat} {sl_x_ONE_polys_1 : Array (Option Value)} {t_ONE_polys_2 : Tok} (l_ONE_polys_1 : K1.lookup x_ONE_polys_1 = some ⟨.type "tuple", od_x_ONE_polys_1, .seq #[.int 1 t_ONE_polys_2] n_x_ONE_polys_1, sl_x_ONE_polys_1⟩) {t_ONE_polys_3 : Tok} (l_ONE_polys_0 : K1.lookup x_ONE_polys_0 = some ⟨.type "tuple", od_x_ONE_polys_0, .seq #[.ref x_ONE_polys_1, .int 1 t_ONE_polys_3] n_x_ONE_polys_0, sl_x_ONE_polys_0⟩) (n_ONE_polys : PySem.W.nsIn K1 mainGlobals "ONE_polys" = some (some (.ref x_ONE_polys_0)))
    {x_ONE_sums_0 : Addr} {od_x_ONE_sums_0 : Option Addr} {n_x_ONE_sums_0 : Nat} {sl_x_ONE_sums_0 : Array (Option Value)} {t_ONE_sums_1 : Tok} {t_ONE_sums_2 : Tok} (l_ONE_sums_0 : K1.lookup x_ONE_sums_0 = some ⟨.type "tuple", od_x_ONE_sums_0, .seq #[.int 1 t_ONE_sums_1, .int 1 t_ONE_sums_2] n_x_ONE_sums_0, sl_x_ONE_sums_0⟩) (n_ONE_sums : PySem.W.nsIn K1 mainGlobals "ONE_sums" = some (some (.ref x_ONE_sums_0)))
    : ∃ fd : FuncData, (∀ (s : Shared) (v : Value), BindsTo s fd ⟨[v], []⟩ [("_law_script", v)]) ∧ ∀ base : Heap, K.In base → base.Ns mainGlobals mg → base.NoSeer → FnOk l.prog w K mg base CX0 49 fa fd ["_law_script"] (spLaw K) := by
  have a_common_part := M.ns a_common_part; have l_common_part := M _ _ l_common_part; have c_common_part := M.code c_common_part; have q_common_part := keep_fn l_common_part
  have a_fraction := M.ns a_fraction; have l_fraction := M _ _ l_fraction; have c_fraction := M.code c_fraction; have q_fraction := keep_fn l_fraction
  have a_taken := M.ns a_taken; have l_taken := M _ _ l_taken; have c_taken := M.code c_taken; have q_taken := keep_fn l_taken
  have a_multiplied := M.ns a_multiplied; have l_multiplied := M _ _ l_multiplied; have c_multiplied := M.code c_multiplied; have q_multiplied := keep_fn l_multiplied
  have a_divided := M.ns a_divided; have l_divided := M _ _ l_divided; have c_divided := M.code c_divided; have q_divided := keep_fn l_divided
  have a_over := M.ns a_over; have l_over := M _ _ l_over; have c_over := M.code c_over; have q_over := keep_fn l_over
  have a_poly := M.ns a_poly; have l_poly := M _ _ l_poly; have c_poly := M.code c_poly; have q_poly := keep_fn l_poly
  have a_fraction_at := M.ns a_fraction_at; have l_fraction_at := M _ _ l_fraction_at; have c_fraction_at := M.code c_fraction_at; have q_fraction_at := keep_fn l_fraction_at
  have a_degree := M.ns a_degree; have l_degree := M _ _ l_degree; have c_degree := M.code c_degree; have q_degree := keep_fn l_degree
  have a_times := M.ns a_times; have l_times := M _ _ l_times; have c_times := M.code c_times; have q_times := keep_fn l_times
  have a_power := M.ns a_power; have l_power := M _ _ l_power; have c_power := M.code c_power; have q_power := keep_fn l_power
  have a_less_times := M.ns a_less_times; have l_less_times := M _ _ l_less_times; have c_less_times := M.code c_less_times; have q_less_times := keep_fn l_less_times
  have a_with_weights := M.ns a_with_weights; have l_with_weights := M _ _ l_with_weights; have c_with_weights := M.code c_with_weights; have q_with_weights := keep_fn l_with_weights
  have a_pivot := M.ns a_pivot; have l_pivot := M _ _ l_pivot; have c_pivot := M.code c_pivot; have q_pivot := keep_fn l_pivot
  have a_cleared := M.ns a_cleared; have l_cleared := M _ _ l_cleared; have c_cleared := M.code c_cleared; have q_cleared := keep_fn l_cleared
  have a_solved := M.ns a_solved; have l_solved := M _ _ l_solved; have c_solved := M.code c_solved; have q_solved := keep_fn l_solved
  have a_least_multiple := M.ns a_least_multiple; have l_least_multiple := M _ _ l_least_multiple; have c_least_multiple := M.code c_least_multiple; have q_least_multiple := keep_fn l_least_multiple
  have a_shape := M.ns a_shape; have l_shape := M _ _ l_shape; have c_shape := M.code c_shape; have q_shape := keep_fn l_shape
  have a_columns := M.ns a_columns; have l_columns := M _ _ l_columns; have c_columns := M.code c_columns; have q_columns := keep_fn l_columns
  have a_common_outer := M.ns a_common_outer; have l_common_outer := M _ _ l_common_outer; have c_common_outer := M.code c_common_outer; have q_common_outer := keep_fn l_common_outer
  have a_L_flow := M.ns a_L_flow; have l_L_flow := M _ _ l_L_flow; have c_L_flow := M.code c_L_flow; have q_L_flow := keep_fn l_L_flow
  have a_L_pick := M.ns a_L_pick; have l_L_pick := M _ _ l_L_pick; have c_L_pick := M.code c_L_pick; have q_L_pick := keep_fn l_L_pick
  have a_L_common := M.ns a_L_common; have l_L_common := M _ _ l_L_common; have c_L_common := M.code c_L_common; have q_L_common := keep_fn l_L_common
  have a_L_fraction := M.ns a_L_fraction; have l_L_fraction := M _ _ l_L_fraction; have c_L_fraction := M.code c_L_fraction; have q_L_fraction := keep_fn l_L_fraction
  have a_L_added := M.ns a_L_added; have l_L_added := M _ _ l_L_added; have c_L_added := M.code c_L_added; have q_L_added := keep_fn l_L_added
  have a_L_product := M.ns a_L_product; have l_L_product := M _ _ l_L_product; have c_L_product := M.code c_L_product; have q_L_product := keep_fn l_L_product
  have a_L_poly := M.ns a_L_poly; have l_L_poly := M _ _ l_L_poly; have c_L_poly := M.code c_L_poly; have q_L_poly := keep_fn l_L_poly
  have a_L_sum := M.ns a_L_sum; have l_L_sum := M _ _ l_L_sum; have c_L_sum := M.code c_L_sum; have q_L_sum := keep_fn l_L_sum
  have a_L_times := M.ns a_L_times; have l_L_times := M _ _ l_L_times; have c_L_times := M.code c_L_times; have q_L_times := keep_fn l_L_times
  have a_L_of := M.ns a_L_of; have l_L_of := M _ _ l_L_of; have c_L_of := M.code c_L_of; have q_L_of := keep_fn l_L_of
  have a_L_straight := M.ns a_L_straight; have l_L_straight := M _ _ l_L_straight; have c_L_straight := M.code c_L_straight; have q_L_straight := keep_fn l_L_straight
  have a_L_number := M.ns a_L_number; have l_L_number := M _ _ l_L_number; have c_L_number := M.code c_L_number; have q_L_number := keep_fn l_L_number
  have a_L_any_fraction := M.ns a_L_any_fraction; have l_L_any_fraction := M _ _ l_L_any_fraction; have c_L_any_fraction := M.code c_L_any_fraction; have q_L_any_fraction := keep_fn l_L_any_fraction
  have a_L_any_poly := M.ns a_L_any_poly; have l_L_any_poly := M _ _ l_L_any_poly; have c_L_any_poly := M.code c_L_any_poly; have q_L_any_poly := keep_fn l_L_any_poly
  have a_L_any_straight := M.ns a_L_any_straight; have l_L_any_straight := M _ _ l_L_any_straight; have c_L_any_straight := M.code c_L_any_straight; have q_L_any_straight := keep_fn l_L_any_straight
  have a_L_turning := M.ns a_L_turning; have l_L_turning := M _ _ l_L_turning; have c_L_turning := M.code c_L_turning; have q_L_turning := keep_fn l_L_turning
  have a_L_is_fraction := M.ns a_L_is_fraction; have l_L_is_fraction := M _ _ l_L_is_fraction; have c_L_is_fraction := M.code c_L_is_fraction; have q_L_is_fraction := keep_fn l_L_is_fraction
  have a_L_fits := M.ns a_L_fits; have l_L_fits := M _ _ l_L_fits; have c_L_fits := M.code c_L_fits; have q_L_fits := keep_fn l_L_fits
  have a_L_power := M.ns a_L_power; have l_L_power := M _ _ l_L_power; have c_L_power := M.code c_L_power; have q_L_power := keep_fn l_L_power
  have a_L_shape := M.ns a_L_shape; have l_L_shape := M _ _ l_L_shape; have c_L_shape := M.code c_L_shape; have q_L_shape := keep_fn l_L_shape
  have a_L_left := M.ns a_L_left; have l_L_left := M _ _ l_L_left; have c_L_left := M.code c_L_left; have q_L_left := keep_fn l_L_left
  have a_L_outer_shown := M.ns a_L_outer_shown; have l_L_outer_shown := M _ _ l_L_outer_shown; have c_L_outer_shown := M.code c_L_outer_shown; have q_L_outer_shown := keep_fn l_L_outer_shown
  have a_L_barred := M.ns a_L_barred; have l_L_barred := M _ _ l_L_barred; have c_L_barred := M.code c_L_barred; have q_L_barred := keep_fn l_L_barred
  have a_L_degrees := M.ns a_L_degrees; have l_L_degrees := M _ _ l_L_degrees; have c_L_degrees := M.code c_L_degrees; have q_L_degrees := keep_fn l_L_degrees
  have a_L_multiple := M.ns a_L_multiple; have l_L_multiple := M _ _ l_L_multiple; have c_L_multiple := M.code c_L_multiple; have q_L_multiple := keep_fn l_L_multiple
  have a_L_bent := M.ns a_L_bent; have l_L_bent := M _ _ l_L_bent; have c_L_bent := M.code c_L_bent; have q_L_bent := keep_fn l_L_bent
  have a_L_outer_pair := M.ns a_L_outer_pair; have l_L_outer_pair := M _ _ l_L_outer_pair; have c_L_outer_pair := M.code c_L_outer_pair; have q_L_outer_pair := keep_fn l_L_outer_pair
  have a_L_is_poly := M.ns a_L_is_poly; have l_L_is_poly := M _ _ l_L_is_poly; have c_L_is_poly := M.code c_L_is_poly; have q_L_is_poly := keep_fn l_L_is_poly
  have a_L_right := M.ns a_L_right; have l_L_right := M _ _ l_L_right; have c_L_right := M.code c_L_right; have q_L_right := keep_fn l_L_right
  have a_law := M.ns a_law; have l_law := M _ _ l_law; have c_law := M.code c_law; have q_law := keep_fn l_law
  have b_abs := M.ns b_abs
  have b_all := M.ns b_all
  have b_bool := M.ns b_bool
  have b_enumerate := M.ns b_enumerate
  have b_int := M.ns b_int
  have b_isinstance := M.ns b_isinstance
  have b_len := M.ns b_len
  have b_list := M.ns b_list
  have b_max := M.ns b_max
  have b_range := M.ns b_range
  have b_reversed := M.ns b_reversed
  have b_tuple := M.ns b_tuple
  have b_zip := M.ns b_zip
  have n_NOUGHT_outer := M.ns n_NOUGHT_outer
  have l_NOUGHT_outer_0 := M _ _ l_NOUGHT_outer_0
  have n_NOUGHT_sums := M.ns n_NOUGHT_sums
  have l_NOUGHT_sums_0 := M _ _ l_NOUGHT_sums_0
  have n_ONE_outer := M.ns n_ONE_outer
  have l_ONE_outer_0 := M _ _ l_ONE_outer_0
  have n_ONE_polys := M.ns n_ONE_polys
  have l_ONE_polys_0 := M _ _ l_ONE_polys_0
  have l_ONE_polys_1 := M _ _ l_ONE_polys_1
  have n_ONE_sums := M.ns n_ONE_sums
  have l_ONE_sums_0 := M _ _ l_ONE_sums_0
  have e := hfa.symm.trans (PySem.W.mg_of X G a_law)
  cases e
  have z_abs := PySem.W.mg_none_of X G b_abs
  have z_all := PySem.W.mg_none_of X G b_all
  have z_bool := PySem.W.mg_none_of X G b_bool
  have z_enumerate := PySem.W.mg_none_of X G b_enumerate
  have z_int := PySem.W.mg_none_of X G b_int
  have z_isinstance := PySem.W.mg_none_of X G b_isinstance
  have z_len := PySem.W.mg_none_of X G b_len
  have z_list := PySem.W.mg_none_of X G b_list
  have z_max := PySem.W.mg_none_of X G b_max
  have z_range := PySem.W.mg_none_of X G b_range
  have z_reversed := PySem.W.mg_none_of X G b_reversed
  have z_tuple := PySem.W.mg_none_of X G b_tuple
  have z_zip := PySem.W.mg_none_of X G b_zip
  have C_NOUGHT_outer : ConIn K mg "NOUGHT_outer" c_NONE_AT_ALL := ⟨_, (.ref x_NOUGHT_outer_0 : V), PySem.W.mg_of X G n_NOUGHT_outer, (rel_ref x_NOUGHT_outer_0), fun _ _ => (.tup (.inr ⟨_, _, _, l_NOUGHT_outer_0, rfl, rfl, sz_ok (by simp), (.cons (rel_int 0 t_NOUGHT_outer_1) (.cons (rel_int 1 t_NOUGHT_outer_2) .nil))⟩) (.cons (.int _) (.cons (.int _) .nil)))⟩
  have C_NOUGHT_sums : ConIn K mg "NOUGHT_sums" c_NONE_AT_ALL := ⟨_, (.ref x_NOUGHT_sums_0 : V), PySem.W.mg_of X G n_NOUGHT_sums, (rel_ref x_NOUGHT_sums_0), fun _ _ => (.tup (.inr ⟨_, _, _, l_NOUGHT_sums_0, rfl, rfl, sz_ok (by simp), (.cons (rel_int 0 t_NOUGHT_sums_1) (.cons (rel_int 1 t_NOUGHT_sums_2) .nil))⟩) (.cons (.int _) (.cons (.int _) .nil)))⟩
  have C_ONE_outer : ConIn K mg "ONE_outer" c_ONCE := ⟨_, (.ref x_ONE_outer_0 : V), PySem.W.mg_of X G n_ONE_outer, (rel_ref x_ONE_outer_0), fun _ _ => (.tup (.inr ⟨_, _, _, l_ONE_outer_0, rfl, rfl, sz_ok (by simp), (.cons (rel_int 1 t_ONE_outer_1) (.cons (rel_int 1 t_ONE_outer_2) .nil))⟩) (.cons (.int _) (.cons (.int _) .nil)))⟩
  have C_ONE_polys : ConIn K mg "ONE_polys" c_ONE := ⟨_, (.ref x_ONE_polys_0 : V), PySem.W.mg_of X G n_ONE_polys, (rel_ref x_ONE_polys_0), fun _ _ => (.tup (.inr ⟨_, _, _, l_ONE_polys_0, rfl, rfl, sz_ok (by simp), (.cons (rel_ref x_ONE_polys_1) (.cons (rel_int 1 t_ONE_polys_3) .nil))⟩) (.cons (.tup (.inr ⟨_, _, _, l_ONE_polys_1, rfl, rfl, sz_ok (by simp), (.cons (rel_int 1 t_ONE_polys_2) .nil)⟩) (.cons (.int _) .nil)) (.cons (.int _) .nil)))⟩
  have C_ONE_sums : ConIn K mg "ONE_sums" c_ONCE := ⟨_, (.ref x_ONE_sums_0 : V), PySem.W.mg_of X G n_ONE_sums, (rel_ref x_ONE_sums_0), fun _ _ => (.tup (.inr ⟨_, _, _, l_ONE_sums_0, rfl, rfl, sz_ok (by simp), (.cons (rel_int 1 t_ONE_sums_1) (.cons (rel_int 1 t_ONE_sums_2) .nil))⟩) (.cons (.int _) (.cons (.int _) .nil)))⟩
  have D_common_part : DefIn K mg "common_part" s_common_part [("one" : Str), ("other" : Str)] := defIn_mk X G a_common_part l_common_part c_common_part q_common_part fun _ _ _ _ _ _ us hl => match us, hl with | [_, _], _ => rfl
  have D_fraction : DefIn K mg "fraction" s_fraction [("top" : Str), ("bottom" : Str)] := defIn_mk X G a_fraction l_fraction c_fraction q_fraction fun _ _ _ _ _ _ us hl => match us, hl with | [_, _], _ => rfl
  have D_taken : DefIn K mg "taken" s_taken [("one" : Str), ("other" : Str)] := defIn_mk X G a_taken l_taken c_taken q_taken fun _ _ _ _ _ _ us hl => match us, hl with | [_, _], _ => rfl
  have D_multiplied : DefIn K mg "multiplied" s_multiplied [("one" : Str), ("other" : Str)] := defIn_mk X G a_multiplied l_multiplied c_multiplied q_multiplied fun _ _ _ _ _ _ us hl => match us, hl with | [_, _], _ => rfl
  have D_divided : DefIn K mg "divided" s_divided [("one" : Str), ("other" : Str)] := defIn_mk X G a_divided l_divided c_divided q_divided fun _ _ _ _ _ _ us hl => match us, hl with | [_, _], _ => rfl
  have D_over : DefIn K mg "over" s_over [("tops" : Str), ("bottom" : Str)] := defIn_mk X G a_over l_over c_over q_over fun _ _ _ _ _ _ us hl => match us, hl with | [_, _], _ => rfl
  have D_poly : DefIn K mg "poly" s_poly [("some" : Str)] := defIn_mk X G a_poly l_poly c_poly q_poly fun _ _ _ _ _ _ us hl => match us, hl with | [_], _ => rfl
  have D_fraction_at : DefIn K mg "fraction_at" s_fraction_at [("p" : Str), ("k" : Str)] := defIn_mk X G a_fraction_at l_fraction_at c_fraction_at q_fraction_at fun _ _ _ _ _ _ us hl => match us, hl with | [_, _], _ => rfl
  have D_degree : DefIn K mg "degree" s_degree [("p" : Str)] := defIn_mk X G a_degree l_degree c_degree q_degree fun _ _ _ _ _ _ us hl => match us, hl with | [_], _ => rfl
  have D_times : DefIn K mg "times" s_times [("p" : Str), ("other" : Str)] := defIn_mk X G a_times l_times c_times q_times fun _ _ _ _ _ _ us hl => match us, hl with | [_, _], _ => rfl
  have D_power : DefIn K mg "power" s_power [("p" : Str), ("k" : Str)] := defIn_mk X G a_power l_power c_power q_power fun _ _ _ _ _ _ us hl => match us, hl with | [_, _], _ => rfl
  have D_less_times : DefIn K mg "less_times" s_less_times [("row" : Str), ("other" : Str), ("r" : Str)] := defIn_mk X G a_less_times l_less_times c_less_times q_less_times fun _ _ _ _ _ _ us hl => match us, hl with | [_, _, _], _ => rfl
  have D_with_weights : DefIn K mg "with_weights" s_with_weights [("rows" : Str)] := defIn_mk X G a_with_weights l_with_weights c_with_weights q_with_weights fun _ _ _ _ _ _ us hl => match us, hl with | [_], _ => rfl
  have D_pivot : DefIn K mg "pivot" s_pivot [("rows" : Str), ("done" : Str), ("at" : Str)] := defIn_mk X G a_pivot l_pivot c_pivot q_pivot fun _ _ _ _ _ _ us hl => match us, hl with | [_, _, _], _ => rfl
  have D_cleared : DefIn K mg "cleared" s_cleared [("rows" : Str), ("k" : Str), ("at" : Str)] := defIn_mk X G a_cleared l_cleared c_cleared q_cleared fun _ _ _ _ _ _ us hl => match us, hl with | [_, _, _], _ => rfl
  have D_solved : DefIn K mg "solved" s_solved [("rows" : Str)] := defIn_mk X G a_solved l_solved c_solved q_solved fun _ _ _ _ _ _ us hl => match us, hl with | [_], _ => rfl
  have D_least_multiple : DefIn K mg "least_multiple" s_least_multiple [("m" : Str), ("k" : Str)] := defIn_mk X G a_least_multiple l_least_multiple c_least_multiple q_least_multiple fun _ _ _ _ _ _ us hl => match us, hl with | [_, _], _ => rfl
  have D_shape : DefIn K mg "shape" s_shape [("f" : Str), ("g" : Str)] := defIn_mk X G a_shape l_shape c_shape q_shape fun _ _ _ _ _ _ us hl => match us, hl with | [_, _], _ => rfl
  have D_columns : DefIn K mg "columns" s_columns [("f" : Str), ("g" : Str)] := defIn_mk X G a_columns l_columns c_columns q_columns fun _ _ _ _ _ _ us hl => match us, hl with | [_, _], _ => rfl
  have D_common_outer : DefIn K mg "common_outer" s_common_outer [("f" : Str), ("g" : Str)] := defIn_mk X G a_common_outer l_common_outer c_common_outer q_common_outer fun _ _ _ _ _ _ us hl => match us, hl with | [_, _], _ => rfl
  have D_L_flow : DefIn K mg "_law_flow" s_L_flow [("_law_script" : Str)] := defIn_mk X G a_L_flow l_L_flow c_L_flow q_L_flow fun _ _ _ _ _ _ us hl => match us, hl with | [_], _ => rfl
  have D_L_pick : DefIn K mg "_law_pick" s_L_pick [("_law_flow_here" : Str), ("_law_many" : Str)] := defIn_mk X G a_L_pick l_L_pick c_L_pick q_L_pick fun _ _ _ _ _ _ us hl => match us, hl with | [_, _], _ => rfl
  have D_L_common : DefIn K mg "_law_common" s_L_common [("_law_a" : Str), ("_law_b" : Str)] := defIn_mk X G a_L_common l_L_common c_L_common q_L_common fun _ _ _ _ _ _ us hl => match us, hl with | [_, _], _ => rfl
  have D_L_fraction : DefIn K mg "_law_fraction" s_L_fraction [("_law_top" : Str), ("_law_bottom" : Str)] := defIn_mk X G a_L_fraction l_L_fraction c_L_fraction q_L_fraction fun _ _ _ _ _ _ us hl => match us, hl with | [_, _], _ => rfl
  have D_L_added : DefIn K mg "_law_added" s_L_added [("_law_one" : Str), ("_law_other" : Str)] := defIn_mk X G a_L_added l_L_added c_L_added q_L_added fun _ _ _ _ _ _ us hl => match us, hl with | [_, _], _ => rfl
  have D_L_product : DefIn K mg "_law_product" s_L_product [("_law_one" : Str), ("_law_other" : Str)] := defIn_mk X G a_L_product l_L_product c_L_product q_L_product fun _ _ _ _ _ _ us hl => match us, hl with | [_, _], _ => rfl
  have D_L_poly : DefIn K mg "_law_poly" s_L_poly [("_law_tops" : Str), ("_law_bottom" : Str)] := defIn_mk X G a_L_poly l_L_poly c_L_poly q_L_poly fun _ _ _ _ _ _ us hl => match us, hl with | [_, _], _ => rfl
  have D_L_sum : DefIn K mg "_law_sum" s_L_sum [("_law_p" : Str), ("_law_q" : Str)] := defIn_mk X G a_L_sum l_L_sum c_L_sum q_L_sum fun _ _ _ _ _ _ us hl => match us, hl with | [_, _], _ => rfl
  have D_L_times : DefIn K mg "_law_times" s_L_times [("_law_p" : Str), ("_law_q" : Str)] := defIn_mk X G a_L_times l_L_times c_L_times q_L_times fun _ _ _ _ _ _ us hl => match us, hl with | [_, _], _ => rfl
  have D_L_of : DefIn K mg "_law_of" s_L_of [("_law_p" : Str), ("_law_q" : Str)] := defIn_mk X G a_L_of l_L_of c_L_of q_L_of fun _ _ _ _ _ _ us hl => match us, hl with | [_, _], _ => rfl
  have D_L_straight : DefIn K mg "_law_straight" s_L_straight [("_law_a" : Str), ("_law_b" : Str)] := defIn_mk X G a_L_straight l_L_straight c_L_straight q_L_straight fun _ _ _ _ _ _ us hl => match us, hl with | [_, _], _ => rfl
  have D_L_number : DefIn K mg "_law_number" s_L_number [("_law_flow_here" : Str), ("_law_most" : Str)] := defIn_mk X G a_L_number l_L_number c_L_number q_L_number fun _ _ _ _ _ _ us hl => match us, hl with | [_, _], _ => rfl
  have D_L_any_fraction : DefIn K mg "_law_any_fraction" s_L_any_fraction [("_law_flow_here" : Str), ("_law_most" : Str)] := defIn_mk X G a_L_any_fraction l_L_any_fraction c_L_any_fraction q_L_any_fraction fun _ _ _ _ _ _ us hl => match us, hl with | [_, _], _ => rfl
  have D_L_any_poly : DefIn K mg "_law_any_poly" s_L_any_poly [("_law_flow_here" : Str), ("_law_many" : Str), ("_law_most" : Str)] := defIn_mk X G a_L_any_poly l_L_any_poly c_L_any_poly q_L_any_poly fun _ _ _ _ _ _ us hl => match us, hl with | [_, _, _], _ => rfl
  have D_L_any_straight : DefIn K mg "_law_any_straight" s_L_any_straight [("_law_flow_here" : Str), ("_law_most" : Str)] := defIn_mk X G a_L_any_straight l_L_any_straight c_L_any_straight q_L_any_straight fun _ _ _ _ _ _ us hl => match us, hl with | [_, _], _ => rfl
  have D_L_turning : DefIn K mg "_law_turning" s_L_turning [("_law_n" : Str), ("_law_a" : Str)] := defIn_mk X G a_L_turning l_L_turning c_L_turning q_L_turning fun _ _ _ _ _ _ us hl => match us, hl with | [_, _], _ => rfl
  have D_L_is_fraction : DefIn K mg "_law_is_fraction" s_L_is_fraction [("_law_r" : Str)] := defIn_mk X G a_L_is_fraction l_L_is_fraction c_L_is_fraction q_L_is_fraction fun _ _ _ _ _ _ us hl => match us, hl with | [_], _ => rfl
  have D_L_fits : DefIn K mg "_law_fits" s_L_fits [("_law_some" : Str)] := defIn_mk X G a_L_fits l_L_fits c_L_fits q_L_fits fun _ _ _ _ _ _ us hl => match us, hl with | [_], _ => rfl
  have D_L_power : DefIn K mg "_law_power" s_L_power [("_law_p" : Str), ("_law_k" : Str)] := defIn_mk X G a_L_power l_L_power c_L_power q_L_power fun _ _ _ _ _ _ us hl => match us, hl with | [_, _], _ => rfl
  have D_L_shape : DefIn K mg "_law_shape" s_L_shape [("_law_f" : Str), ("_law_g" : Str)] := defIn_mk X G a_L_shape l_L_shape c_L_shape q_L_shape fun _ _ _ _ _ _ us hl => match us, hl with | [_, _], _ => rfl
  have D_L_left : DefIn K mg "_law_left" s_L_left [("_law_p" : Str), ("_law_weights" : Str)] := defIn_mk X G a_L_left l_L_left c_L_left q_L_left fun _ _ _ _ _ _ us hl => match us, hl with | [_, _], _ => rfl
  have D_L_outer_shown : DefIn K mg "_law_outer_shown" s_L_outer_shown [("_law_f" : Str), ("_law_g" : Str), ("_law_u" : Str), ("_law_v" : Str)] := defIn_mk X G a_L_outer_shown l_L_outer_shown c_L_outer_shown q_L_outer_shown fun _ _ _ _ _ _ us hl => match us, hl with | [_, _, _, _], _ => rfl
  have D_L_barred : DefIn K mg "_law_barred" s_L_barred [("_law_f" : Str), ("_law_g" : Str), ("_law_weights" : Str)] := defIn_mk X G a_L_barred l_L_barred c_L_barred q_L_barred fun _ _ _ _ _ _ us hl => match us, hl with | [_, _, _], _ => rfl
  have D_L_degrees : DefIn K mg "_law_degrees" s_L_degrees [("_law_flow_here" : Str)] := defIn_mk X G a_L_degrees l_L_degrees c_L_degrees q_L_degrees fun _ _ _ _ _ _ us hl => match us, hl with | [_], _ => rfl
  have D_L_multiple : DefIn K mg "_law_multiple" s_L_multiple [("_law_flow_here" : Str), ("_law_m" : Str), ("_law_k" : Str)] := defIn_mk X G a_L_multiple l_L_multiple c_L_multiple q_L_multiple fun _ _ _ _ _ _ us hl => match us, hl with | [_, _, _], _ => rfl
  have D_L_bent : DefIn K mg "_law_bent" s_L_bent [("_law_flow_here" : Str), ("_law_m" : Str), ("_law_k" : Str)] := defIn_mk X G a_L_bent l_L_bent c_L_bent q_L_bent fun _ _ _ _ _ _ us hl => match us, hl with | [_, _, _], _ => rfl
  have D_L_outer_pair : DefIn K mg "_law_outer_pair" s_L_outer_pair [("_law_flow_here" : Str)] := defIn_mk X G a_L_outer_pair l_L_outer_pair c_L_outer_pair q_L_outer_pair fun _ _ _ _ _ _ us hl => match us, hl with | [_], _ => rfl
  have D_L_is_poly : DefIn K mg "_law_is_poly" s_L_is_poly [("_law_p" : Str)] := defIn_mk X G a_L_is_poly l_L_is_poly c_L_is_poly q_L_is_poly fun _ _ _ _ _ _ us hl => match us, hl with | [_], _ => rfl
  have D_L_right : DefIn K mg "_law_right" s_L_right [("_law_f" : Str), ("_law_g" : Str), ("_law_told" : Str)] := defIn_mk X G a_L_right l_L_right c_L_right q_L_right fun _ _ _ _ _ _ us hl => match us, hl with | [_, _, _], _ => rfl
  refine ⟨PySem.W.fnOf "law" "law" (defArgs s_law) (defBody s_law) (defScope s_law) .none kV_law dc_law pm_law an_law cd_law ct_law, fun s v => .of_eq rfl, fun base _ _ hNS => ?_⟩
  have hNT := And.intro hNS hT
  have k_common_part := k_common_part (P := l.prog) (w := w) (base := base) hNT z_abs D_common_part
  have k_fraction := k_fraction (P := l.prog) (w := w) (base := base) hNT k_common_part D_fraction
  have k_taken := k_taken (P := l.prog) (w := w) (base := base) hNT k_fraction D_taken
  have k_multiplied := k_multiplied (P := l.prog) (w := w) (base := base) hNT k_fraction D_multiplied
  have k_divided := k_divided (P := l.prog) (w := w) (base := base) hNT k_fraction D_divided
  have k_over := k_over (P := l.prog) (w := w) (base := base) hNT z_len z_tuple k_common_part D_over
  have k_poly := k_poly (P := l.prog) (w := w) (base := base) hNT k_over k_common_part D_poly
  have k_fraction_at := k_fraction_at (P := l.prog) (w := w) (base := base) hNT z_len k_fraction D_fraction_at
  have k_degree := k_degree (P := l.prog) (w := w) (base := base) hNT z_len D_degree
  have k_times := k_times (P := l.prog) (w := w) (base := base) hNT z_enumerate z_len k_over D_times
  have k_power := k_power (P := l.prog) (w := w) (base := base) hNT z_range k_times C_ONE_polys D_power
  have k_less_times := k_less_times (P := l.prog) (w := w) (base := base) hNT z_zip k_taken k_multiplied D_less_times
  have k_with_weights := k_with_weights (P := l.prog) (w := w) (base := base) hNT z_enumerate z_len z_list C_ONE_sums C_NOUGHT_sums D_with_weights
  have k_pivot := k_pivot (P := l.prog) (w := w) (base := base) hNT z_len z_range C_NOUGHT_sums D_pivot
  have k_cleared := k_cleared (P := l.prog) (w := w) (base := base) hNT z_enumerate k_less_times k_divided D_cleared
  have k_solved := k_solved (P := l.prog) (w := w) (base := base) hNT z_enumerate z_len z_range z_tuple k_cleared k_pivot k_with_weights C_NOUGHT_sums D_solved
  have k_least_multiple := k_least_multiple (P := l.prog) (w := w) (base := base) hNT D_least_multiple
  have k_shape := k_shape (P := l.prog) (w := w) (base := base) hNT k_degree k_least_multiple D_shape
  have k_columns := k_columns (P := l.prog) (w := w) (base := base) hNT z_range k_power k_shape D_columns
  have k_common_outer := k_common_outer (P := l.prog) (w := w) (base := base) hNT z_list z_range z_tuple k_poly k_multiplied k_solved k_fraction_at k_columns k_shape C_NOUGHT_outer C_ONE_outer D_common_outer
  have k_L_flow := k_L_flow (P := l.prog) (w := w) (base := base) hNT z_list D_L_flow
  have k_L_pick := k_L_pick (P := l.prog) (w := w) (base := base) hNT z_len D_L_pick
  have k_L_common := k_L_common (P := l.prog) (w := w) (base := base) hNT z_abs D_L_common
  have k_L_fraction := k_L_fraction (P := l.prog) (w := w) (base := base) hNT k_L_common D_L_fraction
  have k_L_added := k_L_added (P := l.prog) (w := w) (base := base) hNT k_L_fraction D_L_added
  have k_L_product := k_L_product (P := l.prog) (w := w) (base := base) hNT k_L_fraction D_L_product
  have k_L_poly := k_L_poly (P := l.prog) (w := w) (base := base) hNT z_len z_list z_tuple k_L_common D_L_poly
  have k_L_sum := k_L_sum (P := l.prog) (w := w) (base := base) hNT z_enumerate z_len z_max k_L_poly D_L_sum
  have k_L_times := k_L_times (P := l.prog) (w := w) (base := base) hNT z_enumerate z_len k_L_poly D_L_times
  have k_L_of := k_L_of (P := l.prog) (w := w) (base := base) hNT z_reversed k_L_sum k_L_poly k_L_times D_L_of
  have k_L_straight := k_L_straight (P := l.prog) (w := w) (base := base) hNT k_L_poly D_L_straight
  have k_L_number := k_L_number (P := l.prog) (w := w) (base := base) hNT k_L_pick D_L_number
  have k_L_any_fraction := k_L_any_fraction (P := l.prog) (w := w) (base := base) hNT k_L_fraction k_L_pick k_L_number D_L_any_fraction
  have k_L_any_poly := k_L_any_poly (P := l.prog) (w := w) (base := base) hNT z_int z_range k_L_poly k_L_pick k_L_number D_L_any_poly
  have k_L_any_straight := k_L_any_straight (P := l.prog) (w := w) (base := base) hNT k_L_straight k_L_any_fraction k_L_fraction k_L_pick D_L_any_straight
  have k_L_turning := k_L_turning (P := l.prog) (w := w) (base := base) hNT z_range k_L_sum k_L_times k_L_poly D_L_turning
  have k_L_is_fraction := k_L_is_fraction (P := l.prog) (w := w) (base := base) hNT z_all z_bool z_int z_isinstance z_len z_tuple k_L_common D_L_is_fraction
  have k_L_fits := k_L_fits (P := l.prog) (w := w) (base := base) hNT z_abs z_max D_L_fits
  have k_L_power := k_L_power (P := l.prog) (w := w) (base := base) hNT z_range k_L_times D_L_power
  have k_L_shape := k_L_shape (P := l.prog) (w := w) (base := base) hNT z_len k_L_common D_L_shape
  have k_L_left := k_L_left (P := l.prog) (w := w) (base := base) hNT z_zip k_L_added k_L_product D_L_left
  have k_L_outer_shown := k_L_outer_shown (P := l.prog) (w := w) (base := base) hNT z_len k_L_of k_L_shape D_L_outer_shown
  have k_L_barred := k_L_barred (P := l.prog) (w := w) (base := base) hNT z_all z_len z_range k_L_left k_L_power k_L_shape D_L_barred
  have k_L_degrees := k_L_degrees (P := l.prog) (w := w) (base := base) hNT k_L_pick D_L_degrees
  have k_L_multiple := fun n => k_L_multiple (P := l.prog) (w := w) (base := base) hNT k_L_poly k_L_of k_L_any_poly D_L_multiple n
  have k_L_bent := fun n => k_L_bent (P := l.prog) (w := w) (base := base) hNT z_range k_L_of k_L_poly k_L_times k_L_number k_L_common D_L_bent n
  have k_L_outer_pair := k_L_outer_pair (P := l.prog) (w := w) (base := base) hNT z_len k_L_pick k_L_sum k_L_poly k_L_of k_L_any_straight k_L_turning k_L_any_fraction (k_L_bent 10) (k_L_multiple 10) k_L_any_poly k_L_degrees D_L_outer_pair
  have k_L_is_poly := k_L_is_poly (P := l.prog) (w := w) (base := base) hNT z_all z_bool z_int z_isinstance z_len z_tuple k_L_poly D_L_is_poly
  have k_L_right := k_L_right (P := l.prog) (w := w) (base := base) hNT z_all z_int z_isinstance z_len z_tuple k_L_barred k_L_is_fraction k_L_outer_shown k_L_is_poly D_L_right
  exact ok_law hNT k_common_outer k_L_fits k_L_shape k_L_right k_L_outer_pair k_L_flow (fun_mk (st := s_law) l_law c_law q_law) hsem
end K58

open PySem PySem.W PyProof.Rows
set_option maxHeartbeats 0 in
theorem PySem.Challenge.cw_nestwright_k58_outer_ones_or_weights_holds : PySem.Challenge.rw_nestwright_k58_outer_ones_or_weights.Holds := by
  w_on; o_law; k_head; (case hw => w_witness2)
  k_fill
  refine NW.walk2 (l := PySem.Challenge.rw_nestwright_k58_outer_ones_or_weights) (n := 63) (k := 49) (x := "_law_script") (sp := NW.spLaw) rfl (by decide) rfl ⟨rfl, by decide, by decide⟩ (by decide +kernel) (fun w h Y => PySem.W.kIn_of Y) ?F (fun _ _ a ns hl _ hS => ⟨a, ns, rfl, hS, hl, fun _ => rfl⟩)
  case F =>
    intro w mg fa h K' M KX G hmg
    refine' K58.all_mk M KX G rfl hmg K58.hsem ?a_common_part ?l_common_part ?c_common_part ?a_fraction ?l_fraction ?c_fraction ?a_taken ?l_taken ?c_taken ?a_multiplied ?l_multiplied ?c_multiplied ?a_divided ?l_divided ?c_divided ?a_over ?l_over ?c_over ?a_poly ?l_poly ?c_poly ?a_fraction_at ?l_fraction_at ?c_fraction_at ?a_degree ?l_degree ?c_degree ?a_times ?l_times ?c_times ?a_power ?l_power ?c_power ?a_less_times ?l_less_times ?c_less_times ?a_with_weights ?l_with_weights ?c_with_weights ?a_pivot ?l_pivot ?c_pivot ?a_cleared ?l_cleared ?c_cleared ?a_solved ?l_solved ?c_solved ?a_least_multiple ?l_least_multiple ?c_least_multiple ?a_shape ?l_shape ?c_shape ?a_columns ?l_columns ?c_columns ?a_common_outer ?l_common_outer ?c_common_outer ?a_L_flow ?l_L_flow ?c_L_flow ?a_L_pick ?l_L_pick ?c_L_pick ?a_L_common ?l_L_common ?c_L_common ?a_L_fraction ?l_L_fraction ?c_L_fraction ?a_L_added ?l_L_added ?c_L_added ?a_L_product ?l_L_product ?c_L_product ?a_L_poly ?l_L_poly ?c_L_poly ?a_L_sum ?l_L_sum ?c_L_sum ?a_L_times ?l_L_times ?c_L_times ?a_L_of ?l_L_of ?c_L_of ?a_L_straight ?l_L_straight ?c_L_straight ?a_L_number ?l_L_number ?c_L_number ?a_L_any_fraction ?l_L_any_fraction ?c_L_any_fraction ?a_L_any_poly ?l_L_any_poly ?c_L_any_poly ?a_L_any_straight ?l_L_any_straight ?c_L_any_straight ?a_L_turning ?l_L_turning ?c_L_turning ?a_L_is_fraction ?l_L_is_fraction ?c_L_is_fraction ?a_L_fits ?l_L_fits ?c_L_fits ?a_L_power ?l_L_power ?c_L_power ?a_L_shape ?l_L_shape ?c_L_shape ?a_L_left ?l_L_left ?c_L_left ?a_L_outer_shown ?l_L_outer_shown ?c_L_outer_shown ?a_L_barred ?l_L_barred ?c_L_barred ?a_L_degrees ?l_L_degrees ?c_L_degrees ?a_L_multiple ?l_L_multiple ?c_L_multiple ?a_L_bent ?l_L_bent ?c_L_bent ?a_L_outer_pair ?l_L_outer_pair ?c_L_outer_pair ?a_L_is_poly ?l_L_is_poly ?c_L_is_poly ?a_L_right ?l_L_right ?c_L_right ?a_law ?l_law ?c_law ?b_abs ?b_all ?b_bool ?b_enumerate ?b_int ?b_isinstance ?b_len ?b_list ?b_max ?b_range ?b_reversed ?b_tuple ?b_zip ?l_NOUGHT_outer_0 ?n_NOUGHT_outer ?l_NOUGHT_sums_0 ?n_NOUGHT_sums ?l_ONE_outer_0 ?n_ONE_outer ?l_ONE_polys_1 ?l_ONE_polys_0 ?n_ONE_polys ?l_ONE_sums_0 ?n_ONE_sums
    (case a_common_part => k_is)
    (case l_common_part => k_is)
    (case c_common_part => k_is)
    (case a_fraction => k_is)
    (case l_fraction => k_is)
    (case c_fraction => k_is)
    (case a_taken => k_is)
    (case l_taken => k_is)
    (case c_taken => k_is)
    (case a_multiplied => k_is)
    (case l_multiplied => k_is)
    (case c_multiplied => k_is)
    (case a_divided => k_is)
    (case l_divided => k_is)
    (case c_divided => k_is)
    (case a_over => k_is)
    (case l_over => k_is)
    (case c_over => k_is)
    (case a_poly => k_is)
    (case l_poly => k_is)
    (case c_poly => k_is)
    (case a_fraction_at => k_is)
    (case l_fraction_at => k_is)
    (case c_fraction_at => k_is)
    (case a_degree => k_is)
    (case l_degree => k_is)
    (case c_degree => k_is)
    (case a_times => k_is)
    (case l_times => k_is)
    (case c_times => k_is)
    (case a_power => k_is)
    (case l_power => k_is)
    (case c_power => k_is)
    (case a_less_times => k_is)
    (case l_less_times => k_is)
    (case c_less_times => k_is)
    (case a_with_weights => k_is)
    (case l_with_weights => k_is)
    (case c_with_weights => k_is)
    (case a_pivot => k_is)
    (case l_pivot => k_is)
    (case c_pivot => k_is)
    (case a_cleared => k_is)
    (case l_cleared => k_is)
    (case c_cleared => k_is)
    (case a_solved => k_is)
    (case l_solved => k_is)
    (case c_solved => k_is)
    (case a_least_multiple => k_is)
    (case l_least_multiple => k_is)
    (case c_least_multiple => k_is)
    (case a_shape => k_is)
    (case l_shape => k_is)
    (case c_shape => k_is)
    (case a_columns => k_is)
    (case l_columns => k_is)
    (case c_columns => k_is)
    (case a_common_outer => k_is)
    (case l_common_outer => k_is)
    (case c_common_outer => k_is)
    (case a_L_flow => k_is)
    (case l_L_flow => k_is)
    (case c_L_flow => k_is)
    (case a_L_pick => k_is)
    (case l_L_pick => k_is)
    (case c_L_pick => k_is)
    (case a_L_common => k_is)
    (case l_L_common => k_is)
    (case c_L_common => k_is)
    (case a_L_fraction => k_is)
    (case l_L_fraction => k_is)
    (case c_L_fraction => k_is)
    (case a_L_added => k_is)
    (case l_L_added => k_is)
    (case c_L_added => k_is)
    (case a_L_product => k_is)
    (case l_L_product => k_is)
    (case c_L_product => k_is)
    (case a_L_poly => k_is)
    (case l_L_poly => k_is)
    (case c_L_poly => k_is)
    (case a_L_sum => k_is)
    (case l_L_sum => k_is)
    (case c_L_sum => k_is)
    (case a_L_times => k_is)
    (case l_L_times => k_is)
    (case c_L_times => k_is)
    (case a_L_of => k_is)
    (case l_L_of => k_is)
    (case c_L_of => k_is)
    (case a_L_straight => k_is)
    (case l_L_straight => k_is)
    (case c_L_straight => k_is)
    (case a_L_number => k_is)
    (case l_L_number => k_is)
    (case c_L_number => k_is)
    (case a_L_any_fraction => k_is)
    (case l_L_any_fraction => k_is)
    (case c_L_any_fraction => k_is)
    (case a_L_any_poly => k_is)
    (case l_L_any_poly => k_is)
    (case c_L_any_poly => k_is)
    (case a_L_any_straight => k_is)
    (case l_L_any_straight => k_is)
    (case c_L_any_straight => k_is)
    (case a_L_turning => k_is)
    (case l_L_turning => k_is)
    (case c_L_turning => k_is)
    (case a_L_is_fraction => k_is)
    (case l_L_is_fraction => k_is)
    (case c_L_is_fraction => k_is)
    (case a_L_fits => k_is)
    (case l_L_fits => k_is)
    (case c_L_fits => k_is)
    (case a_L_power => k_is)
    (case l_L_power => k_is)
    (case c_L_power => k_is)
    (case a_L_shape => k_is)
    (case l_L_shape => k_is)
    (case c_L_shape => k_is)
    (case a_L_left => k_is)
    (case l_L_left => k_is)
    (case c_L_left => k_is)
    (case a_L_outer_shown => k_is)
    (case l_L_outer_shown => k_is)
    (case c_L_outer_shown => k_is)
    (case a_L_barred => k_is)
    (case l_L_barred => k_is)
    (case c_L_barred => k_is)
    (case a_L_degrees => k_is)
    (case l_L_degrees => k_is)
    (case c_L_degrees => k_is)
    (case a_L_multiple => k_is)
    (case l_L_multiple => k_is)
    (case c_L_multiple => k_is)
    (case a_L_bent => k_is)
    (case l_L_bent => k_is)
    (case c_L_bent => k_is)
    (case a_L_outer_pair => k_is)
    (case l_L_outer_pair => k_is)
    (case c_L_outer_pair => k_is)
    (case a_L_is_poly => k_is)
    (case l_L_is_poly => k_is)
    (case c_L_is_poly => k_is)
    (case a_L_right => k_is)
    (case l_L_right => k_is)
    (case c_L_right => k_is)
    (case a_law => k_is)
    (case l_law => k_is)
    (case c_law => k_is)
    (case b_abs => k_is)
    (case b_all => k_is)
    (case b_bool => k_is)
    (case b_enumerate => k_is)
    (case b_int => k_is)
    (case b_isinstance => k_is)
    (case b_len => k_is)
    (case b_list => k_is)
    (case b_max => k_is)
    (case b_range => k_is)
    (case b_reversed => k_is)
    (case b_tuple => k_is)
    (case b_zip => k_is)
    (case n_NOUGHT_outer => k_is)
    (case l_NOUGHT_outer_0 => k_is)
    (case n_NOUGHT_sums => k_is)
    (case l_NOUGHT_sums_0 => k_is)
    (case n_ONE_outer => k_is)
    (case l_ONE_outer_0 => k_is)
    (case n_ONE_polys => k_is)
    (case l_ONE_polys_0 => k_is)
    (case l_ONE_polys_1 => k_is)
    (case n_ONE_sums => k_is)
    (case l_ONE_sums_0 => k_is)

