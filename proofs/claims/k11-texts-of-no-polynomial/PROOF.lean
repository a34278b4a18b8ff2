import PyProof.Rows.All
import HandS.ForMost
import HandS.ForExc
import HandS.Wide
import HandS.Rev
import HandS.RevRange
import HandS.Zip
import HandS.Conv
import HandS.IsInst
import HandS.TupAny
import HandS.SortInts
import HandS.TupMul
import KE.GoesMore
import HandS.Iter
import HandS.TryOnly
import HandS.Ends
import PyProof.WalksMore
import KE.SortData
import HandS.Deep
import KE.GoesEnum
import KE.SortKeyHeap
import HandS.SortKw
import HandS.Keys
import KE.DataFind
import HandS.More
import KE.KDictZip
import HandS.RevTup
import HandS.Text
import HandS.FStr
import HandS.StrMore
import HandS.RaiseMore
import HandS.Flt
import HandS.ListItems
import HandS.DictComp
import HandS.Finally
import HandS.ExcInit
import HandS.ExcIs
import HandS.ExcField
import KE.KExcIs
import HandS.Flow
import HandS.CallLocal
import HandS.Codes
import PySem.Challenge.RW_nestwright_k11_texts_of_no_polynomial
set_option Elab.async false
set_option linter.all false
set_option maxRecDepth 100000
set_option maxHeartbeats 4000000
namespace NW
open PySem PySem.Spec PyProof.Rows L2
inductive U where
  | d (x : PyData) | ref (i : Nat) | flow | scr (ns : List Int) | dct (es : List (Key × PyData))
structure Fl where
  cells : List Int
  place : Int
  held : Int
  seed : Int
  many : Int
inductive Ob where
  | lst (xs : List PyData) | dct (es : List (Key × PyData)) | dead
structure Sto where
  fl : Option Fl
  obs : List Ob
structure Exc where
  cls : Str
  fs : List (Str × PyData)
inductive Res (α : Type) where
  | ok (a : α) (s : Sto) | ex (e : Exc) (s : Sto) | no
def Res.bind {α β : Type} (r : Res α) (k : α → Sto → Res β) : Res β := match r with
  | .ok a s => k a s
  | .ex e s => .ex e s
  | .no => .no
abbrev Loc := List (Option U)
abbrev ME := Loc → Sto → Res U
abbrev MB := Loc → Sto → Res Bool
abbrev ML := Loc → Sto → Res (List PyData)
abbrev MA := Loc → Sto → Res (List U)
inductive Out where
  | nx (l : Loc) (s : Sto) | rt (u : U) (s : Sto) | bk (l : Loc) (s : Sto) | ct (l : Loc) (s : Sto) | ex (e : Exc) (l : Loc) (s : Sto) | no
abbrev MS := Loc → Sto → Out
structure Gx where
  K : PySem.W.Frag
  fa : Addr
  fb : Addr
  O0 : Addr → Prop
  cls : Str → Option Addr
  W : Value → Option Addr → L2.St → Hp → Prop
def Own (G : Gx) (β : List Addr) (st : Sto) (p : Addr) : Prop := (st.fl.isSome = true ∧ p = G.fa) ∨ ∃ (i : Nat) (o : Ob), st.obs[i]? = some o ∧ o ≠ Ob.dead ∧ β[i]? = some p
def Ban (G : Gx) (β : List Addr) (st : Sto) (p : Addr) : Prop := G.O0 p ∨ Own G β st p
def SqLB (K : PySem.W.Frag) (B : Addr → Prop) (H : Hp) (a : Addr) (xs : List V) : Prop := H a = some (.lst xs) ∧ ¬ B a
def SqTB (K : PySem.W.Frag) (B : Addr → Prop) (H : Hp) (a : Addr) (xs : List V) : Prop :=
  (Rd H a (.tup xs) ∧ ¬ B a) ∨ ∃ (o : Obj) (its : Array Value) (n : Nat), K.lookup a = some o ∧ o.cls = .type "tuple" ∧ o.data = .seq its n ∧ its.size ≤ sizeLine ∧ Vals xs its.toList
def SqSB (K : PySem.W.Frag) (B : Addr → Prop) (H : Hp) (a : Addr) (xs : List V) : Prop :=
  (Rd H a (.lst xs) ∧ ¬ B a) ∨ ∃ (o : Obj) (its : Array Value) (n : Nat), K.lookup a = some o ∧ o.cls = .type "list" ∧ o.dict = none ∧ o.data = .seq its n ∧ its.size ≤ sizeLine ∧ Vals xs its.toList
theorem SqSB.q {K : PySem.W.Frag} {B : Addr → Prop} {H : Hp} {a : Addr} {xs : List V} (h : SqSB K B H a xs) : SqL K H a xs := h.imp (fun x => x.1) id
theorem SqLB.q {K : PySem.W.Frag} {B : Addr → Prop} {H : Hp} {a : Addr} {xs : List V} (h : SqLB K B H a xs) : SqL K H a xs := .inl (.inl h.1)
theorem SqTB.q {K : PySem.W.Frag} {B : Addr → Prop} {H : Hp} {a : Addr} {xs : List V} (h : SqTB K B H a xs) : SqT K H a xs := h.imp (fun x => x.1) id
mutual
inductive RT (K : PySem.W.Frag) (B : Addr → Prop) (H : Hp) : V → PyData → Prop
  | non : RT K B H .non .none
  | bl (b : Bool) : RT K B H (.bl b) (.bool b)
  | int (i : Int) : RT K B H (.int i) (.int i)
  | str (x : Str) : RT K B H (.str x) (.str x)
  | lst {a : Addr} {xs : List V} {ds : List PyData} : SqLB K B H a xs → RTs K B H xs ds → RT K B H (.ref a) (.list ds)
  | tup {a : Addr} {xs : List V} {ds : List PyData} : SqTB K B H a xs → RTs K B H xs ds → RT K B H (.ref a) (.tuple ds)
inductive RTs (K : PySem.W.Frag) (B : Addr → Prop) (H : Hp) : List V → List PyData → Prop
  | nil : RTs K B H [] []
  | cons {v : V} {vs : List V} {d : PyData} {ds : List PyData} : RT K B H v d → RTs K B H vs ds → RTs K B H (v :: vs) (d :: ds)
end
def Keep (B : Addr → Prop) (H : Hp) (B' : Addr → Prop) (H' : Hp) : Prop := ∀ b o, H b = some o → ¬ B b → H' b = some o ∧ ¬ B' b
theorem Keep.rd {B B' : Addr → Prop} {H H' : Hp} (k : Keep B H B' H') {a : Addr} {u : HO} (h : Rd H a u ∧ ¬ B a) : Rd H' a u ∧ ¬ B' a := by
  obtain ⟨h | ⟨o, h⟩, n⟩ := h
  · have z := k a _ h n; exact ⟨.inl z.1, z.2⟩
  · have z := k a _ h n; exact ⟨.inr ⟨o, z.1⟩, z.2⟩
section
variable {K : PySem.W.Frag} {B B' : Addr → Prop} {H H' : Hp}
mutual
theorem RT.mono (k : Keep B H B' H') : ∀ (d : PyData) (v : V), RT K B H v d → RT K B' H' v d
  | .none, _, h => by cases h; exact .non
  | .bool b, _, h => by cases h; exact .bl b
  | .int i, _, h => by cases h; exact .int i
  | .str x, _, h => by cases h; exact .str x
  | .list ds, _, h => by
    cases h with
    | lst hs ha => exact .lst (k _ _ hs.1 hs.2) (RTs.mono k ds _ ha)
  | .tuple ds, _, h => by
    cases h with
    | tup hs ha => exact .tup (hs.imp (fun z => k.rd z) id) (RTs.mono k ds _ ha)
  | .dict _, _, h => by cases h
theorem RTs.mono (k : Keep B H B' H') : ∀ (ds : List PyData) (vs : List V), RTs K B H vs ds → RTs K B' H' vs ds
  | [], _, h => by cases h; exact .nil
  | d :: ds, _, h => by
    cases h with
    | cons h1 h2 => exact .cons (RT.mono k d _ h1) (RTs.mono k ds _ h2)
end
mutual
theorem RT.dp : ∀ (d : PyData) (v : V), RT K B H v d → Dp K H v d
  | .none, _, h => by cases h; exact .non
  | .bool b, _, h => by cases h; exact .bl b
  | .int i, _, h => by cases h; exact .int i
  | .str x, _, h => by cases h; exact .str x
  | .list ds, _, h => by
    cases h with
    | lst hs ha => exact .lst hs.q (RTs.dp ds _ ha)
  | .tuple ds, _, h => by
    cases h with
    | tup hs ha => exact .tup hs.q (RTs.dp ds _ ha)
  | .dict _, _, h => by cases h
theorem RTs.dp : ∀ (ds : List PyData) (vs : List V), RTs K B H vs ds → DpAll K H vs ds
  | [], _, h => by cases h; exact .nil
  | d :: ds, _, h => by
    cases h with
    | cons h1 h2 => exact .cons (RT.dp d _ h1) (RTs.dp ds _ h2)
end
theorem RTs.len : ∀ {ds : List PyData} {vs : List V}, RTs K B H vs ds → vs.length = ds.length
  | [], _, h => by cases h; rfl
  | d :: ds, _, h => by
    cases h with
    | cons h1 h2 => rw [List.length_cons, List.length_cons, RTs.len h2]
theorem RTs.get : ∀ {ds : List PyData} {vs : List V} {i : Nat} {d : PyData}, RTs K B H vs ds → ds[i]? = some d → ∃ v, vs[i]? = some v ∧ RT K B H v d
  | [], _, _, _, h, e => by simp at e
  | d :: ds, _, 0, _, h, e => by
    cases h with
    | cons h1 h2 => simp at e; subst e; exact ⟨_, rfl, h1⟩
  | d :: ds, _, i + 1, _, h, e => by
    cases h with
    | cons h1 h2 =>
      obtain ⟨v, a, b⟩ := RTs.get (i := i) h2 (by simpa using e)
      exact ⟨v, by simpa using a, b⟩
theorem RTs.append : ∀ {ds es : List PyData} {vs ws : List V}, RTs K B H vs ds → RTs K B H ws es → RTs K B H (vs ++ ws) (ds ++ es)
  | [], _, _, _, h, q => by cases h; exact q
  | d :: ds, _, _, _, h, q => by
    cases h with
    | cons h1 h2 => exact .cons h1 (RTs.append h2 q)
theorem RTs.take : ∀ {ds : List PyData} {vs : List V} (n : Nat), RTs K B H vs ds → RTs K B H (vs.take n) (ds.take n)
  | [], _, n, h => by cases h; simp; exact .nil
  | d :: ds, _, 0, h => by simp; exact .nil
  | d :: ds, _, n + 1, h => by
    cases h with
    | cons h1 h2 => exact .cons h1 (RTs.take n h2)
theorem RTs.drop : ∀ {ds : List PyData} {vs : List V} (n : Nat), RTs K B H vs ds → RTs K B H (vs.drop n) (ds.drop n)
  | [], _, n, h => by cases h; simp; exact .nil
  | d :: ds, _, 0, h => h
  | d :: ds, _, n + 1, h => by
    cases h with
    | cons h1 h2 => exact RTs.drop n h2
theorem RTs.set : ∀ {ds : List PyData} {vs : List V} {v : V} {d : PyData} (n : Nat), RTs K B H vs ds → RT K B H v d → RTs K B H (vs.set n v) (ds.set n d)
  | [], _, _, _, n, h, q => by cases h; exact .nil
  | d :: ds, _, _, _, 0, h, q => by
    cases h with
    | cons h1 h2 => exact .cons q h2
  | d :: ds, _, _, _, n + 1, h, q => by
    cases h with
    | cons h1 h2 => exact .cons h1 (RTs.set n h2 q)
theorem RTs.rev : ∀ {ds : List PyData} {vs : List V}, RTs K B H vs ds → RTs K B H vs.reverse ds.reverse
  | [], _, h => by cases h; exact .nil
  | d :: ds, _, h => by
    cases h with
    | cons h1 h2 => rw [List.reverse_cons, List.reverse_cons]; exact (RTs.rev h2).append (.cons h1 .nil)
theorem RTs.ints : ∀ {ns : List Int} {vs : List V}, RTs K B H vs (ns.map PyData.int) → vs = ns.map V.int
  | [], _, h => by cases h; rfl
  | n :: ns, _, h => by
    cases h with
    | cons h1 h2 => cases h1; rw [RTs.ints h2]; rfl
theorem RTs.bools : ∀ {ns : List Bool} {vs : List V}, RTs K B H vs (ns.map PyData.bool) → vs = ns.map V.bl
  | [], _, h => by cases h; rfl
  | n :: ns, _, h => by
    cases h with
    | cons h1 h2 => cases h1; rw [RTs.bools h2]; rfl
theorem RTs.ofInts : ∀ (ns : List Int), RTs K B H (ns.map V.int) (ns.map PyData.int)
  | [] => .nil
  | n :: ns => .cons (.int n) (RTs.ofInts ns)
mutual
theorem RT.weak (k : ∀ a, B' a → B a) : ∀ (d : PyData) (v : V), RT K B H v d → RT K B' H v d
  | .none, _, h => by cases h; exact .non
  | .bool b, _, h => by cases h; exact .bl b
  | .int i, _, h => by cases h; exact .int i
  | .str x, _, h => by cases h; exact .str x
  | .list ds, _, h => by
    cases h with
    | lst hs ha => exact .lst ⟨hs.1, fun w => hs.2 (k _ w)⟩ (RTs.weak k ds _ ha)
  | .tuple ds, _, h => by
    cases h with
    | tup hs ha => exact .tup (hs.imp (fun z => ⟨z.1, fun w => z.2 (k _ w)⟩) id) (RTs.weak k ds _ ha)
  | .dict _, _, h => by cases h
theorem RTs.weak (k : ∀ a, B' a → B a) : ∀ (ds : List PyData) (vs : List V), RTs K B H vs ds → RTs K B' H vs ds
  | [], _, h => by cases h; exact .nil
  | d :: ds, _, h => by
    cases h with
    | cons h1 h2 => exact .cons (RT.weak k d _ h1) (RTs.weak k ds _ h2)
end
end
def RU (G : Gx) (β : List Addr) (B : Addr → Prop) (H : Hp) (v : V) : U → Prop
  | .d x => RT G.K B H v x
  | .ref i => ∃ p, β[i]? = some p ∧ v = .ref p
  | .flow => v = .ref G.fa
  | .scr ns => ∃ a, v = .ref a ∧ SqSB G.K B H a (ns.map V.int)
  | .dct es => ∃ (a : Addr) (o : Obj) (kvs : List (Key × V)), v = .ref a ∧ (H a = some (.frz o (.dK kvs)) ∧ ¬ B a) ∧ kvs.map (·.1) = es.map (fun e => e.1) ∧ RTs G.K B H (kvs.map (·.2)) (es.map (·.2))
def flV (fb : Addr) (f : Fl) : List V := [.ref fb, .int f.place, .int f.held, .int f.seed, .int f.many]
structure FlR (G : Gx) (B : Addr → Prop) (H : Hp) (f : Fl) : Prop where
  here : H G.fa = some (.lst (flV G.fb f))
  cl : SqLB G.K B H G.fb (f.cells.map V.int)
def ObR (K : PySem.W.Frag) (B : Addr → Prop) (H : Hp) : Ob → HO → Prop
  | .lst xs, h => ∃ vs, h = .lst vs ∧ RTs K B H vs xs
  | .dct es, h => ∃ kvs : List (Key × V), h = .dK kvs ∧ kvs.map (·.1) = es.map (fun e => e.1) ∧ RTs K B H (kvs.map (·.2)) (es.map (·.2))
  | .dead, _ => False
theorem ObR.imp {K : PySem.W.Frag} {B B' : Addr → Prop} {H H' : Hp} (k : ∀ (ds : List PyData) (vs : List V), RTs K B H vs ds → RTs K B' H' vs ds) {o : Ob} {h : HO} (r : ObR K B H o h) : ObR K B' H' o h := by
  cases o with
  | lst xs => obtain ⟨vs, e, q⟩ := r; exact ⟨vs, e, k _ _ q⟩
  | dct es => obtain ⟨kvs, e, e2, q⟩ := r; exact ⟨kvs, e, e2, k _ _ q⟩
  | dead => exact r
theorem ObR.noTup {K : PySem.W.Frag} {B : Addr → Prop} {H : Hp} {o : Ob} {h : HO} (r : ObR K B H o h) (vs : List V) : h ≠ .tup vs := by
  cases o with
  | lst xs => obtain ⟨ws, e, q⟩ := r; rw [e]; intro z; cases z
  | dct es => obtain ⟨kvs, e, e2, q⟩ := r; rw [e]; intro z; cases z
  | dead => exact r.elim
theorem ObR.noFrz {K : PySem.W.Frag} {B : Addr → Prop} {H : Hp} {o : Ob} {h : HO} (r : ObR K B H o h) (x y) : h ≠ .frz x y := by
  cases o with
  | lst xs => obtain ⟨ws, e, q⟩ := r; rw [e]; intro z; cases z
  | dct es => obtain ⟨kvs, e, e2, q⟩ := r; rw [e]; intro z; cases z
  | dead => exact r.elim
structure Rl (G : Gx) (β : List Addr) (H : Hp) (st : Sto) : Prop where
  len : β.length = st.obs.length
  nodup : β.Nodup
  trk : ∀ p ∈ β, H p ≠ none
  oo : ∀ (i : Nat) (o : Ob), st.obs[i]? = some o → o ≠ Ob.dead → ∃ p h, β[i]? = some p ∧ H p = some h ∧ ObR G.K (Ban G β st) H o h
  flo : ∀ f, st.fl = some f → FlR G (Ban G β st) H f ∧ G.fa ∉ β
  o0 : ∀ p, G.O0 p → H p ≠ none ∧ ¬ Own G β st p ∧ ∀ vs, ¬ Rd H p (.tup vs)
theorem Rl.ob {G : Gx} {β : List Addr} {H : Hp} {st : Sto} (rl : Rl G β H st) (i : Nat) (xs : List PyData) (e : st.obs[i]? = some (Ob.lst xs)) : ∃ p vs, β[i]? = some p ∧ H p = some (.lst vs) ∧ RTs G.K (Ban G β st) H vs xs := by
  obtain ⟨p, h, a, b, vs, rfl, c⟩ := rl.oo i _ e (by intro z; cases z)
  exact ⟨p, vs, a, b, c⟩
theorem Rl.od {G : Gx} {β : List Addr} {H : Hp} {st : Sto} (rl : Rl G β H st) (i : Nat) (es : List (Key × PyData)) (e : st.obs[i]? = some (Ob.dct es)) : ∃ (p : Addr) (kvs : List (Key × V)), β[i]? = some p ∧ H p = some (.dK kvs) ∧ kvs.map (·.1) = es.map (fun e => e.1) ∧ RTs G.K (Ban G β st) H (kvs.map (·.2)) (es.map (·.2)) := by
  obtain ⟨p, h, a, b, kvs, rfl, c, d⟩ := rl.oo i _ e (by intro z; cases z)
  exact ⟨p, kvs, a, b, c, d⟩
structure Fut (G : Gx) (β : List Addr) (st : Sto) (H : Hp) (β' : List Addr) (st' : Sto) (H' : Hp) : Prop where
  ext : ∃ γ, β' = β ++ γ ∧ ∀ p ∈ γ, H p = none
  there : ∀ b, H b ≠ none → H' b ≠ none
  stay : ∀ b o, H b = some o → ¬ Own G β st b → H' b = some o ∧ ¬ Own G β' st' b
section
variable {G : Gx} {β β' β'' : List Addr} {st st' st'' : Sto} {H H' H'' : Hp} {v : V} {u : U}
theorem Fut.refl : Fut G β st H β st H := ⟨⟨[], by simp, by simp⟩, fun _ h => h, fun _ _ h n => ⟨h, n⟩⟩
theorem Fut.trans (a : Fut G β st H β' st' H') (b : Fut G β' st' H' β'' st'' H'') : Fut G β st H β'' st'' H'' := by
  refine ⟨?_, fun p h => b.there p (a.there p h), fun p o h n => b.stay p o (a.stay p o h n).1 (a.stay p o h n).2⟩
  obtain ⟨γ, rfl, h1⟩ := a.ext
  obtain ⟨δ, rfl, h2⟩ := b.ext
  refine ⟨γ ++ δ, by rw [List.append_assoc], fun p hp => ?_⟩
  rcases List.mem_append.mp hp with hp | hp
  · exact h1 p hp
  · cases e : H p with
    | none => rfl
    | some o => exact absurd (h2 p hp) (a.there p (by rw [e]; simp))
theorem Fut.keep (a : Fut G β st H β' st' H') : Keep (Ban G β st) H (Ban G β' st') H' := fun b o h n => by
  have z := a.stay b o h (fun w => n (.inr w))
  exact ⟨z.1, fun w => w.elim (fun w => n (.inl w)) z.2⟩
theorem Fut.rt (a : Fut G β st H β' st' H') {d : PyData} (h : RT G.K (Ban G β st) H v d) : RT G.K (Ban G β' st') H' v d := RT.mono a.keep d v h
theorem Fut.rts (a : Fut G β st H β' st' H') {ds : List PyData} {vs : List V} (h : RTs G.K (Ban G β st) H vs ds) : RTs G.K (Ban G β' st') H' vs ds := RTs.mono a.keep ds vs h
theorem Fut.obr (a : Fut G β st H β' st' H') {o : Ob} {h : HO} (r : ObR G.K (Ban G β st) H o h) : ObR G.K (Ban G β' st') H' o h := r.imp fun ds vs q => a.rts q
theorem Fut.get (a : Fut G β st H β' st' H') {i : Nat} {p : Addr} (h : β[i]? = some p) : β'[i]? = some p := by
  obtain ⟨γ, rfl, _⟩ := a.ext
  rw [List.getElem?_append_left (List.getElem?_eq_some_iff.mp h).1]; exact h
theorem Fut.ru (a : Fut G β st H β' st' H') (h : RU G β (Ban G β st) H v u) : RU G β' (Ban G β' st') H' v u := by
  cases u with
  | d x => exact a.rt h
  | ref i => obtain ⟨p, h1, h2⟩ := h; exact ⟨p, a.get h1, h2⟩
  | flow => exact h
  | scr ns =>
    obtain ⟨p, h1, h2⟩ := h
    exact ⟨p, h1, h2.imp (fun z => a.keep.rd z) id⟩
  | dct es =>
    obtain ⟨p, o, kvs, h1, h2, h3, h4⟩ := h
    exact ⟨p, o, kvs, h1, a.keep _ _ h2.1 h2.2, h3, a.rts h4⟩
end
structure RLoc (G : Gx) (β : List Addr) (B : Addr → Prop) (H : Hp) (σ : L2.St) (l : Loc) : Prop where
  len : σ.length = l.length
  at_ : ∀ (i : Nat) (u : U), l[i]? = some (some u) → ∃ v, σ[i]? = some (some v) ∧ RU G β B H v u
def ExR (G : Gx) (B : Addr → Prop) (H : Hp) (e : Exc) (cv : Value) (dx : Option Addr) : Prop :=
  ∃ C, G.cls e.cls = some C ∧ cv = .ref C ∧ (match e.fs with
    | [] => dx = none
    | fs => ∃ d vs, dx = some d ∧ H d = some (.xd vs) ∧ ¬ B d ∧ vs.map (·.1) = fs.map (·.1) ∧ RTs G.K B H (vs.map (·.2)) (fs.map (·.2)))
section
variable {G : Gx} {β β' : List Addr} {st st' : Sto} {H H' : Hp} {σ : L2.St} {l : Loc}
theorem Fut.rloc (a : Fut G β st H β' st' H') (h : RLoc G β (Ban G β st) H σ l) : RLoc G β' (Ban G β' st') H' σ l := ⟨h.len, fun i u e => by
  obtain ⟨v, h1, h2⟩ := h.at_ i u e
  exact ⟨v, h1, a.ru h2⟩⟩
end
structure Re (G : Gx) (β : List Addr) (H : Hp) (σ : L2.St) (l : Loc) (st : Sto) : Prop where
  rl : Rl G β H st
  lo : RLoc G β (Ban G β st) H σ l
theorem Fut.re {G : Gx} {β β' : List Addr} {st st' : Sto} {H H' : Hp} {σ : L2.St} {l : Loc} (a : Fut G β st H β' st' H') (r : Rl G β' H' st') (h : Re G β H σ l st) : Re G β' H' σ l st' := ⟨r, a.rloc h.lo⟩
def wpR {α γ : Type} (G : Gx) (β : List Addr) (H : Hp) (σ : L2.St) (st : Sto) (P : List Addr → Sto → Hp → γ → α → Prop) (r : Res α) (Q : γ → Hp → Prop) : Prop := match r with
  | .ok a st' => ∀ v H' β', Fut G β st H β' st' H' → Rl G β' H' st' → P β' st' H' v a → Q v H'
  | .ex e st' => ∀ cv dx H' β', Fut G β st H β' st' H' → Rl G β' H' st' → ExR G (Ban G β' st') H' e cv dx → G.W cv dx σ H'
  | .no => False
def PU (G : Gx) : List Addr → Sto → Hp → V → U → Prop := fun β st H v u => RU G β (Ban G β st) H v u
def PUs (G : Gx) : List Addr → Sto → Hp → List V → List U → Prop := fun β st H vs us => Paired (fun v u => RU G β (Ban G β st) H v u) vs us
def PB : List Addr → Sto → Hp → Bool → Bool → Prop := fun _ _ _ a b => a = b
def SimE (G : Gx) (t : TE) (m : ME) : Prop := ∀ β H σ l st, Re G β H σ l st → ∀ Q, wpR G β H σ st (PU G) (m l st) Q → t σ H Q
def SimA (G : Gx) (t : TA) (m : MA) : Prop := ∀ β H σ l st, Re G β H σ l st → ∀ Q, wpR G β H σ st (PUs G) (m l st) Q → t σ H Q
def SimT (G : Gx) (t : TT) (m : MB) : Prop := ∀ β H σ l st, Re G β H σ l st → ∀ Q, wpR G β H σ st PB (m l st) Q → t σ H Q
section
variable {G : Gx}
theorem wpR_bind {α δ γ ε : Type} {β : List Addr} {H : Hp} {σ : L2.St} {st : Sto} {P : List Addr → Sto → Hp → γ → α → Prop} {P' : List Addr → Sto → Hp → ε → δ → Prop} {r : Res α} {k : α → Sto → Res δ} {Q : ε → Hp → Prop}
    (h : wpR G β H σ st P' (r.bind k) Q) {R : γ → Hp → Prop} (hk : ∀ v a H' β' st', Fut G β st H β' st' H' → Rl G β' H' st' → P β' st' H' v a → wpR G β' H' σ st' P' (k a st') Q → R v H') : wpR G β H σ st P r R := by
  cases r with
  | ok a st' =>
    intro v H' β' f rl p
    refine hk v a H' β' st' f rl p ?_
    have h' : wpR G β H σ st P' (k a st') Q := h
    cases e : k a st' with
    | ok b st'' => rw [e] at h'; exact fun v' H'' β'' f' rl' p' => h' v' H'' β'' (f.trans f') rl' p'
    | ex x st'' => rw [e] at h'; exact fun cv dx H'' β'' f' rl' p' => h' cv dx H'' β'' (f.trans f') rl' p'
    | no => rw [e] at h'; exact h'
  | ex e st' => exact h
  | no => exact h
theorem wpR_ok {α γ : Type} {β : List Addr} {H : Hp} {σ : L2.St} {st : Sto} {P : List Addr → Sto → Hp → γ → α → Prop} {a : α} {Q : γ → Hp → Prop} {v : γ} (rl : Rl G β H st) (p : P β st H v a) (h : wpR G β H σ st P (.ok a st) Q) : Q v H :=
  h v H β Fut.refl rl p
theorem wpR_d {β : List Addr} {H : Hp} {σ : L2.St} {st : Sto} {v : V} {x : PyData} {Q : VK} (rl : Rl G β H st) (p : RT G.K (Ban G β st) H v x) (h : wpR G β H σ st (PU G) (.ok (.d x) st) Q) : Q v H := h v H β Fut.refl rl p
theorem wpR_u {β : List Addr} {H : Hp} {σ : L2.St} {st : Sto} {v : V} {u : U} {Q : VK} (rl : Rl G β H st) (p : RU G β (Ban G β st) H v u) (h : wpR G β H σ st (PU G) (.ok u st) Q) : Q v H := h v H β Fut.refl rl p
def eVar (i : Nat) : ME := fun l st => match l[i]? with
  | some (some u) => .ok u st
  | _ => .no
theorem s_var (i : Nat) : SimE G (tVar i) (eVar i) := fun β H σ l st re Q h => by
  unfold eVar at h
  split at h
  · rename_i u e
    obtain ⟨v, h1, h2⟩ := re.lo.at_ i u e
    exact ⟨v, h1, wpR_ok re.rl h2 h⟩
  · exact h.elim
def eC (x : PyData) : ME := fun _ st => .ok (.d x) st
theorem s_c {v : V} {x : PyData} (hx : ∀ B H, RT G.K B H v x) : SimE G (tC v) (eC x) := fun β H σ l st re Q h => wpR_d re.rl (hx _ _) h
theorem s_int (i : Int) : SimE G (tC (.int i)) (eC (.int i)) := s_c fun _ _ => .int i
theorem s_bl (b : Bool) : SimE G (tC (.bl b)) (eC (.bool b)) := s_c fun _ _ => .bl b
theorem s_non : SimE G (tC .non) (eC .none) := s_c fun _ _ => .non
theorem s_str (z : Str) : SimE G (tC (.str z)) (eC (.str z)) := s_c fun _ _ => .str z
def SimR (G : Gx) (r : R2) (f : U → U → Sto → Res U) : Prop := ∀ β H σ l st, Re G β H σ l st → ∀ x y a b Q, RU G β (Ban G β st) H x a → RU G β (Ban G β st) H y b → wpR G β H σ st (PU G) (f a b st) Q → r x y H Q
def eOp (f : U → U → Sto → Res U) (a b : ME) : ME := fun l st => (a l st).bind fun x st => (b l st).bind fun y st => f x y st
theorem s_op {r : R2} {f : U → U → Sto → Res U} {ta tb : TE} {a b : ME} (hr : SimR G r f) (ha : SimE G ta a) (hb : SimE G tb b) : SimE G (tOp r ta tb) (eOp f a b) := fun β H σ l st re Q h => by
  refine ha β H σ l st re _ (wpR_bind h fun v x H1 β1 st1 f1 rl1 p1 h1 => ?_)
  have re1 := f1.re rl1 re
  refine hb β1 H1 σ l st1 re1 _ (wpR_bind h1 fun w y H2 β2 st2 f2 rl2 p2 h2 => ?_)
  exact hr β2 H2 σ l st2 (f2.re rl2 re1) v w x y Q (f2.ru p1) p2 h2
def oI (C : Int → Int → Bool) (g : Int → Int → PyData) : U → U → Sto → Res U := fun a b st => match a, b with
  | .d (.int i), .d (.int j) => if C i j then .ok (.d (g i j)) st else .no
  | _, _ => .no
def oI0 (g : Int → Int → PyData) : U → U → Sto → Res U := fun a b st => match a, b with
  | .d (.int i), .d (.int j) => .ok (.d (g i j)) st
  | _, _ => .no
theorem ru_int {β : List Addr} {B : Addr → Prop} {H : Hp} {v : V} {i : Int} (h : RU G β B H v (.d (.int i))) : v = .int i := by cases h; rfl
theorem ru_bool {β : List Addr} {B : Addr → Prop} {H : Hp} {v : V} {i : Bool} (h : RU G β B H v (.d (.bool i))) : v = .bl i := by cases h; rfl
theorem ru_str {β : List Addr} {B : Addr → Prop} {H : Hp} {v : V} {i : Str} (h : RU G β B H v (.d (.str i))) : v = .str i := by cases h; rfl
theorem r_I {C : Int → Int → Prop} {c : Int → Int → Bool} {g : Int → Int → V} {g' : Int → Int → PyData} (hc : ∀ i j, c i j = true → C i j) (hg : ∀ i j B H, RT G.K B H (g i j) (g' i j)) : SimR G (rI C g) (oI c g') := fun β H σ l st re x y a b Q hx hy h => by
  unfold oI at h
  split at h
  · rename_i i j
    cases ru_int hx; cases ru_int hy
    split at h
    · rename_i q
      exact ⟨i, j, rfl, rfl, hc i j q, wpR_d re.rl (hg i j _ _) h⟩
    · exact h.elim
  · exact h.elim
theorem r_I0 {g : Int → Int → V} {g' : Int → Int → PyData} (hg : ∀ i j B H, RT G.K B H (g i j) (g' i j)) : SimR G (rI0 g) (oI0 g') := fun β H σ l st re x y a b Q hx hy h => by
  unfold oI0 at h
  split at h
  · rename_i i j
    cases ru_int hx; cases ru_int hy
    exact ⟨i, j, rfl, rfl, wpR_d re.rl (hg i j _ _) h⟩
  · exact h.elim
end
end NW
namespace NW
open PySem PySem.Spec PyProof.Rows L2
section
variable {G : Gx} {β β' : List Addr} {st st' : Sto} {H H' : Hp} {v : V} {u : U} {σ : L2.St} {l : Loc}
theorem Rl.notBan (rl : Rl G β H st) {p : Addr} (hp : H p = none) : ¬ Ban G β st p := by
  rintro (h | ⟨hf, rfl⟩ | ⟨i, xs, h1, nd, h2⟩)
  · exact (rl.o0 p h).1 hp
  · obtain ⟨f, hf⟩ := Option.isSome_iff_exists.mp hf
    obtain ⟨⟨a, _⟩, _⟩ := rl.flo f hf
    rw [hp] at a; cases a
  · obtain ⟨q, vs, a, b, _⟩ := rl.oo i xs h1 nd
    rw [h2] at a; cases a; rw [hp] at b; cases b
theorem Fut.new {p : Addr} {o : HO} (hp : H p = none) : Fut G β st H β st (upd H p o) :=
  ⟨⟨[], by simp, by simp⟩, fun b h => by
    by_cases e : b = p
    · subst e; rw [upd_same]; simp
    · rw [upd_ne e]; exact h, fun b o' h n => ⟨by rw [upd_ne (ne_of_none h hp)]; exact h, n⟩⟩
theorem SqLB.fut (a : Fut G β st H β' st' H') {K : PySem.W.Frag} {p : Addr} {xs : List V} (h : SqLB K (Ban G β st) H p xs) : SqLB K (Ban G β' st') H' p xs := a.keep p _ h.1 h.2
theorem Rl.o0_fut (rl : Rl G β H st) (f : Fut G β st H β' st' H') (q : Addr) (hq : G.O0 q) (n : ¬ Own G β' st' q) : H' q ≠ none ∧ ¬ Own G β' st' q ∧ ∀ vs, ¬ Rd H' q (.tup vs) := by
  obtain ⟨a, b, c⟩ := rl.o0 q hq
  refine ⟨f.there q a, n, fun vs h => ?_⟩
  cases e : H q with
  | none => exact a e
  | some o =>
    have z := (f.stay q o e b).1
    refine c vs ?_
    unfold Rd at h ⊢
    rw [z] at h; rw [e]; exact h
theorem Rl.banNoTup (rl : Rl G β H st) {p : Addr} (h : Ban G β st p) (vs : List V) : ¬ Rd H p (.tup vs) := by
  rcases h with h | ⟨hf, rfl⟩ | ⟨i, xs, h1, nd, h2⟩
  · exact (rl.o0 p h).2.2 vs
  · obtain ⟨f, hf⟩ := Option.isSome_iff_exists.mp hf
    obtain ⟨⟨a, _⟩, _⟩ := rl.flo f hf
    rintro (z | ⟨o, z⟩) <;> (rw [a] at z; cases z)
  · obtain ⟨q, ws, a, b, c⟩ := rl.oo i xs h1 nd
    rw [h2] at a; cases a
    rintro (z | ⟨o, z⟩)
    · rw [b] at z; exact c.noTup _ (Option.some.inj z)
    · rw [b] at z; exact c.noFrz _ _ (Option.some.inj z)
theorem Rl.new (rl : Rl G β H st) {p : Addr} {o : HO} (hp : H p = none) : Rl G β (upd H p o) st := by
  have f : Fut G β st H β st (upd H p o) := Fut.new hp
  refine ⟨rl.len, rl.nodup, fun q hq => f.there q (rl.trk q hq), fun i xs h nd => ?_, fun g hg => ?_, fun q hq => rl.o0_fut f q hq (rl.o0 q hq).2.1⟩
  · obtain ⟨q, vs, a, b, c⟩ := rl.oo i xs h nd
    exact ⟨q, vs, a, by rw [upd_ne (ne_of_none b hp)]; exact b, f.obr c⟩
  · obtain ⟨⟨a, b⟩, c⟩ := rl.flo g hg
    exact ⟨⟨by rw [upd_ne (ne_of_none a hp)]; exact a, b.fut f⟩, c⟩
def Sto.addO (st : Sto) (o : Ob) : Sto := { st with obs := st.obs ++ [o] }
def Sto.add (st : Sto) (xs : List PyData) : Sto := { st with obs := st.obs ++ [.lst xs] }
theorem Own.addO {p q : Addr} {o : Ob} (ho : o ≠ .dead) (hl : β.length = st.obs.length) : Own G (β ++ [p]) (st.addO o) q ↔ Own G β st q ∨ q = p := by
  unfold Own Sto.addO
  constructor
  · rintro (h | ⟨i, ys, h1, nd, h2⟩)
    · exact .inl (.inl h)
    · by_cases hi : i < st.obs.length
      · rw [List.getElem?_append_left hi] at h1
        rw [List.getElem?_append_left (by omega)] at h2
        exact .inl (.inr ⟨i, ys, h1, nd, h2⟩)
      · have e : i = st.obs.length := by
          have := (List.getElem?_eq_some_iff.mp h1).1
          simp at this; omega
        subst e
        rw [← hl, List.getElem?_append_right (Nat.le_refl _)] at h2
        simp at h2; exact .inr h2.symm
  · rintro ((h | ⟨i, ys, h1, nd, h2⟩) | h)
    · exact .inl h
    · exact .inr ⟨i, ys, by rw [List.getElem?_append_left (List.getElem?_eq_some_iff.mp h1).1]; exact h1, nd, by rw [List.getElem?_append_left (List.getElem?_eq_some_iff.mp h2).1]; exact h2⟩
    · subst h
      exact .inr ⟨st.obs.length, o, by simp, ho, by rw [← hl]; simp⟩
theorem Own.add {p q : Addr} {xs : List PyData} (hl : β.length = st.obs.length) : Own G (β ++ [p]) (st.add xs) q ↔ Own G β st q ∨ q = p := Own.addO (o := .lst xs) (by intro z; cases z) hl
theorem add_ownO (rl : Rl G β H st) {p : Addr} {h0 : HO} {o : Ob} (ho : o ≠ .dead) (hp : H p = none) (r : ObR G.K (Ban G β st) H o h0) :
    Fut G β st H (β ++ [p]) (st.addO o) (upd H p h0) ∧ Rl G (β ++ [p]) (upd H p h0) (st.addO o) := by
  have fO : Fut G β st H (β ++ [p]) (st.addO o) (upd H p h0) := by
    refine ⟨⟨[p], rfl, by simp [hp]⟩, (Fut.new (G := G) (β := β) (st := st) (o := h0) hp).there, fun b o' h n => ⟨by rw [upd_ne (ne_of_none h hp)]; exact h, fun w => ?_⟩⟩
    rcases (Own.addO ho rl.len).mp w with w | w
    · exact n w
    · subst w; rw [hp] at h; cases h
  refine ⟨fO, by simp [Sto.addO, rl.len], ?_, fun q hq => ?_, fun i ys h nd => ?_, fun g hg => ?_, fun q hq => rl.o0_fut fO q hq fun w => ?_⟩
  · rw [List.nodup_append]
    refine ⟨rl.nodup, by simp, fun a ha b hb e => ?_⟩
    have hb' : b = p := by simpa using hb
    subst e hb'
    exact rl.trk _ ha hp
  · rcases List.mem_append.mp hq with w | w
    · exact fO.there q (rl.trk q w)
    · have w' : q = p := by simpa using w
      rw [w', upd_same]; simp
  · unfold Sto.addO at h
    by_cases hi : i < st.obs.length
    · rw [List.getElem?_append_left hi] at h
      obtain ⟨q, ws, a, b, c⟩ := rl.oo i ys h nd
      exact ⟨q, ws, by rw [List.getElem?_append_left (List.getElem?_eq_some_iff.mp a).1]; exact a, by rw [upd_ne (ne_of_none b hp)]; exact b, fO.obr c⟩
    · have e : i = st.obs.length := by
        have := (List.getElem?_eq_some_iff.mp h).1
        simp at this; omega
      subst e
      simp at h; subst h
      exact ⟨p, h0, by rw [← rl.len]; simp, upd_same, fO.obr r⟩
  · obtain ⟨⟨a, b⟩, c⟩ := rl.flo g hg
    refine ⟨⟨by rw [upd_ne (ne_of_none a hp)]; exact a, b.fut fO⟩, fun w => ?_⟩
    rcases List.mem_append.mp w with w | w
    · exact c w
    · have w' : G.fa = p := by simpa using w
      rw [w', hp] at a; cases a
  · rcases (Own.addO ho rl.len).mp w with w | w
    · exact (rl.o0 q hq).2.1 w
    · subst w; exact (rl.o0 _ hq).1 hp
theorem add_own (rl : Rl G β H st) {p : Addr} {vs : List V} {xs : List PyData} (hp : H p = none) (r : RTs G.K (Ban G β st) H vs xs) :
    Fut G β st H (β ++ [p]) (st.add xs) (upd H p (.lst vs)) ∧ Rl G (β ++ [p]) (upd H p (.lst vs)) (st.add xs) := add_ownO rl (o := .lst xs) (by intro z; cases z) hp ⟨vs, rfl, r⟩
theorem ix_inj {β : List Addr} (n : β.Nodup) {i j : Nat} {p : Addr} (h : β[i]? = some p) (h' : β[j]? = some p) : i = j := by
  obtain ⟨h1, e1⟩ := List.getElem?_eq_some_iff.mp h
  obtain ⟨h2, e2⟩ := List.getElem?_eq_some_iff.mp h'
  exact (List.getElem_inj n).mp (e1.trans e2.symm)
def Sto.putO (st : Sto) (i : Nat) (o : Ob) : Sto := { st with obs := st.obs.set i o }
def Sto.put (st : Sto) (i : Nat) (xs : List PyData) : Sto := { st with obs := st.obs.set i (.lst xs) }
theorem Own.putO {i : Nat} {o o' : Ob} {q : Addr} (h : st.obs[i]? = some o) (n : o ≠ .dead) (n' : o' ≠ .dead) : Own G β (st.putO i o') q ↔ Own G β st q := by
  unfold Own Sto.putO
  have hi := (List.getElem?_eq_some_iff.mp h).1
  constructor
  · rintro (h' | ⟨j, zs, h1, nd, h2⟩)
    · exact .inl h'
    · by_cases e : j = i
      · subst e; exact .inr ⟨j, o, h, n, h2⟩
      · exact .inr ⟨j, zs, by simpa [List.getElem?_set_ne (Ne.symm e)] using h1, nd, h2⟩
  · rintro (h' | ⟨j, zs, h1, nd, h2⟩)
    · exact .inl h'
    · by_cases e : j = i
      · subst e; exact .inr ⟨j, o', by simp [hi], n', h2⟩
      · exact .inr ⟨j, zs, by simpa [List.getElem?_set_ne (Ne.symm e)] using h1, nd, h2⟩
theorem Own.put {i : Nat} {xs ys : List PyData} {q : Addr} (h : st.obs[i]? = some (.lst xs)) : Own G β (st.put i ys) q ↔ Own G β st q := Own.putO (o' := .lst ys) h (by intro z; cases z) (by intro z; cases z)
theorem put_ownO (rl : Rl G β H st) {i : Nat} {p : Addr} {o o' : Ob} {h0 : HO} (h : st.obs[i]? = some o) (n : o ≠ .dead) (n' : o' ≠ .dead) (hp : β[i]? = some p) (r : ObR G.K (Ban G β st) H o' h0) :
    Fut G β st H β (st.putO i o') (upd H p h0) ∧ Rl G β (upd H p h0) (st.putO i o') := by
  have op : Own G β st p := .inr ⟨i, o, h, n, hp⟩
  have hi := (List.getElem?_eq_some_iff.mp h).1
  have fO : Fut G β st H β (st.putO i o') (upd H p h0) := by
    refine ⟨⟨[], by simp, by simp⟩, fun b hb => ?_, fun b o' h' n1 => ?_⟩
    · by_cases e : b = p
      · rw [e, upd_same]; simp
      · rw [upd_ne e]; exact hb
    · have e : b ≠ p := fun e => n1 (e ▸ op)
      exact ⟨by rw [upd_ne e]; exact h', fun w => n1 ((Own.putO h n n').mp w)⟩
  refine ⟨fO, by simp [Sto.putO, rl.len], rl.nodup, fun q hq => fO.there q (rl.trk q hq), fun j zs h' nd => ?_, fun g hg => ?_, fun q hq => rl.o0_fut fO q hq fun w => (rl.o0 q hq).2.1 ((Own.putO h n n').mp w)⟩
  · by_cases e : j = i
    · subst e
      simp [Sto.putO, hi] at h'; subst h'
      exact ⟨p, h0, hp, upd_same, fO.obr r⟩
    · obtain ⟨q, ws, a, b, c⟩ := rl.oo j zs (by simpa [Sto.putO, List.getElem?_set_ne (Ne.symm e)] using h') nd
      have ne : q ≠ p := fun z => e (ix_inj rl.nodup a (z ▸ hp))
      exact ⟨q, ws, a, by rw [upd_ne ne]; exact b, fO.obr c⟩
  · obtain ⟨⟨a, b⟩, c⟩ := rl.flo g hg
    have ne : G.fa ≠ p := fun z => c (z ▸ List.mem_of_getElem? hp)
    exact ⟨⟨by rw [upd_ne ne]; exact a, b.fut fO⟩, c⟩
theorem put_own (rl : Rl G β H st) {i : Nat} {p : Addr} {xs ys : List PyData} {vs : List V} (h : st.obs[i]? = some (.lst xs)) (hp : β[i]? = some p) (r : RTs G.K (Ban G β st) H vs ys) :
    Fut G β st H β (st.put i ys) (upd H p (.lst vs)) ∧ Rl G β (upd H p (.lst vs)) (st.put i ys) := put_ownO rl (o' := .lst ys) h (by intro z; cases z) (by intro z; cases z) hp ⟨vs, rfl, r⟩
theorem own_fl {f f' : Fl} (h : st.fl = some f) (p : Addr) : Own G β { st with fl := some f' } p ↔ Own G β st p := by
  unfold Own
  rw [h]
  exact Iff.rfl
theorem flow_end (rl : Rl G β H st) {f f' : Fl} (hf : st.fl = some f) (k : ∀ b o, H b = some o → b ≠ G.fa → H' b = some o) (h1 : H' G.fa = some (.lst (flV G.fb f'))) (hc : f'.cells = f.cells) :
    Fut G β st H β { st with fl := some f' } H' ∧ Rl G β H' { st with fl := some f' } := by
  obtain ⟨⟨a, b⟩, c⟩ := rl.flo f hf
  have ofa : Own G β st G.fa := .inl ⟨by rw [hf]; rfl, rfl⟩
  have hne : G.fb ≠ G.fa := fun e => b.2 (.inr (e ▸ ofa))
  have fu : Fut G β st H β { st with fl := some f' } H' := by
    refine ⟨⟨[], by simp, by simp⟩, fun b hb => ?_, fun b o h n => ⟨k b o h fun e => n (e ▸ ofa), fun w => n ((own_fl hf b).mp w)⟩⟩
    by_cases e : b = G.fa
    · rw [e, h1]; simp
    · cases e2 : H b with
      | none => exact absurd e2 hb
      | some o => rw [k b o e2 e]; simp
  refine ⟨fu, rl.len, rl.nodup, fun q hq => fu.there q (rl.trk q hq), fun i xs h nd => ?_, fun g hg => ?_, fun q hq => rl.o0_fut fu q hq fun w => (rl.o0 q hq).2.1 ((own_fl hf q).mp w)⟩
  · obtain ⟨q, vs, a', b', c'⟩ := rl.oo i xs h nd
    exact ⟨q, vs, a', k _ _ b' (fun e => c (e ▸ List.mem_of_getElem? a')), fu.obr c'⟩
  · cases hg
    refine ⟨⟨h1, ?_⟩, c⟩
    rw [hc]
    exact b.fut fu
def listOf (st : Sto) : U → Option (List PyData)
  | .d (.list xs) => some xs
  | .ref i => match st.obs[i]? with | some (.lst xs) => some xs | _ => none
  | _ => none
def tupOf : U → Option (List PyData)
  | .d (.tuple xs) => some xs
  | _ => none
def toTree (st : Sto) (u : U) : Option PyData := match u with
  | .d x => some x
  | .ref i => match st.obs[i]? with | some (.lst xs) => some (.list xs) | _ => none
  | .flow => none
  | .scr _ => none
  | .dct _ => none
theorem list_q (rl : Rl G β H st) (h : RU G β (Ban G β st) H v u) {xs : List PyData} (e : listOf st u = some xs) : ∃ p vs, v = .ref p ∧ SqL G.K H p vs ∧ RTs G.K (Ban G β st) H vs xs := by
  unfold listOf at e
  split at e
  · cases e
    cases h with
    | lst a b => exact ⟨_, _, rfl, a.q, b⟩
  · rename_i i
    split at e
    · rename_i hy
      cases e
      obtain ⟨p, h1, rfl⟩ := h
      obtain ⟨q, vs, a, b, c⟩ := rl.ob i _ hy
      rw [h1] at a; cases a
      exact ⟨p, vs, rfl, SqL.of b, c⟩
    · cases e
  · cases e
theorem tup_q (h : RU G β (Ban G β st) H v u) {xs : List PyData} (e : tupOf u = some xs) : ∃ p vs, v = .ref p ∧ SqT G.K H p vs ∧ RTs G.K (Ban G β st) H vs xs := by
  unfold tupOf at e
  split at e
  · cases e
    cases h with
    | tup a b => exact ⟨_, _, rfl, a.q, b⟩
  · cases e
theorem tree_dp (rl : Rl G β H st) (h : RU G β (Ban G β st) H v u) {x : PyData} (e : toTree st u = some x) : Dp G.K H v x := by
  cases u with
  | d y => cases e; exact RT.dp _ _ h
  | flow => cases e
  | scr ns => cases e
  | dct es => cases e
  | ref i =>
    simp only [toTree] at e
    split at e
    · rename_i ys hy
      cases e
      obtain ⟨p, h1, rfl⟩ := h
      obtain ⟨q, vs, a, b, c⟩ := rl.ob i ys hy
      rw [h1] at a; cases a
      exact .lst (SqL.of b) (RTs.dp _ _ c)
    · cases e
def opEq (neg : Bool) : U → U → Sto → Res U := fun a b st => match toTree st a, toTree st b with
  | some x, some y => if (SeqAt.shaped x && SeqAt.shaped y) = true then .ok (.d (.bool (if neg then !PyData.eqv x y else PyData.eqv x y))) st else .no
  | _, _ => .no
theorem r_eq : SimR G (rEqD G.K) (opEq false) := fun β H σ l st re x y a b Q hx hy h => by
  unfold opEq at h
  split at h
  · rename_i d e h1 h2
    split at h
    · rename_i q
      rw [Bool.and_eq_true] at q
      exact ⟨d, e, tree_dp re.rl hx h1, tree_dp re.rl hy h2, q.1, q.2, wpR_d re.rl (.bl _) h⟩
    · exact h.elim
  · exact h.elim
theorem r_ne : SimR G (rNeD G.K) (opEq true) := fun β H σ l st re x y a b Q hx hy h => by
  unfold opEq at h
  split at h
  · rename_i d e h1 h2
    split at h
    · rename_i q
      rw [Bool.and_eq_true] at q
      exact ⟨d, e, tree_dp re.rl hx h1, tree_dp re.rl hy h2, q.1, q.2, wpR_d re.rl (.bl _) h⟩
    · exact h.elim
  · exact h.elim
def fSub : U → U → Sto → Res U := oI0 fun i j => .int (i - j)
def mulC (i j : Int) : Bool := decide (i.natAbs.log2 + j.natAbs.log2 < 1000000)
def fMod : U → U → Sto → Res U := oI (fun _ j => decide (j ≠ 0)) fun i j => .int (i.fmod j)
def divC (_ j : Int) : Bool := decide (j ≠ 0)
def fDiv : U → U → Sto → Res U := oI divC fun i j => .int (i.fdiv j)
def fPow : U → U → Sto → Res U := oI (fun i j => decide (0 ≤ j ∧ j ≤ 1000000 ∧ i.natAbs < 2 ^ 64)) fun i j => .int (i ^ j.toNat)
def fLt : U → U → Sto → Res U := oI0 fun i j => .bool (decide (i < j))
def fLe : U → U → Sto → Res U := oI0 fun i j => .bool (decide (i ≤ j))
def fGt : U → U → Sto → Res U := oI0 fun i j => .bool (decide (j < i))
def fGe : U → U → Sto → Res U := oI0 fun i j => .bool (decide (j ≤ i))
theorem r_sub : SimR G (rI0 fun i j => .int (i - j)) fSub := r_I0 fun _ _ _ _ => .int _
theorem r_mod : SimR G (rI (fun _ j => j ≠ 0) fun i j => .int (i.fmod j)) fMod := r_I (fun _ _ h => by have q := of_decide_eq_true h; exact q) fun _ _ _ _ => .int _
def CDivA (_ j : Int) : Prop := j ≠ 0
def SeX (P : Program) (base : Heap) (A : Around) (fr : List Env) : Prop :=
  base.NoSeer ∧ P.given.tree = none ∧ A.depth + Builtin.pylongFrames < recursionLimit ∧
    ∃ (e1 : Env) (rest : List Env), fr = e1 :: rest ∧ e1.scope.isGenerator = false ∧ e1.scope.isCoroutine = false ∧ e1.builtins = builtinsNs ∧ e1.globals = mainGlobals
theorem op_fdivA {X : Cx} (hS : SeX X.prog X.base X.A X.stack) : OpR X (binaryOp .FloorDiv) (rI CDivA fun i j => .int (i.fdiv j)) := by
  intro pn s sg hp p q vp vq Kq inv rp rq hw
  obtain ⟨n1, n2, en1, en2, nz, hk⟩ := hw
  subst en1 en2
  obtain ⟨k1, ek1⟩ := rp
  obtain ⟨k2, ek2⟩ := rq
  subst ek1 ek2
  obtain ⟨g1, g2, g3, e1, rest, f1, f2, f3, f4, f5⟩ := hS
  have fr := inv.ok.frames
  rw [f1] at fr
  have seer : SeerAt (model X.prog X.w) X.A s.heap := SeerAt.of (g1.keeps inv.bk) g2 fr f2 f3 f4 f5
  have room : PylongRoom (model X.prog X.w) X.A s := PylongRoom.of inv.nolimit g3 seer
  exact floordiv_int nz ⟨V.int (n1.fdiv n2), hp, inv.tok _, ⟨s.toks, rfl⟩, hk⟩ (.inr room)
theorem r_div : SimR G (rI CDivA fun i j => .int (i.fdiv j)) fDiv := r_I (fun _ _ h => by have q := of_decide_eq_true h; exact q) fun _ _ _ _ => .int _
theorem r_pow : SimR G (rI CPow fun i j => .int (i ^ j.toNat)) fPow := r_I (fun _ _ h => by have q := of_decide_eq_true h; exact q) fun _ _ _ _ => .int _
theorem r_lt : SimR G (rI0 fun i j => .bl (decide (i < j))) fLt := r_I0 fun _ _ _ _ => .bl _
theorem r_le : SimR G (rI0 fun i j => .bl (decide (i ≤ j))) fLe := r_I0 fun _ _ _ _ => .bl _
theorem r_gt : SimR G (rI0 fun i j => .bl (decide (j < i))) fGt := r_I0 fun _ _ _ _ => .bl _
theorem r_ge : SimR G (rI0 fun i j => .bl (decide (j ≤ i))) fGe := r_I0 fun _ _ _ _ => .bl _
def isNon : U → Bool
  | .d .none => true
  | _ => false
theorem isNon_v (h : RU G β (Ban G β st) H v u) : decide (v = .non) = isNon u := by
  cases u with
  | d x => cases h <;> rfl
  | ref i => obtain ⟨p, _, rfl⟩ := h; rfl
  | flow => have e : v = .ref G.fa := h; subst e; rfl
  | scr ns => obtain ⟨a, rfl, _⟩ := h; rfl
  | dct es => obtain ⟨a, o, kvs, rfl, _⟩ := h; rfl
def fIsN (neg : Bool) : U → U → Sto → Res U := fun a b st => match b with
  | .d .none => .ok (.d (.bool (if neg then !isNon a else isNon a))) st
  | _ => .no
theorem r_isN : SimR G (fun x y H Q => y = .non ∧ Q (.bl (decide (x = .non))) H) (fIsN false) := fun β H σ l st re x y a b Q hx hy h => by
  unfold fIsN at h
  split at h
  · cases hy
    exact ⟨rfl, by rw [isNon_v hx]; exact wpR_d re.rl (.bl _) h⟩
  · exact h.elim
def flatD : PyData → Bool
  | .none | .bool _ | .int _ | .str _ => true
  | _ => false
theorem flatD_v {B : Addr → Prop} {K : PySem.W.Frag} {x : PyData} (h : RT K B H v x) (f : flatD x = true) : flatV v = true := by
  cases h <;> first | rfl | cases f
theorem flatD_all {B : Addr → Prop} {K : PySem.W.Frag} : ∀ {xs : List PyData} {vs : List V}, RTs K B H vs xs → xs.all flatD = true → vs.all flatV = true
  | [], _, h, _ => by cases h; rfl
  | x :: xs, _, h, f => by
    cases h with
    | cons h1 h2 =>
      simp only [List.all_cons, Bool.and_eq_true] at f ⊢
      exact ⟨flatD_v h1 f.1, flatD_all h2 f.2⟩
theorem eqV_v {B : Addr → Prop} {K : PySem.W.Frag} {x y : PyData} {v w : V} (h : RT K B H v x) (h' : RT K B H w y) (f : flatD x = true) (g : flatD y = true) : eqV v w = PyData.eqv x y := by
  cases h <;> first | (cases f; done) | (cases h' <;> first | (cases g; done) | (simp [eqV, PyData.eqv]))
theorem inV_v {B : Addr → Prop} {K : PySem.W.Frag} {x : PyData} {v : V} (h : RT K B H v x) (f : flatD x = true) : ∀ {xs : List PyData} {vs : List V}, RTs K B H vs xs → xs.all flatD = true → inV v vs = xs.any fun y => PyData.eqv y x
  | [], _, h', _ => by cases h'; rfl
  | y :: xs, _, h', g => by
    cases h' with
    | cons h1 h2 =>
      simp only [List.all_cons, Bool.and_eq_true] at g
      have ih := inV_v h f h2 g.2
      unfold inV at ih ⊢
      rw [List.any_cons, List.any_cons, ih, eqV_v h1 h g.1 f]
def seqOf (st : Sto) (u : U) : Option (List PyData) := (listOf st u).orElse fun _ => tupOf u
theorem seq_q (rl : Rl G β H st) (h : RU G β (Ban G β st) H v u) {xs : List PyData} (e : seqOf st u = some xs) : ∃ p vs, v = .ref p ∧ (SqL G.K H p vs ∨ SqT G.K H p vs) ∧ RTs G.K (Ban G β st) H vs xs := by
  unfold seqOf at e
  cases q : listOf st u with
  | some ys =>
    rw [q] at e; cases e
    obtain ⟨p, vs, a, b, c⟩ := list_q rl h q
    exact ⟨p, vs, a, .inl b, c⟩
  | none =>
    rw [q] at e
    obtain ⟨p, vs, a, b, c⟩ := tup_q h (show tupOf u = some xs from e)
    exact ⟨p, vs, a, .inr b, c⟩
def fIn (neg : Bool) : U → U → Sto → Res U := fun a b st => match a, seqOf st b with
  | .d x, some xs => if (flatD x && xs.all flatD) = true then .ok (.d (.bool (if neg then !(xs.any fun y => PyData.eqv y x) else xs.any fun y => PyData.eqv y x))) st else .no
  | _, _ => .no
theorem r_in (neg : Bool) : SimR G (rIn G.K neg) (fIn neg) := fun β H σ l st re x y a b Q hx hy h => by
  unfold fIn at h
  split at h
  · rename_i z xs e
    split at h
    · rename_i q
      rw [Bool.and_eq_true] at q
      obtain ⟨p, vs, rfl, s, r⟩ := seq_q re.rl hy e
      exact ⟨p, vs, rfl, s, flatD_v hx q.1, flatD_all r q.2, by rw [inV_v hx q.1 r q.2]; exact wpR_d re.rl (.bl _) h⟩
    · exact h.elim
  · exact h.elim
end
end NW
namespace NW
open PySem PySem.Spec PyProof.Rows L2
section
variable {G : Gx} {β β' : List Addr} {st st' : Sto} {H H' : Hp} {v : V} {u : U} {σ : L2.St} {l : Loc}
def bTest (m : ME) : MB := fun l st => (m l st).bind fun u st => match u with
  | .d (.bool b) => .ok b st
  | _ => .no
theorem s_tB {t : TE} {m : ME} (h : SimE G t m) : SimT G (tB t) (bTest m) := fun β H σ l st re Q q => by
  refine h β H σ l st re _ (wpR_bind q fun v u H1 β1 st1 f1 rl1 p1 h1 => ?_)
  split at h1
  · cases ru_bool p1
    exact ⟨_, rfl, h1 _ H1 β1 Fut.refl rl1 rfl⟩
  · exact h1.elim
theorem s_test {t : TE} {m : ME} (h : SimE G t m) : SimT G (tTest t) (bTest m) := s_tB h
def truD (st : Sto) (u : U) : Option Bool := match u with
  | .d .none => some false
  | .d (.bool b) => some b
  | .d (.int i) => some (i != 0)
  | .d (.str y) => if decide (y.length ≤ sizeLine) = true then some ((y.length : Int) != 0) else none
  | _ => (seqOf st u).map fun xs => !xs.isEmpty
def bTru (m : ME) : MB := fun l st => (m l st).bind fun u st => match truD st u with
  | some b => .ok b st
  | none => .no
theorem tru_v (rl : Rl G β H st) (h : RU G β (Ban G β st) H v u) {b : Bool} (e : truD st u = some b) : TruV G.K v H b := by
  unfold truD at e
  split at e
  · cases h; exact (Option.some.inj e).symm
  · cases h; exact (Option.some.inj e).symm
  · cases h; exact (Option.some.inj e).symm
  · cases h
    split at e
    · rename_i q
      exact ⟨of_decide_eq_true q, (Option.some.inj e).symm⟩
    · cases e
  · cases q : seqOf st u with
    | none => rw [q] at e; cases e
    | some xs =>
      rw [q] at e
      obtain ⟨p, vs, rfl, s, r⟩ := seq_q rl h q
      have e' : (!xs.isEmpty) = b := Option.some.inj e
      have z : b = !vs.isEmpty := by
        rw [← e']
        cases r <;> rfl
      rcases s with s | s
      · exact .inl ⟨vs, s, z⟩
      · exact .inr (.inl ⟨vs, s, z⟩)
theorem s_tru {t : TE} {m : ME} (h : SimE G t m) : SimT G (fun σ H Q => t σ H fun x H' => ∃ k, TruV G.K x H' k ∧ Q k H') (bTru m) := fun β H σ l st re Q q => by
  refine h β H σ l st re _ (wpR_bind q fun v u H1 β1 st1 f1 rl1 p1 h1 => ?_)
  split at h1
  · rename_i b e
    exact ⟨b, tru_v rl1 p1 e, h1 _ H1 β1 Fut.refl rl1 rfl⟩
  · exact h1.elim
def bAnd (a b : MB) : MB := fun l st => (a l st).bind fun c st => if c = true then b l st else .ok false st
def bOr (a b : MB) : MB := fun l st => (a l st).bind fun c st => if c = true then .ok true st else b l st
def bNot (a : MB) : MB := fun l st => (a l st).bind fun c st => .ok (!c) st
theorem wpR_b {b : Bool} {Q : Bool → Hp → Prop} (rl : Rl G β H st) (h : wpR G β H σ st PB (.ok b st) Q) : Q b H := h b H β Fut.refl rl rfl
theorem s_and {t u : TT} {a b : MB} (ha : SimT G t a) (hb : SimT G u b) : SimT G (tAnd t u) (bAnd a b) := fun β H σ l st re Q q => by
  refine ha β H σ l st re _ (wpR_bind q fun c c' H1 β1 st1 f1 rl1 p1 h1 => ?_)
  cases (show c = c' from p1)
  cases c with
  | true => exact hb β1 H1 σ l st1 (f1.re rl1 re) Q h1
  | false => exact wpR_b rl1 h1
theorem s_or {t u : TT} {a b : MB} (ha : SimT G t a) (hb : SimT G u b) : SimT G (tOr t u) (bOr a b) := fun β H σ l st re Q q => by
  refine ha β H σ l st re _ (wpR_bind q fun c c' H1 β1 st1 f1 rl1 p1 h1 => ?_)
  cases (show c = c' from p1)
  cases c with
  | false => exact hb β1 H1 σ l st1 (f1.re rl1 re) Q h1
  | true => exact wpR_b rl1 h1
theorem s_not {t : TT} {a : MB} (ha : SimT G t a) : SimT G (tNot t) (bNot a) := fun β H σ l st re Q q => by
  refine ha β H σ l st re _ (wpR_bind q fun c c' H1 β1 st1 f1 rl1 p1 h1 => ?_)
  cases (show c = c' from p1)
  exact wpR_b rl1 h1
def eAndV (a b : ME) : ME := fun l st => (a l st).bind fun u st => match u with
  | .d (.bool c) => if c = true then b l st else .ok (.d (.bool false)) st
  | _ => .no
def eOrV (a b : ME) : ME := fun l st => (a l st).bind fun u st => match u with
  | .d (.bool c) => if c = true then .ok (.d (.bool true)) st else b l st
  | _ => .no
def eNotV (a : ME) : ME := fun l st => (a l st).bind fun u st => match u with
  | .d (.bool c) => .ok (.d (.bool (!c))) st
  | _ => .no
theorem s_andV {t u : TE} {a b : ME} (ha : SimE G t a) (hb : SimE G u b) : SimE G (tAndV t u) (eAndV a b) := fun β H σ l st re Q q => by
  refine ha β H σ l st re _ (wpR_bind q fun v w H1 β1 st1 f1 rl1 p1 h1 => ?_)
  split at h1
  · rename_i c
    cases ru_bool p1
    refine ⟨c, rfl, ?_⟩
    cases c with
    | true => exact hb β1 H1 σ l st1 (f1.re rl1 re) Q h1
    | false => exact wpR_d rl1 (.bl _) h1
  · exact h1.elim
theorem s_orV {t u : TE} {a b : ME} (ha : SimE G t a) (hb : SimE G u b) : SimE G (tOrV t u) (eOrV a b) := fun β H σ l st re Q q => by
  refine ha β H σ l st re _ (wpR_bind q fun v w H1 β1 st1 f1 rl1 p1 h1 => ?_)
  split at h1
  · rename_i c
    cases ru_bool p1
    refine ⟨c, rfl, ?_⟩
    cases c with
    | false => exact hb β1 H1 σ l st1 (f1.re rl1 re) Q h1
    | true => exact wpR_d rl1 (.bl _) h1
  · exact h1.elim
def eChain (f g : U → U → Sto → Res U) (a b c : ME) : ME := fun l st => (a l st).bind fun x st => (b l st).bind fun y st => (f x y st).bind fun z st => match z with
  | .d (.bool k) => if k = true then (c l st).bind fun w st => g y w st else .ok (.d (.bool false)) st
  | _ => .no
theorem s_chain {r r' : R2} {f g : U → U → Sto → Res U} {ta tb tc : TE} {a b c : ME} (hr : SimR G r f) (hr' : SimR G r' g) (ha : SimE G ta a) (hb : SimE G tb b) (hc : SimE G tc c) : SimE G (tChain r r' ta tb tc) (eChain f g a b c) := fun β H σ l st re Q h => by
  refine ha β H σ l st re _ (wpR_bind h fun v x H1 β1 st1 f1 rl1 p1 h1 => ?_)
  have re1 := f1.re rl1 re
  refine hb β1 H1 σ l st1 re1 _ (wpR_bind h1 fun w y H2 β2 st2 f2 rl2 p2 h2 => ?_)
  have re2 := f2.re rl2 re1
  refine hr β2 H2 σ l st2 re2 v w x y _ (f2.ru p1) p2 (wpR_bind h2 fun z k H3 β3 st3 f3 rl3 p3 h3 => ?_)
  split at h3
  · rename_i k
    cases ru_bool p3
    refine ⟨k, rfl, ?_⟩
    cases k with
    | false => exact wpR_d rl3 (.bl _) h3
    | true =>
      have re3 := f3.re rl3 re2
      refine hc β3 H3 σ l st3 re3 _ (wpR_bind h3 fun w' y' H4 β4 st4 f4 rl4 p4 h4 => ?_)
      exact hr' β4 H4 σ l st4 (f4.re rl4 re3) w w' y y' Q (f4.ru (f3.ru p2)) p4 h4
  · exact h3.elim
def aNil : MA := fun _ st => .ok [] st
def aCons (a : ME) (r : MA) : MA := fun l st => (a l st).bind fun u st => (r l st).bind fun us st => .ok (u :: us) st
theorem s_nil : SimA G tNil aNil := fun β H σ l st re Q h => h [] H β Fut.refl re.rl .nil
theorem s_cons {t : TE} {ta : TA} {a : ME} {r : MA} (ha : SimE G t a) (hr : SimA G ta r) : SimA G (tCons t ta) (aCons a r) := fun β H σ l st re Q h => by
  refine ha β H σ l st re _ (wpR_bind h fun v x H1 β1 st1 f1 rl1 p1 h1 => ?_)
  refine hr β1 H1 σ l st1 (f1.re rl1 re) _ (wpR_bind h1 fun w y H2 β2 st2 f2 rl2 p2 h2 => ?_)
  exact h2 (v :: w) H2 β2 Fut.refl rl2 (.cons (f2.ru p1) p2)
def treesOf : List U → Option (List PyData)
  | [] => some []
  | .d x :: us => (treesOf us).map (x :: ·)
  | _ :: _ => none
theorem trees_r : ∀ {vs : List V} {us : List U} {ds : List PyData}, Paired (fun v u => RU G β (Ban G β st) H v u) vs us → treesOf us = some ds → RTs G.K (Ban G β st) H vs ds
  | _, [], ds, .nil, e => by cases e; exact .nil
  | _, .d x :: us, ds, .cons h t, e => by
    have e' : (treesOf us).map (x :: ·) = some ds := e
    cases q : treesOf us with
    | none => rw [q] at e'; cases e'
    | some es =>
      rw [q] at e'; cases e'
      exact .cons h (trees_r t q)
  | _, .ref i :: us, ds, .cons h t, e => by cases e
  | _, .flow :: us, ds, .cons h t, e => by cases e
  | _, .scr _ :: us, ds, .cons h t, e => by cases e
theorem Rl.tupB (rl : Rl G β H st) {p : Addr} {vs : List V} (h : Rd H p (.tup vs)) : ¬ Ban G β st p := fun z => rl.banNoTup z vs h
def lenOk (n : Nat) : Bool := decide (n ≤ sizeLine)
def eTup (a : MA) : ME := fun l st => (a l st).bind fun us st => match treesOf us with
  | some ds => if lenOk ds.length = true then .ok (.d (.tuple ds)) st else .no
  | none => .no
theorem new_tup (rl : Rl G β H st) {vs : List V} {ds : List PyData} {p : Addr} (hp : H p = none) (r : RTs G.K (Ban G β st) H vs ds) : Fut G β st H β st (upd H p (.tup vs)) ∧ Rl G β (upd H p (.tup vs)) st ∧ RT G.K (Ban G β st) (upd H p (.tup vs)) (.ref p) (.tuple ds) := by
  have f : Fut G β st H β st (upd H p (.tup vs)) := Fut.new hp
  exact ⟨f, rl.new hp, .tup (.inl ⟨.inl upd_same, rl.notBan hp⟩) (f.rts r)⟩
theorem new_lst (rl : Rl G β H st) {vs : List V} {ds : List PyData} {p : Addr} (hp : H p = none) (r : RTs G.K (Ban G β st) H vs ds) : Fut G β st H β st (upd H p (.lst vs)) ∧ Rl G β (upd H p (.lst vs)) st ∧ RT G.K (Ban G β st) (upd H p (.lst vs)) (.ref p) (.list ds) := by
  have f : Fut G β st H β st (upd H p (.lst vs)) := Fut.new hp
  exact ⟨f, rl.new hp, .lst ⟨upd_same, rl.notBan hp⟩ (f.rts r)⟩
theorem s_tup {ta : TA} {a : MA} (ha : SimA G ta a) : SimE G (tTup ta) (eTup a) := fun β H σ l st re Q h => by
  refine ha β H σ l st re _ (wpR_bind h fun vs us H1 β1 st1 f1 rl1 p1 h1 => ?_)
  split at h1
  · rename_i ds e
    split at h1
    · rename_i q
      have r := trees_r p1 e
      refine ⟨by rw [r.len]; exact of_decide_eq_true q, fun p hp => ?_⟩
      obtain ⟨f, rl', rt⟩ := new_tup rl1 hp r
      exact h1 _ _ β1 f rl' rt
    · exact h1.elim
  · exact h1.elim
def wpN (G : Gx) (β : List Addr) (H : Hp) (σ : L2.St) (st : Sto) (r : Res (List PyData)) (Q : VK) : Prop := match r with
  | .ok xs st' => ∀ H' β', Fut G β st H β' st' H' → Rl G β' H' st' → ∀ p vs, H' p = none → RTs G.K (Ban G β' st') H' vs xs → Q (.ref p) (upd H' p (.lst vs))
  | .ex e st' => ∀ cv dx H' β', Fut G β st H β' st' H' → Rl G β' H' st' → ExR G (Ban G β' st') H' e cv dx → G.W cv dx σ H'
  | .no => False
def SimN (G : Gx) (t : TE) (m : ML) : Prop := ∀ β H σ l st, Re G β H σ l st → ∀ Q, wpN G β H σ st (m l st) Q → t σ H Q
def eFrz (m : ML) : ME := fun l st => (m l st).bind fun xs st => .ok (.d (.list xs)) st
def eOwn (m : ML) : ME := fun l st => (m l st).bind fun xs st => .ok (.ref st.obs.length) (st.add xs)
theorem s_frz {t : TE} {m : ML} (h : SimN G t m) : SimE G t (eFrz m) := fun β H σ l st re Q q => by
  refine h β H σ l st re Q ?_
  unfold eFrz at q
  cases e : m l st with
  | no => rw [e] at q; exact q
  | ex x st' => rw [e] at q; exact q
  | ok xs st' =>
    rw [e] at q
    intro H' β' f rl p vs hp r
    obtain ⟨f2, rl2, rt⟩ := new_lst rl hp r
    exact q _ _ β' (f.trans f2) rl2 rt
theorem s_own {t : TE} {m : ML} (h : SimN G t m) : SimE G t (eOwn m) := fun β H σ l st re Q q => by
  refine h β H σ l st re Q ?_
  unfold eOwn at q
  cases e : m l st with
  | no => rw [e] at q; exact q
  | ex x st' => rw [e] at q; exact q
  | ok xs st' =>
    rw [e] at q
    intro H' β' f rl p vs hp r
    obtain ⟨f2, rl2⟩ := add_own rl hp r
    refine q _ _ (β' ++ [p]) (f.trans f2) rl2 ⟨p, ?_, rfl⟩
    rw [← rl.len]; simp
theorem wpN_bind {α γ : Type} {P : List Addr → Sto → Hp → γ → α → Prop} {r : Res α} {k : α → Sto → Res (List PyData)} {Q : VK}
    (h : wpN G β H σ st (r.bind k) Q) {R : γ → Hp → Prop} (hk : ∀ v a H' β' st', Fut G β st H β' st' H' → Rl G β' H' st' → P β' st' H' v a → wpN G β' H' σ st' (k a st') Q → R v H') : wpR G β H σ st P r R := by
  cases r with
  | ok a st' =>
    intro v H' β' f rl p
    refine hk v a H' β' st' f rl p ?_
    have h' : wpN G β H σ st (k a st') Q := h
    cases e : k a st' with
    | ok b st'' => rw [e] at h'; exact fun H'' β'' f' rl' => h' H'' β'' (f.trans f') rl'
    | ex x st'' => rw [e] at h'; exact fun cv dx H'' β'' f' rl' p' => h' cv dx H'' β'' (f.trans f') rl' p'
    | no => rw [e] at h'; exact h'
  | ex e st' => exact h
  | no => exact h
def lDisp (a : MA) : ML := fun l st => (a l st).bind fun us st => match treesOf us with
  | some ds => if lenOk ds.length = true then .ok ds st else .no
  | none => .no
theorem n_disp {ta : TA} {a : MA} (ha : SimA G ta a) : SimN G (tLst ta) (lDisp a) := fun β H σ l st re Q h => by
  refine ha β H σ l st re _ (wpN_bind h fun vs us H1 β1 st1 f1 rl1 p1 h1 => ?_)
  split at h1
  · rename_i ds e
    split at h1
    · rename_i q
      have r := trees_r p1 e
      exact ⟨by rw [r.len]; exact of_decide_eq_true q, fun p hp => h1 H1 β1 Fut.refl rl1 p vs hp r⟩
    · exact h1.elim
  · exact h1.elim
def idxN (n : Nat) (i : Int) : Option Nat := if 0 ≤ i then (if i < n then some i.toNat else none) else if -(n : Int) ≤ i then some (i + n).toNat else none
theorem ixN_eq (n : Nat) (i : Int) : ixN n i = idxN n i := rfl
theorem rts_atI {xs : List PyData} {vs : List V} {B : Addr → Prop} {i : Int} {j : Nat} {x : PyData} (r : RTs G.K B H vs xs) (h : idxN xs.length i = some j) (hx : xs[j]? = some x) : ∃ v, atI vs i = some v ∧ RT G.K B H v x := by
  obtain ⟨v, h1, h2⟩ := r.get hx
  refine ⟨v, ?_, h2⟩
  unfold atI
  rw [r.len, ixN_eq, h]
  exact h1
def strAt (z : Str) (i : Int) : Option Str := if decide (z.length ≤ sizeLine) = true then (atI z.cps.toList i).map fun c => ⟨#[c]⟩ else none
def flAt (f : Fl) (i : Int) : Option U := if i = 0 then some (.scr f.cells) else if i = 1 then some (.d (.int f.place)) else if i = 2 then some (.d (.int f.held)) else if i = 3 then some (.d (.int f.seed)) else if i = 4 then some (.d (.int f.many)) else none
theorem flAt_r (rl : Rl G β H st) {f : Fl} (hf : st.fl = some f) {i : Int} {u : U} (h : flAt f i = some u) : ∃ v, atI (flV G.fb f) i = some v ∧ RU G β (Ban G β st) H v u := by
  obtain ⟨⟨a, b⟩, _⟩ := rl.flo f hf
  unfold flAt at h
  split at h
  · rename_i e; subst e; cases h
    exact ⟨.ref G.fb, rfl, _, rfl, .inl ⟨.inl b.1, b.2⟩⟩
  · split at h
    · rename_i e; subst e; cases h; exact ⟨_, rfl, .int _⟩
    · split at h
      · rename_i e; subst e; cases h; exact ⟨_, rfl, .int _⟩
      · split at h
        · rename_i e; subst e; cases h; exact ⟨_, rfl, .int _⟩
        · split at h
          · rename_i e; subst e; cases h; exact ⟨_, rfl, .int _⟩
          · cases h
def fIx : U → U → Sto → Res U := fun a b st => match b with
  | .d (.int i) => (match a with
    | .flow => (match st.fl with
      | some f => (match flAt f i with
        | some u => .ok u st
        | none => .no)
      | none => .no)
    | .scr ns => (match (idxN ns.length i).bind fun j => ns[j]? with
      | some x => .ok (.d (.int x)) st
      | none => .no)
    | .d (.str z) => (match strAt z i with
      | some y => .ok (.d (.str y)) st
      | none => .no)
    | _ => (match seqOf st a with
      | some xs => (match (idxN xs.length i).bind fun j => xs[j]? with
        | some x => .ok (.d x) st
        | none => .no)
      | none => .no))
  | _ => .no
theorem r_ix : SimR G (rIx G.K) fIx := fun β H σ l st re x y a b Q hx hy h => by
  unfold fIx at h
  split at h
  · rename_i i
    cases ru_int hy
    split at h
    · split at h
      · rename_i f hf
        split at h
        · rename_i u e
          obtain ⟨v, h1, h2⟩ := flAt_r re.rl hf e
          cases (show x = .ref G.fa from hx)
          exact .inl ⟨G.fa, _, i, v, rfl, rfl, SqL.of (re.rl.flo f hf).1.here, h1, wpR_u re.rl h2 h⟩
        · exact h.elim
      · exact h.elim
    · rename_i ns
      split at h
      · rename_i w e2
        obtain ⟨p, rfl, s⟩ := hx
        cases e3 : idxN ns.length i with
        | none => rw [e3] at e2; cases e2
        | some j =>
          rw [e3] at e2
          refine .inl ⟨p, _, i, .int w, rfl, rfl, s.q, ?_, wpR_d re.rl (.int _) h⟩
          unfold atI
          rw [List.length_map, ixN_eq, e3]
          show (ns.map V.int)[j]? = _
          rw [List.getElem?_map, show ns[j]? = some w from e2]; rfl
      · exact h.elim
    · rename_i z
      cases ru_str hx
      unfold strAt at h
      split at h
      · rename_i y e
        split at e
        · rename_i q
          cases e2 : atI z.cps.toList i with
          | none => rw [e2] at e; cases e
          | some c =>
            rw [e2] at e; cases e
            exact .inr (.inr ⟨z, i, c, rfl, rfl, of_decide_eq_true q, e2, wpR_d re.rl (.str _) h⟩)
        · cases e
      · exact h.elim
    · split at h
      · rename_i xs e
        split at h
        · rename_i w e2
          obtain ⟨p, vs, rfl, s, r⟩ := seq_q re.rl hx e
          cases e3 : idxN xs.length i with
          | none => rw [e3] at e2; cases e2
          | some j =>
            rw [e3] at e2
            obtain ⟨v, h1, h2⟩ := rts_atI r e3 e2
            rcases s with s | s
            · exact .inl ⟨p, vs, i, v, rfl, rfl, s, h1, wpR_d re.rl h2 h⟩
            · exact .inr (.inl ⟨p, vs, i, v, rfl, rfl, s, h1, wpR_d re.rl h2 h⟩)
        · exact h.elim
      · exact h.elim
  · exact h.elim
abbrev MO := Loc → Sto → Res (Option Int)
def PO' : List Addr → Sto → Hp → Option Int → Option Int → Prop := fun _ _ _ a b => a = b
def SimO (G : Gx) (t : TO) (m : MO) : Prop := ∀ β H σ l st, Re G β H σ l st → ∀ Q, wpR G β H σ st PO' (m l st) Q → t σ H Q
def oNone : MO := fun _ st => .ok none st
def oSome (m : ME) : MO := fun l st => (m l st).bind fun u st => match u with
  | .d (.int i) => .ok (some i) st
  | _ => .no
theorem s_oNone : SimO G tNoPart oNone := fun β H σ l st re Q h => h none H β Fut.refl re.rl rfl
theorem s_oSome {t : TE} {m : ME} (h : SimE G t m) : SimO G (tPart t) (oSome m) := fun β H σ l st re Q q => by
  refine h β H σ l st re _ (wpR_bind q fun v u H1 β1 st1 f1 rl1 p1 h1 => ?_)
  split at h1
  · cases ru_int p1
    exact ⟨_, rfl, h1 _ H1 β1 Fut.refl rl1 rfl⟩
  · exact h1.elim
def cutD (xs : List PyData) (lo hi : Option Int) : List PyData := (xs.drop (HT.sIx xs.length 0 lo)).take (HT.sIx xs.length xs.length hi - HT.sIx xs.length 0 lo)
theorem RTs.cut {B : Addr → Prop} {K : PySem.W.Frag} {xs : List PyData} {vs : List V} (r : RTs K B H vs xs) (lo hi : Option Int) : RTs K B H (cutV vs lo hi) (cutD xs lo hi) := by
  unfold cutV cutD
  rw [r.len]
  exact (r.drop _).take _
theorem cut_whole {xs : List PyData} {lo hi : Option Int} (h : HT.sIx xs.length 0 lo = 0 ∧ HT.sIx xs.length xs.length hi = xs.length) : cutD xs lo hi = xs := by
  unfold cutD
  rw [h.1, h.2]; simp
end
end NW
namespace NW
open PySem PySem.Spec PyProof.Rows L2
def Gx.ban (G : Gx) (D : Addr) : Gx := { G with O0 := fun p => G.O0 p ∨ p = D }
def wpS (G : Gx) (β : List Addr) (H : Hp) (st : Sto) (o : Out) (D : Ends) : Prop := match o with
  | .nx l' st' => ∀ σ' H' β', Fut G β st H β' st' H' → Re G β' H' σ' l' st' → D.nx σ' H'
  | .bk l' st' => ∀ σ' H' β', Fut G β st H β' st' H' → Re G β' H' σ' l' st' → D.bk σ' H'
  | .ct l' st' => ∀ σ' H' β', Fut G β st H β' st' H' → Re G β' H' σ' l' st' → D.ct σ' H'
  | .rt u st' => ∀ v H' β', Fut G β st H β' st' H' → Rl G β' H' st' → RU G β' (Ban G β' st') H' v u → D.rt v H'
  | .ex e l' st' => ∀ cv dx σ' H' β', Fut G β st H β' st' H' → Re G β' H' σ' l' st' → ExR G (Ban G β' st') H' e cv dx → G.W cv dx σ' H'
  | .no => False
def SimS (G : Gx) (t : TS) (m : MS) : Prop := ∀ β H σ l st, Re G β H σ l st → ∀ D, wpS G β H st (m l st) D → t D σ H
def Res.out {α : Type} (r : Res α) (l : Loc) (k : α → Sto → Out) : Out := match r with
  | .ok a s => k a s
  | .ex e s => .ex e l s
  | .no => .no
def Out.seq (o : Out) (k : Loc → Sto → Out) : Out := match o with
  | .nx l st => k l st
  | o => o
section
variable {G : Gx} {β β' : List Addr} {st st' : Sto} {H H' : Hp} {v : V} {u : U} {σ σ' : L2.St} {l l' : Loc} {D : Ends}
theorem wpS_fut {o : Out} (f : Fut G β st H β' st' H') (h : wpS G β H st o D) : wpS G β' H' st' o D := by
  cases o with
  | nx l s => exact fun a b c d => h a b c (f.trans d)
  | bk l s => exact fun a b c d => h a b c (f.trans d)
  | ct l s => exact fun a b c d => h a b c (f.trans d)
  | rt u s => exact fun a b c d => h a b c (f.trans d)
  | ex e l s => exact fun a b c d e' f' => h a b c d e' (f.trans f')
  | no => exact h
theorem wpS_nx (re : Re G β H σ l st) (h : wpS G β H st (.nx l st) D) : D.nx σ H := h σ H β Fut.refl re
theorem wpS_res {α γ : Type} {P : List Addr → Sto → Hp → γ → α → Prop} {r : Res α} {k : α → Sto → Out} {R : γ → Hp → Prop} (re : Re G β H σ l st) (h : wpS G β H st (r.out l k) D)
    (hk : ∀ v a H' β' st', Fut G β st H β' st' H' → Rl G β' H' st' → P β' st' H' v a → wpS G β' H' st' (k a st') D → R v H') : wpR G β H σ st P r R := by
  cases r with
  | ok a st' => exact fun v H' β' f rl p => hk v a H' β' st' f rl p (wpS_fut f h)
  | ex e st' => exact fun cv dx H' β' f rl x => h cv dx σ H' β' f (f.re rl re) x
  | no => exact h
theorem wpS_seq {o : Out} {k : Loc → Sto → Out} {N : L2.St → Hp → Prop} (h : wpS G β H st (o.seq k) D) (hk : ∀ σ' H' β' l' st', Fut G β st H β' st' H' → Re G β' H' σ' l' st' → wpS G β' H' st' (k l' st') D → N σ' H') : wpS G β H st o { D with nx := N } := by
  cases o with
  | nx l' s => exact fun σ' H' β' f re => hk σ' H' β' l' s f re (wpS_fut f h)
  | bk l s => exact h
  | ct l s => exact h
  | rt u s => exact h
  | ex e l s => exact h
  | no => exact h
theorem RLoc.set {B : Addr → Prop} (h : RLoc G β B H σ l) (i : Nat) (r : RU G β B H v u) : RLoc G β B H (σ.set i (some v)) (l.set i (some u)) := by
  refine ⟨by rw [List.length_set, List.length_set, h.len], fun j w e => ?_⟩
  by_cases hj : j = i
  · subst hj
    have hl : j < l.length := by
      have := (List.getElem?_eq_some_iff.mp e).1
      rw [List.length_set] at this; exact this
    rw [List.getElem?_set_self hl] at e
    cases e
    exact ⟨v, by rw [List.getElem?_set_self (by rw [h.len]; exact hl)], r⟩
  · rw [List.getElem?_set_ne (Ne.symm hj)] at e
    rw [List.getElem?_set_ne (Ne.symm hj)]
    exact h.at_ j w e
def sNext : MS := fun l st => .nx l st
theorem t_next : SimS G tNext sNext := fun β H σ l st re D h => wpS_nx re h
def sSeq (a b : MS) : MS := fun l st => (a l st).seq b
theorem t_seq {t u : TS} {a b : MS} (ha : SimS G t a) (hb : SimS G u b) : SimS G (tSeq t u) (sSeq a b) := fun β H σ l st re D h =>
  ha β H σ l st re _ (wpS_seq h fun σ' H' β' l' st' f re' h' => hb β' H' σ' l' st' re' D h')
def sAsg (i : Nat) (m : ME) : MS := fun l st => (m l st).out l fun u st => .nx (l.set i (some u)) st
theorem t_asg {i : Nat} {t : TE} {m : ME} (h : SimE G t m) : SimS G (tAsg t (gName i)) (sAsg i m) := fun β H σ l st re D q =>
  h β H σ l st re _ (wpS_res re q fun v u H' β' st' f rl p q' => wpS_nx ⟨rl, (f.re rl re).lo.set i p⟩ q')
def sDrop (m : ME) : MS := fun l st => (m l st).out l fun _ st => .nx l st
theorem t_drop {t : TE} {m : ME} (h : SimE G t m) : SimS G (tDrop t) (sDrop m) := fun β H σ l st re D q =>
  h β H σ l st re _ (wpS_res re q fun v u H' β' st' f rl p q' => wpS_nx (f.re rl re) q')
def sRet (m : ME) : MS := fun l st => (m l st).out l fun u st => .rt u st
theorem t_ret {t : TE} {m : ME} (h : SimE G t m) : SimS G (tRet t) (sRet m) := fun β H σ l st re D q =>
  h β H σ l st re _ (wpS_res re q fun v u H' β' st' f rl p q' => q' v H' β' Fut.refl rl p)
def sIf (c : MB) (a b : MS) : MS := fun l st => (c l st).out l fun k st => if k = true then a l st else b l st
theorem t_if {c : TT} {t u : TS} {k : MB} {a b : MS} (hc : SimT G c k) (ha : SimS G t a) (hb : SimS G u b) : SimS G (tIfS c t u) (sIf k a b) := fun β H σ l st re D q => by
  refine hc β H σ l st re _ (wpS_res re q fun v w H' β' st' f rl p q' => ?_)
  cases (show v = w from p)
  cases v with
  | true => exact ha β' H' σ l st' (f.re rl re) D q'
  | false => exact hb β' H' σ l st' (f.re rl re) D q'
def sPar (i j : Nat) (a : MA) : MS := fun l st => (a l st).out l fun us st => match us with
  | [u, w] => .nx ((l.set i (some u)).set j (some w)) st
  | _ => .no
theorem t_par {i j : Nat} {ta : TA} {a : MA} (h : SimA G ta a) : SimS G (tPar i j ta) (sPar i j a) := fun β H σ l st re D q => by
  refine h β H σ l st re _ (wpS_res re q fun vs us H' β' st' f rl p q' => ?_)
  split at q'
  · rename_i u w
    have p' : Paired (fun v u => RU G β' (Ban G β' st') H' v u) vs [u, w] := p
    cases p' with
    | cons r1 p2 =>
      cases p2 with
      | cons r2 p3 =>
        cases p3
        exact ⟨_, _, rfl, wpS_nx ⟨rl, ((f.re rl re).lo.set i r1).set j r2⟩ q'⟩
  · exact q'.elim
abbrev MT := U → Loc → Sto → Res Loc
def PL (G : Gx) (σ0 : L2.St) (vs : List Nat) : List Addr → Sto → Hp → L2.St → Loc → Prop := fun β st H σ l => RLoc G β (Ban G β st) H σ l ∧ σ.length = σ0.length ∧ ∀ i, i ∉ vs → σ[i]? = σ0[i]?
def SimG (G : Gx) (vs : List Nat) (g : TG) (m : MT) : Prop := ∀ β H σ l st, Re G β H σ l st → ∀ v u, RU G β (Ban G β st) H v u → ∀ Q : L2.St → Hp → Prop, wpR G β H σ st (PL G σ vs) (m u l st) Q → g v σ H Q
def gNameM (i : Nat) : MT := fun u l st => .ok (l.set i (some u)) st
theorem g_name (i : Nat) : SimG G [i] (gName i) (gNameM i) := fun β H σ l st re v u r Q h =>
  h (σ.set i (some v)) H β Fut.refl re.rl ⟨re.lo.set i r, by rw [List.length_set], fun j hj => by
    rw [List.getElem?_set_ne]
    intro e; subst e; exact hj (by simp)⟩
abbrev MTs := List PyData → Loc → Sto → Res Loc
def SimGs (G : Gx) (vs : List Nat) (g : TGs) (m : MTs) : Prop := ∀ β H σ l st, Re G β H σ l st → ∀ xs ds, RTs G.K (Ban G β st) H xs ds → ∀ Q : L2.St → Hp → Prop, wpR G β H σ st (PL G σ vs) (m ds l st) Q → g xs σ H Q
def gNilM : MTs := fun ds l st => match ds with | [] => .ok l st | _ => .no
def gConsM (t : MT) (r : MTs) : MTs := fun ds l st => match ds with
  | d :: ds => (t (.d d) l st).bind fun l st => r ds l st
  | [] => .no
theorem g_nil : SimGs G [] gNil gNilM := fun β H σ l st re xs ds r Q h => by
  cases ds with
  | nil => cases r; exact ⟨rfl, h σ H β Fut.refl re.rl ⟨re.lo, rfl, fun _ _ => rfl⟩⟩
  | cons d ds => exact False.elim h
theorem wpR_mono {α γ : Type} {P P' : List Addr → Sto → Hp → γ → α → Prop} {r : Res α} {Q : γ → Hp → Prop} (h : wpR G β H σ st P r Q) (k : ∀ β' st' H' v a, Fut G β st H β' st' H' → P' β' st' H' v a → P β' st' H' v a) : wpR G β H σ st P' r Q := by
  cases r with
  | ok a s => exact fun v H' β' f rl p => h v H' β' f rl (k _ _ _ _ _ f p)
  | ex e s => exact h
  | no => exact h
def Res.noEx {α : Type} : Res α → Prop
  | .ex _ _ => False
  | _ => True
theorem wpR_noEx {α γ : Type} {P : List Addr → Sto → Hp → γ → α → Prop} {r : Res α} {Q : γ → Hp → Prop} (n : r.noEx) (h : wpR G β H σ st P r Q) : wpR G β H σ' st P r Q := by
  cases r with
  | ok a s => exact h
  | ex e s => exact n.elim
  | no => exact h
theorem g_cons {vs ws : List Nat} {g : TG} {gs : TGs} {t : MT} {r : MTs} (h1 : SimG G vs g t) (h2 : SimGs G ws gs r) (ne : ∀ ds l st, (r ds l st).noEx) : SimGs G (vs ++ ws) (gCons g gs) (gConsM t r) := fun β H σ l st re xs ds q Q h => by
  cases ds with
  | nil => exact False.elim h
  | cons d ds =>
    cases q with
    | cons q1 q2 =>
      refine ⟨_, _, rfl, h1 β H σ l st re _ (.d d) q1 _ (wpR_bind h fun σ1 l1 H1 β1 st1 f1 rl1 p1 k1 => ?_)⟩
      refine h2 β1 H1 σ1 l1 st1 ⟨rl1, p1.1⟩ _ ds (f1.rts q2) Q (wpR_mono (wpR_noEx (ne _ _ _) k1) fun β' st' H' σ2 l2 f p => ⟨p.1, p.2.1.trans p1.2.1, fun i hi => ?_⟩)
      rw [List.mem_append, not_or] at hi
      exact (p.2.2 i hi.2).trans (p1.2.2 i hi.1)
def gTupM (n : Nat) (r : MTs) : MT := fun u l st => match u with
  | .d (.tuple xs) => if xs.length = n then r xs l st else .no
  | _ => .no
theorem g_tup {vs : List Nat} {n : Nat} {gs : TGs} {r : MTs} (h : SimGs G vs gs r) : SimG G vs (gTup G.K n gs) (gTupM n r) := fun β H σ l st re v u q Q hw => by
  unfold gTupM at hw
  split at hw
  · rename_i xs
    split at hw
    · rename_i e
      obtain ⟨p, ws, rfl, s, r'⟩ := tup_q q (xs := xs) rfl
      exact ⟨p, ws, rfl, s, by rw [r'.len]; exact e, h β H σ l st re ws xs r' Q hw⟩
    · exact hw.elim
  · exact hw.elim
theorem gName_noEx (i : Nat) (u : U) (l : Loc) (st : Sto) : (gNameM i u l st).noEx := trivial
theorem gNil_noEx (ds : List PyData) (l : Loc) (st : Sto) : (gNilM ds l st).noEx := by unfold gNilM; split <;> trivial
theorem gCons_noEx {t : MT} {r : MTs} (h1 : ∀ u l st, (t u l st).noEx) (h2 : ∀ ds l st, (r ds l st).noEx) (ds : List PyData) (l : Loc) (st : Sto) : (gConsM t r ds l st).noEx := by
  unfold gConsM
  cases ds with
  | nil => trivial
  | cons d ds =>
    show ((t (.d d) l st).bind fun l st => r ds l st).noEx
    have q := h1 (.d d) l st
    cases e : t (.d d) l st with
    | ok l' s' => exact h2 ds l' s'
    | ex x s' => rw [e] at q; exact q
    | no => trivial
theorem gTup_noEx {n : Nat} {r : MTs} (h : ∀ ds l st, (r ds l st).noEx) (u : U) (l : Loc) (st : Sto) : (gTupM n r u l st).noEx := by
  unfold gTupM
  split
  · split
    · exact h _ _ _
    · trivial
  · trivial
def sAsgG (m : ME) (t : MT) : MS := fun l st => (m l st).out l fun u st => (t u l st).out l fun l' st => .nx l' st
theorem t_asgG {vs : List Nat} {t : TE} {m : ME} {g : TG} {mt : MT} (h : SimE G t m) (hg : SimG G vs g mt) : SimS G (tAsg t g) (sAsgG m mt) := fun β H σ l st re D q =>
  h β H σ l st re _ (wpS_res re q fun v u H' β' st' f rl p q' => by
    have re' := f.re rl re
    exact hg β' H' σ l st' re' v u p _ (wpS_res re' q' fun σ2 l2 H2 β2 st2 f2 rl2 p2 q2 => wpS_nx ⟨rl2, p2.1⟩ q2))
def flPut (f : Fl) (i x : Int) : Option Fl := if i = 1 then some { f with place := x } else if i = 2 then some { f with held := x } else if i = 3 then some { f with seed := x } else if i = 4 then some { f with many := x } else none
theorem flPut_v {fb : Addr} {f f' : Fl} {i x : Int} (h : flPut f i x = some f') : ∃ n, ixN 5 i = some n ∧ (flV fb f).set n (.int x) = flV fb f' ∧ f'.cells = f.cells := by
  unfold flPut at h
  split at h
  · rename_i e; subst e; cases h; exact ⟨1, rfl, rfl, rfl⟩
  · split at h
    · rename_i e; subst e; cases h; exact ⟨2, rfl, rfl, rfl⟩
    · split at h
      · rename_i e; subst e; cases h; exact ⟨3, rfl, rfl, rfl⟩
      · split at h
        · rename_i e; subst e; cases h; exact ⟨4, rfl, rfl, rfl⟩
        · cases h
def gSubM (o i : ME) : MT := fun u l st => (o l st).bind fun ou st => (i l st).bind fun iu st => match ou, iu, u with
  | .flow, .d (.int j), .d (.int x) => (match st.fl with
    | some f => (match flPut f j x with
      | some f' => .ok l { st with fl := some f' }
      | none => .no)
    | none => .no)
  | .ref k, .d (.int j), .d y => (match st.obs[k]? with
    | some (.lst xs) => (match idxN xs.length j with
      | some n => .ok l (st.put k (xs.set n y))
      | none => .no)
    | _ => .no)
  | _, _, _ => .no
theorem g_sub {to ti : TE} {o i : ME} (ho : SimE G to o) (hi : SimE G ti i) : SimG G [] (gSub to ti rSetL) (gSubM o i) := fun β H σ l st re v u r Q h => by
  refine ho β H σ l st re _ (wpR_bind h fun ov ou H1 β1 st1 f1 rl1 p1 h1 => ?_)
  have re1 := f1.re rl1 re
  refine hi β1 H1 σ l st1 re1 _ (wpR_bind h1 fun iv iu H2 β2 st2 f2 rl2 p2 h2 => ?_)
  have re2 := f2.re rl2 re1
  have r2 := f2.ru (f1.ru r)
  split at h2
  · rename_i j x
    cases ru_int p2
    cases ru_int r2
    split at h2
    · rename_i f hf
      split at h2
      · rename_i f' hp
        cases (show ov = .ref G.fa from f2.ru p1)
        obtain ⟨⟨a, b⟩, _⟩ := rl2.flo f hf
        obtain ⟨n, e1, e2, e3⟩ := flPut_v (fb := G.fb) hp
        refine ⟨G.fa, _, j, n, rfl, rfl, a, e1, ?_⟩
        obtain ⟨f3, rl3⟩ := flow_end (H' := upd H2 G.fa (.lst ((flV G.fb f).set n (.int x)))) rl2 hf (fun b o hb ne => by rw [upd_ne ne]; exact hb) (by rw [upd_same, e2]) e3
        exact h2 σ _ β2 f3 rl3 ⟨f3.rloc re2.lo, rfl, fun _ _ => rfl⟩
      · exact h2.elim
    · exact h2.elim
  · rename_i k j y
    cases ru_int p2
    split at h2
    · rename_i xs e
      split at h2
      · rename_i n en
        obtain ⟨p, e1, rfl⟩ := f2.ru p1
        obtain ⟨q, vs, a, b, c⟩ := rl2.ob k xs e
        rw [e1] at a; cases a
        refine ⟨p, vs, j, n, rfl, rfl, b, by rw [c.len, ixN_eq]; exact en, ?_⟩
        obtain ⟨f3, rl3⟩ := put_own rl2 e e1 (c.set n r2)
        exact h2 σ _ β2 f3 rl3 ⟨f3.rloc re2.lo, rfl, fun _ _ => rfl⟩
      · exact h2.elim
    · exact h2.elim
  · exact h2.elim
def whileN (c : MB) (b : MS) : Nat → Loc → Sto → Out
  | 0, _, _ => .no
  | n + 1, l, st => (c l st).out l fun k st => if k = true then (match b l st with
      | .nx l st => whileN c b n l st
      | .ct l st => whileN c b n l st
      | .bk l st => .nx l st
      | o => o) else .nx l st
theorem whileN_succ {c : MB} {b : MS} : ∀ {n : Nat} {l : Loc} {st : Sto}, whileN c b n l st ≠ .no → whileN c b (n + 1) l st = whileN c b n l st
  | 0, _, _, h => absurd rfl h
  | n + 1, l, st, h => by
    rw [whileN]
    conv => rhs; rw [whileN]
    rw [whileN] at h
    cases e : c l st with
    | ok k s =>
      rw [e] at h
      simp only [Res.out] at h ⊢
      split
      · rename_i hk
        rw [if_pos hk] at h
        cases e2 : b l s with
        | nx l2 s2 => rw [e2] at h; exact whileN_succ h
        | ct l2 s2 => rw [e2] at h; exact whileN_succ h
        | bk l2 s2 => rfl
        | rt u s2 => rfl
        | ex x l2 s2 => rfl
        | no => rfl
      · rfl
    | ex x s => rfl
    | no => rfl
theorem whileN_le {c : MB} {b : MS} {n m : Nat} {l : Loc} {st : Sto} (h : whileN c b n l st ≠ .no) (hm : n ≤ m) : whileN c b m l st = whileN c b n l st := by
  obtain ⟨k, rfl⟩ := Nat.le.dest hm
  induction k with
  | zero => rfl
  | succ k ih =>
    have e := ih (by omega)
    have h2 : whileN c b (n + k) l st ≠ .no := by rw [e]; exact h
    exact (whileN_succ h2).trans e
open Classical in
noncomputable def sWhile (c : MB) (b : MS) : MS := fun l st => if h : ∃ n, whileN c b n l st ≠ .no then whileN c b h.choose l st else .no
theorem sWhile_of {c : MB} {b : MS} {l : Loc} {st : Sto} {o : Out} (n : Nat) (h : whileN c b n l st = o) (hn : o ≠ .no) : sWhile c b l st = o := by
  have hx : ∃ n, whileN c b n l st ≠ .no := ⟨n, by rw [h]; exact hn⟩
  unfold sWhile
  rw [dif_pos hx]
  have h1 := hx.choose_spec
  rcases Nat.le_total n hx.choose with z | z
  · rw [whileN_le (by rw [h]; exact hn) z]; exact h
  · rw [← whileN_le h1 z]; exact h
theorem t_while {c : TT} {t : TS} {k : MB} {b : MS} (hc : SimT G c k) (hb : SimS G t b) : SimS G (tWhile c t) (sWhile k b) := fun β H σ l st re D q => by
  unfold sWhile at q
  split at q
  · rename_i hx
    refine ⟨fun m σ' H' => ∃ β' l' st', Re G β' H' σ' l' st' ∧ wpS G β' H' st' (whileN k b m l' st') D, ⟨_, β, l, st, re, q⟩, ?_⟩
    rintro m σ1 H1 ⟨β1, l1, st1, re1, q1⟩
    cases m with
    | zero => exact False.elim q1
    | succ m =>
      rw [whileN] at q1
      refine hc β1 H1 σ1 l1 st1 re1 _ (wpS_res re1 q1 fun x y H2 β2 st2 f2 rl2 p2 q2 => ?_)
      cases (show x = y from p2)
      have re2 := f2.re rl2 re1
      cases x with
      | false => exact wpS_nx re2 q2
      | true =>
        refine ⟨fun σ' H' => ∃ β' l' st', Re G β' H' σ' l' st' ∧ wpS G β' H' st' (whileN k b m l' st') D, fun σ' H' h => ⟨m, Nat.lt_succ_self m, h⟩, ?_⟩
        refine hb β2 H2 σ1 l1 st2 re2 _ ?_
        have q2' : wpS G β2 H2 st2 (match b l1 st2 with
          | .nx l st => whileN k b m l st
          | .ct l st => whileN k b m l st
          | .bk l st => .nx l st
          | o => o) D := q2
        cases e : b l1 st2 with
        | nx l3 s3 => rw [e] at q2'; exact fun σ' H' β' f re' => ⟨β', l3, s3, re', wpS_fut f q2'⟩
        | ct l3 s3 => rw [e] at q2'; exact fun σ' H' β' f re' => ⟨β', l3, s3, re', wpS_fut f q2'⟩
        | bk l3 s3 => rw [e] at q2'; exact q2'
        | rt u s3 => rw [e] at q2'; exact q2'
        | ex x l3 s3 => rw [e] at q2'; exact q2'
        | no => rw [e] at q2'; exact q2'
  · exact q.elim
structure ItD where
  items : List PyData
  own : List (Nat × List PyData)
def ItD.chk (d : ItD) (st : Sto) : Prop := ∀ p ∈ d.own, st.obs[p.1]? = some (Ob.lst p.2)
abbrev MI := Loc → Sto → Res ItD
def Gx.o (G : Gx) (O1 : Addr → Prop) : Gx := { G with O0 := O1 }
def ItR (G : Gx) (β0 : List Addr) (st0 : Sto) (H0 : Hp) (J : It) (d : ItD) : Prop := ∀ O1 : Addr → Prop, (∀ p, O1 p → G.O0 p ∨ H0 p = none) → ∀ β H st, Fut G β0 st0 H0 β st H → Rl (G.o O1) β H st → d.chk st → ∀ i,
  (∀ y, d.items[i]? = some y → J.go i H ∧ ∀ x H', J.yld i H x H' → (H' = H ∨ ∃ T ws, H T = none ∧ H' = upd H T (.tup ws)) ∧ RT G.K (Ban (G.o O1) β st) H' x y) ∧ (d.items.length ≤ i → J.stop i H)
def SimI (G : Gx) (wi : TI) (m : MI) : Prop := ∀ β H σ l st, Re G β H σ l st → ∀ R : It → Hp → Prop, wpR G β H σ st (fun β st H J d => ItR G β st H J d) (m l st) R → wi σ H R
open Classical in
noncomputable def forM (d : ItD) (t : MT) (b : MS) : List PyData → Loc → Sto → Out
  | [], l, st => if d.chk st then .nx l st else .no
  | x :: xs, l, st => if d.chk st then (t (.d x) l st).out l fun l st => (match b l st with
      | .nx l st => forM d t b xs l st
      | .ct l st => forM d t b xs l st
      | .bk l st => .nx l st
      | o => o) else .no
noncomputable def sFor (mi : MI) (t : MT) (b : MS) : MS := fun l st => (mi l st).out l fun d st => forM d t b d.items l st
theorem it_fut (rl : Rl G β H st) (h : H' = H ∨ ∃ T ws, H T = none ∧ H' = upd H T (.tup ws)) : Fut G β st H β st H' ∧ Rl G β H' st := by
  rcases h with rfl | ⟨T, ws, hT, rfl⟩
  · exact ⟨Fut.refl, rl⟩
  · exact ⟨Fut.new hT, rl.new hT⟩
theorem t_for {wi : TI} {g : TG} {t : TS} {vs : List Nat} {mi : MI} {mt : MT} {b : MS} (hi : SimI G wi mi) (hg : SimG G vs g mt) (hb : SimS G t b) : SimS G (tFor wi g t) (sFor mi mt b) := fun β H σ l st re D q => by
  refine hi β H σ l st re _ (wpS_res re q fun J d H1 β1 st1 f1 rl1 itr q1 => ?_)
  have re1 := f1.re rl1 re
  refine ⟨fun i m σ' H' => m = d.items.length - i ∧ ∃ β' l' st', Fut G β1 st1 H1 β' st' H' ∧ Re G β' H' σ' l' st' ∧ wpS G β' H' st' (forM d mt b (d.items.drop i) l' st') D, ⟨_, rfl, β1, l, st1, Fut.refl, re1, q1⟩, ?_⟩
  rintro i m σ2 H2 ⟨rfl, β2, l2, st2, f2, re2, q2⟩
  cases hd : d.items[i]? with
  | none =>
    have hl : d.items.length ≤ i := List.getElem?_eq_none_iff.mp hd
    rw [List.drop_eq_nil_of_le hl, forM] at q2
    split at q2
    · rename_i hk
      exact .inl ⟨(itr G.O0 (fun p h => .inl h) β2 H2 st2 f2 re2.rl hk i).2 hl, wpS_nx re2 q2⟩
    · exact q2.elim
  | some y =>
    obtain ⟨hlt, ey⟩ := List.getElem?_eq_some_iff.mp hd
    rw [List.drop_eq_getElem_cons hlt, ey, forM] at q2
    split at q2
    · rename_i hk
      obtain ⟨hgo, hy⟩ := (itr G.O0 (fun p h => .inl h) β2 H2 st2 f2 re2.rl hk i).1 y hd
      refine .inr ⟨hgo, fun σ' H' => ∃ β' l' st', Fut G β1 st1 H1 β' st' H' ∧ Re G β' H' σ' l' st' ∧ wpS G β' H' st' (forM d mt b (d.items.drop (i + 1)) l' st') D, fun σ' H' h => ⟨_, by omega, rfl, h⟩, fun x H3 hyl => ?_⟩
      obtain ⟨hc, rx⟩ := hy x H3 hyl
      obtain ⟨f3, rl3⟩ := it_fut re2.rl hc
      have re3 := f3.re rl3 re2
      refine hg β2 H3 σ2 l2 st2 re3 x (.d y) rx _ (wpS_res re3 (wpS_fut f3 q2) fun σ4 l4 H4 β4 st4 f4 rl4 p4 q4 => ?_)
      refine hb β4 H4 σ4 l4 st4 ⟨rl4, p4.1⟩ _ ?_
      have q4' : wpS G β4 H4 st4 (match b l4 st4 with
          | .nx l st => forM d mt b (d.items.drop (i + 1)) l st
          | .ct l st => forM d mt b (d.items.drop (i + 1)) l st
          | .bk l st => .nx l st
          | o => o) D := q4
      have ff := f2.trans (f3.trans f4)
      cases e : b l4 st4 with
      | nx l5 s5 => rw [e] at q4'; exact fun σ' H' β' f re' => ⟨β', l5, s5, ff.trans f, re', wpS_fut f q4'⟩
      | ct l5 s5 => rw [e] at q4'; exact fun σ' H' β' f re' => ⟨β', l5, s5, ff.trans f, re', wpS_fut f q4'⟩
      | bk l5 s5 => rw [e] at q4'; exact q4'
      | rt u s5 => rw [e] at q4'; exact q4'
      | ex x l5 s5 => rw [e] at q4'; exact q4'
      | no => rw [e] at q4'; exact q4'
    · exact q2.elim
end
end NW
namespace NW
open PySem PySem.Spec PyProof.Rows L2
section
variable {G : Gx} {β β' : List Addr} {st st' : Sto} {H H' : Hp} {v : V} {u : U} {σ σ' : L2.St} {l l' : Loc} {D : Ends}
theorem ban_o {O1 : Addr → Prop} (hO : ∀ p, O1 p → G.O0 p ∨ H p = none) {p : Addr} (n : ¬ Ban G β st p) (t : H p ≠ none) : ¬ Ban (G.o O1) β st p := by
  rintro (h | h)
  · rcases hO p h with z | z
    · exact n (.inl z)
    · exact t z
  · exact n (.inr h)
theorem rd_ne {H : Hp} {a : Addr} {u : HO} (h : Rd H a u) : H a ≠ none := by
  rcases h with h | ⟨o, h⟩ <;> rw [h] <;> simp
mutual
theorem RT.o {B B' : Addr → Prop} {K : PySem.W.Frag} (k : ∀ p, ¬ B p → H p ≠ none → ¬ B' p) : ∀ (d : PyData) (v : V), RT K B H v d → RT K B' H v d
  | .none, _, h => by cases h; exact .non
  | .bool b, _, h => by cases h; exact .bl b
  | .int i, _, h => by cases h; exact .int i
  | .str x, _, h => by cases h; exact .str x
  | .list ds, _, h => by
    cases h with
    | lst hs ha => exact .lst ⟨hs.1, k _ hs.2 (by rw [hs.1]; simp)⟩ (RTs.o k ds _ ha)
  | .tuple ds, _, h => by
    cases h with
    | tup hs ha => exact .tup (hs.imp (fun z => ⟨z.1, k _ z.2 (rd_ne z.1)⟩) id) (RTs.o k ds _ ha)
  | .dict _, _, h => by cases h
theorem RTs.o {B B' : Addr → Prop} {K : PySem.W.Frag} (k : ∀ p, ¬ B p → H p ≠ none → ¬ B' p) : ∀ (ds : List PyData) (vs : List V), RTs K B H vs ds → RTs K B' H vs ds
  | [], _, h => by cases h; exact .nil
  | d :: ds, _, h => by
    cases h with
    | cons h1 h2 => exact .cons (RT.o k d _ h1) (RTs.o k ds _ h2)
end
theorem fut_o {O1 : Addr → Prop} (f : Fut G β st H β' st' H') : Fut (G.o O1) β st H β' st' H' := ⟨f.ext, f.there, f.stay⟩
def SrcL (G : Gx) (β0 : List Addr) (st0 : Sto) (H0 : Hp) (p : Addr) (own : List (Nat × List PyData)) (xs : List PyData) : Prop := ∀ O1 : Addr → Prop, (∀ p, O1 p → G.O0 p ∨ H0 p = none) → ∀ β H st, Fut G β0 st0 H0 β st H → Rl (G.o O1) β H st →
  (∀ q ∈ own, st.obs[q.1]? = some (Ob.lst q.2)) → ∃ vs, SqL G.K H p vs ∧ RTs G.K (Ban (G.o O1) β st) H vs xs
def SrcT (G : Gx) (β0 : List Addr) (st0 : Sto) (H0 : Hp) (p : Addr) (xs : List PyData) : Prop := ∀ O1 : Addr → Prop, (∀ p, O1 p → G.O0 p ∨ H0 p = none) → ∀ β H st, Fut G β0 st0 H0 β st H → Rl (G.o O1) β H st →
  ∃ vs, SqT G.K H p vs ∧ RTs G.K (Ban (G.o O1) β st) H vs xs
theorem rt_o_fut {O1 : Addr → Prop} (hO : ∀ p, O1 p → G.O0 p ∨ H p = none) (f : Fut G β st H β' st' H') {vs : List V} {xs : List PyData} (r : RTs G.K (Ban G β st) H vs xs) : RTs G.K (Ban (G.o O1) β' st') H' vs xs :=
  (fut_o (O1 := O1) f).rts (RTs.o (B' := Ban (G.o O1) β st) (fun p n t => ban_o hO n t) _ _ r)
def srcOf (st : Sto) : U → Option (List PyData × List (Nat × List PyData))
  | .d (.list xs) => some (xs, [])
  | .d (.tuple xs) => some (xs, [])
  | .ref i => match st.obs[i]? with | some (.lst xs) => some (xs, [(i, xs)]) | _ => none
  | _ => none
theorem src_q (rl : Rl G β H st) (h : RU G β (Ban G β st) H v u) {xs : List PyData} {own : List (Nat × List PyData)} (e : srcOf st u = some (xs, own)) :
    ∃ p, v = .ref p ∧ ((SrcL G β st H p own xs ∧ ∃ vs, SqL G.K H p vs ∧ vs.length = xs.length) ∨ (own = [] ∧ SrcT G β st H p xs ∧ ∃ vs, SqT G.K H p vs ∧ vs.length = xs.length)) := by
  unfold srcOf at e
  split at e
  · cases e
    cases h with
    | lst a b =>
      refine ⟨_, rfl, .inl ⟨fun O1 hO β1 H1 st1 f rl1 _ => ⟨_, ?_, rt_o_fut hO f b⟩, _, a.q, b.len⟩⟩
      have a' : SqLB G.K (Ban (G.o O1) β st) H _ _ := ⟨a.1, ban_o hO a.2 (by rw [a.1]; simp)⟩
      exact (a'.fut (fut_o f)).q
  · cases e
    cases h with
    | tup a b =>
      refine ⟨_, rfl, .inr ⟨rfl, fun O1 hO β1 H1 st1 f rl1 => ⟨_, ?_, rt_o_fut hO f b⟩, _, a.q, b.len⟩⟩
      have a' : SqTB G.K (Ban (G.o O1) β st) H _ _ := a.imp (fun z => ⟨z.1, ban_o hO z.2 (rd_ne z.1)⟩) id
      have z : SqTB G.K (Ban (G.o O1) β1 st1) H1 _ _ := a'.imp (fun z => (fut_o (O1 := O1) f).keep.rd z) id
      exact z.q
  · rename_i i
    split at e
    · rename_i hy
      cases e
      obtain ⟨p, h1, rfl⟩ := h
      refine ⟨p, rfl, .inl ⟨fun O1 hO β1 H1 st1 f rl1 hk => ?_, ?_⟩⟩
      · obtain ⟨q, vs, a, b, c⟩ := rl1.ob i xs (hk (i, xs) (by simp))
        rw [f.get h1] at a; cases a
        exact ⟨vs, SqL.of b, c⟩
      · obtain ⟨q, vs, a, b, c⟩ := rl.ob i _ hy
        rw [h1] at a; cases a
        exact ⟨vs, SqL.of b, c.len⟩
    · cases e
  · cases e
def iAny (K : PySem.W.Frag) (tl : TE) : TI := fun σ H R => tl σ H fun x H1 => ∃ a, x = .ref a ∧ (((∃ xs, SqL K H1 a xs) ∧ R (Itl K a) H1) ∨ ((∃ xs, SqT K H1 a xs) ∧ R (Itt K a) H1))
theorem pi_any {X : Cx} {tg l : Expr} {tl : TE} (hl : PE X l tl) : PI X tg l (iAny X.K tl) := by
  refine ⟨fun pins s σ H R I h => ?_⟩
  refine thn (hl.run pins s σ H _ I h) fun v s1 ⟨x, H1, I1, r1, q1⟩ => ?_
  obtain ⟨a, e, q⟩ := q1
  subst e
  cases r1
  rcases q with ⟨⟨xs, hq⟩, q⟩ | ⟨⟨xs, hq⟩, q⟩
  · obtain ⟨its, rv, p, hz⟩ := I1.list hq
    refine wpAny_pyIter_list p.isList ?_
    refine ⟨s1.heap.objs.size, [s1.heap.objs.size], _, _, H1, rfl, I1.kept (t' := s1.toks) fun b o e => Heap.get?_push_of_some _ e, turn_list a _, ⟨_, Heap.get?_push_size _ rfl, rfl, rfl⟩, fun b hb => ?_, q⟩
    have e : b = s1.heap.objs.size := by simpa using hb
    subst e
    exact I1.fpOk (Nat.le_refl _) (I1.hok.fresh (Nat.le_refl _))
  · obtain ⟨its, rv, p, hz⟩ := I1.tuple hq
    refine wpAny_pyIter_tuple (show s1.heap.IsTuple a its.toArray from p) ?_
    refine ⟨s1.heap.objs.size, [s1.heap.objs.size], _, _, H1, rfl, I1.kept (t' := s1.toks) fun b o e => Heap.get?_push_of_some _ e, turn_tuple a _, ⟨_, Heap.get?_push_size _ rfl, rfl, rfl⟩, fun b hb => ?_, q⟩
    have e : b = s1.heap.objs.size := by simpa using hb
    subst e
    exact I1.fpOk (Nat.le_refl _) (I1.hok.fresh (Nat.le_refl _))
def mAny (m : ME) : MI := fun l st => (m l st).bind fun u st => match srcOf st u with
  | some (xs, own) => .ok ⟨xs, own⟩ st
  | none => .no
theorem itl_r {p : Addr} {own : List (Nat × List PyData)} {xs : List PyData} (s : SrcL G β st H p own xs) : ItR G β st H (Itl G.K p) ⟨xs, own⟩ := fun O1 hO β1 H1 st1 f rl1 hk i => by
  obtain ⟨vs, sq, r⟩ := s O1 hO β1 H1 st1 f rl1 hk
  refine ⟨fun y hy => ?_, fun hi => ⟨vs, sq, by rw [r.len]; exact hi⟩⟩
  obtain ⟨w, hw, rw'⟩ := r.get hy
  refine ⟨⟨vs, w, sq, hw⟩, fun x H' hyl => ?_⟩
  obtain ⟨rfl, hx⟩ := hyl
  have e : w = x := Option.some.inj (hw.symm.trans (hx vs sq))
  subst e
  exact ⟨.inl rfl, rw'⟩
theorem itt_r {p : Addr} {xs : List PyData} (s : SrcT G β st H p xs) : ItR G β st H (Itt G.K p) ⟨xs, []⟩ := fun O1 hO β1 H1 st1 f rl1 hk i => by
  obtain ⟨vs, sq, r⟩ := s O1 hO β1 H1 st1 f rl1
  refine ⟨fun y hy => ?_, fun hi => ⟨vs, sq, by rw [r.len]; exact hi⟩⟩
  obtain ⟨w, hw, rw'⟩ := r.get hy
  refine ⟨⟨vs, w, sq, hw⟩, fun x H' hyl => ?_⟩
  obtain ⟨rfl, hx⟩ := hyl
  have e : w = x := Option.some.inj (hw.symm.trans (hx vs sq))
  subst e
  exact ⟨.inl rfl, rw'⟩
theorem i_any {t : TE} {m : ME} (h : SimE G t m) : SimI G (iAny G.K t) (mAny m) := fun β H σ l st re R q => by
  refine h β H σ l st re _ (wpR_bind q fun v u H1 β1 st1 f1 rl1 p1 h1 => ?_)
  split at h1
  · rename_i xs own e
    obtain ⟨p, rfl, ⟨s, vs, sq, _⟩ | ⟨rfl, s, vs, sq, _⟩⟩ := src_q rl1 p1 e
    · exact ⟨p, rfl, .inl ⟨⟨vs, sq⟩, h1 _ H1 β1 Fut.refl rl1 (itl_r s)⟩⟩
    · exact ⟨p, rfl, .inr ⟨⟨vs, sq⟩, h1 _ H1 β1 Fut.refl rl1 (itt_r s)⟩⟩
  · exact h1.elim
def rangeD (lo c : Int) (n : Nat) : List PyData := (List.range n).map fun i => .int (lo + (i : Nat) * c)
theorem itc_r {lo c : Int} {n : Nat} : ItR G β st H (Itc lo c n) ⟨rangeD lo c n, []⟩ := fun O1 hO β1 H1 st1 f rl1 hk i => by
  refine ⟨fun y hy => ?_, fun hi => (show n ≤ i by simpa [rangeD] using hi)⟩
  have hi : i < n := by
    have := (List.getElem?_eq_some_iff.mp hy).1
    simpa [rangeD] using this
  refine ⟨hi, fun x H' hyl => ?_⟩
  obtain ⟨rfl, rfl⟩ := hyl
  have e : (rangeD lo c n)[i]? = some (.int (lo + (i : Nat) * c)) := by simp [rangeD, hi]
  rw [e] at hy; cases hy
  exact ⟨.inl rfl, .int _⟩
theorem itr_r {lo : Int} {n : Nat} : ItR G β st H (Itr lo n) ⟨rangeD lo 1 n, []⟩ := fun O1 hO β1 H1 st1 f rl1 hk i => by
  refine ⟨fun y hy => ?_, fun hi => (show n ≤ i by simpa [rangeD] using hi)⟩
  have hi : i < n := by
    have := (List.getElem?_eq_some_iff.mp hy).1
    simpa [rangeD] using this
  refine ⟨hi, fun x H' hyl => ?_⟩
  obtain ⟨rfl, rfl⟩ := hyl
  have e : (rangeD lo 1 n)[i]? = some (.int (lo + (i : Nat) * 1)) := by simp [rangeD, hi]
  rw [Int.mul_one] at e
  rw [e] at hy; cases hy
  exact ⟨.inl rfl, .int _⟩
def rOk (i : Int) : Bool := decide (-(2 ^ 62) ≤ i ∧ i < 2 ^ 62)
theorem int1 {vs : List V} {i : Int} (p : PUs G β st H vs [.d (.int i)]) : vs = [.int i] := by
  have p' : Paired (fun v u => RU G β (Ban G β st) H v u) vs [.d (.int i)] := p
  cases p' with
  | cons r q => cases q; cases ru_int r; rfl
theorem int2 {vs : List V} {i j : Int} (p : PUs G β st H vs [.d (.int i), .d (.int j)]) : vs = [.int i, .int j] := by
  have p' : Paired (fun v u => RU G β (Ban G β st) H v u) vs [.d (.int i), .d (.int j)] := p
  cases p' with
  | cons r q =>
    cases q with
    | cons r2 q2 => cases q2; cases ru_int r; cases ru_int r2; rfl
theorem int3 {vs : List V} {i j k : Int} (p : PUs G β st H vs [.d (.int i), .d (.int j), .d (.int k)]) : vs = [.int i, .int j, .int k] := by
  have p' : Paired (fun v u => RU G β (Ban G β st) H v u) vs [.d (.int i), .d (.int j), .d (.int k)] := p
  cases p' with
  | cons r q =>
    cases q with
    | cons r2 q2 =>
      cases q2 with
      | cons r3 q3 => cases q3; cases ru_int r; cases ru_int r2; cases ru_int r3; rfl
def mR1 (a : MA) : MI := fun l st => (a l st).bind fun us st => match us with
  | [.d (.int j)] => if rOk j = true then .ok ⟨rangeD 0 1 j.toNat, []⟩ st else .no
  | _ => .no
theorem i_r1 {ta : TA} {a : MA} (h : SimA G ta a) : SimI G (iRng1 ta) (mR1 a) := fun β H σ l st re R q => by
  refine h β H σ l st re _ (wpR_bind q fun vs us H1 β1 st1 f1 rl1 p1 h1 => ?_)
  split at h1
  · rename_i j
    split at h1
    · rename_i hr
      have hr' := of_decide_eq_true hr
      exact ⟨j, int1 p1, hr'.1, hr'.2, h1 _ H1 β1 Fut.refl rl1 itr_r⟩
    · exact h1.elim
  · exact h1.elim
def mR2 (a : MA) : MI := fun l st => (a l st).bind fun us st => match us with
  | [.d (.int i), .d (.int j)] => if (rOk i && rOk j) = true then .ok ⟨rangeD i 1 (j - i).toNat, []⟩ st else .no
  | _ => .no
def mR3 (a : MA) : MI := fun l st => (a l st).bind fun us st => match us with
  | [.d (.int i), .d (.int j), .d (.int k)] => if (rOk i && rOk j && decide (k = -1)) = true then .ok ⟨rangeD i (-1) (i - j).toNat, []⟩ st
    else if decide (k ≠ 0 ∧ k.natAbs < 1073741824 ∧ Builtin.Range.small i j k = true ∧ 0 ≤ Builtin.Range.rangeSize i j k) = true then .ok ⟨rangeD i k (Builtin.Range.rangeSize i j k).toNat, []⟩ st else .no
  | _ => .no
theorem i_r3 {ta : TA} {a : MA} (h : SimA G ta a) : SimI G (iRng3 ta) (mR3 a) := fun β H σ l st re R q => by
  refine h β H σ l st re _ (wpR_bind q fun vs us H1 β1 st1 f1 rl1 p1 h1 => ?_)
  split at h1
  · rename_i i j k
    split at h1
    · rename_i hr
      rw [Bool.and_eq_true, Bool.and_eq_true] at hr
      have h1' := of_decide_eq_true hr.1.1
      have h2' := of_decide_eq_true hr.1.2
      have h3' := of_decide_eq_true hr.2
      subst h3'
      exact ⟨i, j, -1, _, int3 p1, RgC.neg h1'.1 h1'.2 h2'.1 h2'.2, h1 _ H1 β1 Fut.refl rl1 itc_r⟩
    · split at h1
      · rename_i hr
        have hr' := of_decide_eq_true hr
        exact ⟨i, j, k, _, int3 p1, ⟨hr'.1, hr'.2.1, hr'.2.2.1, (Int.toNat_of_nonneg hr'.2.2.2).symm⟩, h1 _ H1 β1 Fut.refl rl1 itc_r⟩
      · exact h1.elim
  · exact h1.elim
def mRev (m : ME) : MI := fun l st => (m l st).bind fun u st => match srcOf st u with
  | some (xs, own) => .ok ⟨xs.reverse, own⟩ st
  | none => .no
end
end NW
namespace NW
open PySem PySem.Spec PyProof.Rows L2
section
variable {G : Gx} {β β' : List Addr} {st st' : Sto} {H H' : Hp} {v : V} {u : U} {σ σ' : L2.St} {l l' : Loc} {D : Ends}
theorem list_h (rl : Rl G β H st) (h : RU G β (Ban G β st) H v u) {xs : List PyData} (e : listOf st u = some xs) : ∃ p vs, v = .ref p ∧ H p = some (.lst vs) ∧ RTs G.K (Ban G β st) H vs xs := by
  unfold listOf at e
  split at e
  · cases e
    cases h with
    | lst a b => exact ⟨_, _, rfl, a.1, b⟩
  · rename_i i
    split at e
    · rename_i hy
      cases e
      obtain ⟨p, h1, rfl⟩ := h
      obtain ⟨q, vs, a, b, c⟩ := rl.ob i _ hy
      rw [h1] at a; cases a
      exact ⟨p, vs, rfl, b, c⟩
    · cases e
  · cases e
def wipeL (l : Loc) : List Nat → Loc
  | [] => l
  | v :: vs => (wipeL l vs).set v none
theorem wipe_re {B : Addr → Prop} (h : RLoc G β B H σ l) : ∀ vs, RLoc G β B H (wipe σ vs) (wipeL l vs)
  | [] => h
  | i :: vs => by
    have ih := wipe_re h vs
    refine ⟨by unfold wipe wipeL; rw [List.length_set, List.length_set, ih.len], fun j w e => ?_⟩
    unfold wipeL at e
    by_cases hj : j = i
    · subst hj
      have hl : j < (wipeL l vs).length := by
        have := (List.getElem?_eq_some_iff.mp e).1
        rw [List.length_set] at this; exact this
      rw [List.getElem?_set_self hl] at e
      cases e
    · rw [List.getElem?_set_ne (Ne.symm hj)] at e
      unfold wipe
      rw [List.getElem?_set_ne (Ne.symm hj)]
      exact ih.at_ j w e
theorem wipe_get (σ : L2.St) : ∀ (vs : List Nat) (i : Nat), (wipe σ vs)[i]? = if i ∈ vs then (if i < σ.length then some none else none) else σ[i]?
  | [], i => by simp [wipe]
  | v :: vs, i => by
    unfold wipe
    rw [List.getElem?_set]
    have ih := wipe_get σ vs i
    rw [wipe_length]
    by_cases e : v = i
    · subst e; simp
    · rw [if_neg e, ih]
      have e' : ¬ i = v := fun q => e q.symm
      simp [e']
theorem wipe_same {σ1 σ2 : L2.St} {vs ws : List Nat} (hs : ∀ i ∈ ws, i ∈ vs) (hl : σ2.length = σ1.length) (h : ∀ i, i ∉ ws → σ2[i]? = σ1[i]?) : wipe σ2 vs = wipe σ1 vs := by
  apply List.ext_getElem?
  intro i
  rw [wipe_get, wipe_get, hl]
  split
  · rfl
  · rename_i n
    exact h i fun z => n (hs i z)
theorem wipe_idem (σ : L2.St) (vs : List Nat) : wipe (wipe σ vs) vs = wipe σ vs := by
  apply List.ext_getElem?
  intro i
  rw [wipe_get, wipe_get, wipe_length]
  split
  · rfl
  · rfl
def Res.noX {α : Type} (r : Res α) : Res α := match r with
  | .ok a s => .ok a s
  | _ => .no
def Res.isOk {α : Type} (r : Res α) : Prop := ∃ a s, r = .ok a s
theorem noX_bind {α γ : Type} {r : Res α} {k : α → Sto → Res γ} (h : (r.noX.bind k).isOk) : ∃ a s, r = .ok a s ∧ (k a s).isOk := by
  cases r with
  | ok a s => exact ⟨a, s, rfl, h⟩
  | ex e s => obtain ⟨_, _, z⟩ := h; cases z
  | no => obtain ⟨_, _, z⟩ := h; cases z
theorem bind_isOk {α γ : Type} {r : Res α} {k : α → Sto → Res γ} (h : (r.bind k).isOk) : ∃ a s, r = .ok a s ∧ (k a s).isOk := by
  cases r with
  | ok a s => exact ⟨a, s, rfl, h⟩
  | ex e s => obtain ⟨_, _, z⟩ := h; cases z
  | no => obtain ⟨_, _, z⟩ := h; cases z
theorem wpR_isOk {α γ : Type} {P : List Addr → Sto → Hp → γ → α → Prop} {r : Res α} {a : α} {Q : γ → Hp → Prop} (e : r = .ok a st') (h : ∀ v H' β', Fut G β st H β' st' H' → Rl G β' H' st' → P β' st' H' v a → Q v H') : wpR G β H σ st P r Q := by
  subst e; exact h
open Classical in
noncomputable def lcM (d : ItD) (vs : List Nat) (t : MT) (c : MB) (m : ME) (l : Loc) : List PyData → Sto → Res (List PyData)
  | [], st => if d.chk st then .ok [] st else .no
  | x :: xs, st => if d.chk st then (t (.d x) (wipeL l vs) st).noX.bind fun l1 st => (c l1 st).noX.bind fun b st => if b = true then (m l1 st).noX.bind fun u st => (match u with
      | .d y => (lcM d vs t c m l xs st).bind fun ys st => .ok (y :: ys) st
      | _ => .no) else lcM d vs t c m l xs st else .no
noncomputable def lLc (mi : MI) (vs : List Nat) (t : MT) (c : MB) (m : ME) : ML := fun l st => (mi l st).bind fun d st => if lenOk d.items.length = true then lcM d vs t c m l d.items st else .no
theorem lcM_noEx {d : ItD} {vs : List Nat} {t : MT} {c : MB} {m : ME} {l : Loc} : ∀ (xs : List PyData) (st : Sto), (lcM d vs t c m l xs st).noEx
  | [], st => by unfold lcM; split <;> trivial
  | x :: xs, st => by
    unfold lcM
    split
    · cases e1 : t (.d x) (wipeL l vs) st with
      | ok l1 s1 =>
        show ((c l1 s1).noX.bind _).noEx
        cases e2 : c l1 s1 with
        | ok b s2 =>
          show (if b = true then _ else _ : Res (List PyData)).noEx
          cases b with
          | true =>
            rw [if_pos rfl]
            cases e3 : m l1 s2 with
            | ok u s3 =>
              cases u with
              | d y =>
                show ((lcM d vs t c m l xs s3).bind _).noEx
                have ih := lcM_noEx (d := d) (vs := vs) (t := t) (c := c) (m := m) (l := l) xs s3
                cases e4 : lcM d vs t c m l xs s3 with
                | ok ys s4 => trivial
                | ex e s4 => rw [e4] at ih; exact ih
                | no => trivial
              | _ => trivial
            | ex e s3 => trivial
            | no => trivial
          | false =>
            rw [if_neg Bool.false_ne_true]
            exact lcM_noEx xs s2
        | ex e s2 => trivial
        | no => trivial
      | ex e s1 => trivial
      | no => trivial
    · trivial
theorem Rl.ban (rl : Rl G β H st) {D : Addr} {o : HO} (hD : H D = none) (ho : ∀ vs, ¬ Rd (upd H D o) D (.tup vs)) : Rl (G.ban D) β (upd H D o) st := by
  have f : Fut G β st H β st (upd H D o) := Fut.new hD
  have kk : Keep (Ban G β st) H (Ban (G.ban D) β st) (upd H D o) := fun b x hb n => by
    have hne : b ≠ D := ne_of_none hb hD
    refine ⟨by rw [upd_ne hne]; exact hb, ?_⟩
    rintro ((h | h) | h)
    · exact n (.inl h)
    · exact hne h
    · exact n (.inr h)
  refine ⟨rl.len, rl.nodup, fun q hq => f.there q (rl.trk q hq), fun i xs h nd => ?_, fun g hg => ?_, fun q hq => ?_⟩
  · obtain ⟨q, vs, a, b, c⟩ := rl.oo i xs h nd
    exact ⟨q, vs, a, by rw [upd_ne (ne_of_none b hD)]; exact b, c.imp fun ds vs z => RTs.mono kk ds vs z⟩
  · obtain ⟨⟨a, b⟩, c⟩ := rl.flo g hg
    exact ⟨⟨by show upd H D o G.fa = _; rw [upd_ne (ne_of_none a hD)]; exact a, kk _ _ b.1 b.2⟩, c⟩
  · rcases hq with hq | hq
    · exact rl.o0_fut f q hq (rl.o0 q hq).2.1
    · subst hq
      exact ⟨by rw [upd_same]; simp, fun w => rl.notBan hD (.inr w), ho⟩
theorem RLoc.ban (h : RLoc G β (Ban G β st) H σ l) {D : Addr} {o : HO} (hD : H D = none) : RLoc (G.ban D) β (Ban (G.ban D) β st) (upd H D o) σ l := by
  have kk : Keep (Ban G β st) H (Ban (G.ban D) β st) (upd H D o) := fun b x hb n => by
    have hne : b ≠ D := ne_of_none hb hD
    refine ⟨by rw [upd_ne hne]; exact hb, ?_⟩
    rintro ((h | h) | h)
    · exact n (.inl h)
    · exact hne h
    · exact n (.inr h)
  refine ⟨h.len, fun i w e => ?_⟩
  obtain ⟨v, h1, h2⟩ := h.at_ i w e
  refine ⟨v, h1, ?_⟩
  cases w with
  | d x => exact RT.mono kk x v h2
  | ref i => exact h2
  | flow => exact h2
  | scr ns =>
    obtain ⟨p, z1, z2⟩ := h2
    exact ⟨p, z1, z2.imp (fun z => kk.rd z) id⟩
  | dct es =>
    obtain ⟨p, o, kvs, z1, z2, z3, z4⟩ := h2
    exact ⟨p, o, kvs, z1, kk _ _ z2.1 z2.2, z3, RTs.mono kk _ _ z4⟩
def cutH (H : Hp) (D : Addr) : Hp := fun b => if b = D then none else H b
theorem cutH_upd {D : Addr} {o : HO} (h : H D = some o) : upd (cutH H D) D o = H := by
  funext b
  unfold upd cutH
  split
  · rename_i e; subst e; exact h.symm
  · rfl
theorem cutH_ne {D b : Addr} (h : b ≠ D) : cutH H D b = H b := by unfold cutH; rw [if_neg h]
theorem cut_keep {D : Addr} : Keep (Ban (G.ban D) β st) H (Ban G β st) (cutH H D) := fun b o h n => by
  have e : b ≠ D := fun e => n (.inl (.inr e))
  exact ⟨by rw [cutH_ne e]; exact h, fun w => n (w.imp .inl id)⟩
theorem Rl.unban {D : Addr} (rl : Rl (G.ban D) β H st) (hb : D ∉ β) (hO : ¬ G.O0 D) : Rl G β (cutH H D) st := by
  have nD : ¬ Own G β st D := (rl.o0 D (.inr rfl)).2.1
  have ne : ∀ q ∈ β, q ≠ D := fun q hq e => hb (e ▸ hq)
  refine ⟨rl.len, rl.nodup, fun q hq => by rw [cutH_ne (ne q hq)]; exact rl.trk q hq, fun i xs h nd => ?_, fun g hg => ?_, fun q hq => ?_⟩
  · obtain ⟨q, vs, a, b, c⟩ := rl.oo i xs h nd
    exact ⟨q, vs, a, by rw [cutH_ne (ne q (List.mem_of_getElem? a))]; exact b, c.imp fun ds vs z => RTs.mono cut_keep ds vs z⟩
  · obtain ⟨⟨a, b⟩, c⟩ := rl.flo g hg
    have n1 : G.fa ≠ D := fun e => nD (.inl ⟨by rw [hg]; rfl, e.symm⟩)
    exact ⟨⟨by show cutH H D G.fa = _; rw [cutH_ne n1]; exact a, cut_keep _ _ b.1 b.2⟩, c⟩
  · obtain ⟨a, b, c⟩ := rl.o0 q (.inl hq)
    by_cases e : q = D
    · subst e; exact absurd hq hO
    · refine ⟨by rw [cutH_ne e]; exact a, b, fun vs h => c vs ?_⟩
      unfold Rd at h ⊢
      rw [cutH_ne e] at h; exact h
theorem Fut.ban {D : Addr} : Fut (G.ban D) β st H β' st' H' ↔ Fut G β st H β' st' H' := ⟨fun f => ⟨f.ext, f.there, f.stay⟩, fun f => ⟨f.ext, f.there, f.stay⟩⟩
theorem grow {D : Addr} {H0 : Hp} (f : Fut G β st H0 β' st' H) (hD0 : H0 D = none) (rl : Rl (G.ban D) β' H st') {o o' : HO} (hD : H D = some o) (ho : ∀ vs, ¬ Rd (upd H D o') D (.tup vs)) :
    Fut G β st H0 β' st' (upd H D o') ∧ Rl (G.ban D) β' (upd H D o') st' ∧ Keep (Ban (G.ban D) β' st') H (Ban (G.ban D) β' st') (upd H D o') := by
  have nD : ¬ Own G β' st' D := (rl.o0 D (.inr rfl)).2.1
  have kk : Keep (Ban (G.ban D) β' st') H (Ban (G.ban D) β' st') (upd H D o') := fun b x hb n => by
    have e : b ≠ D := fun e => n (.inl (.inr e))
    exact ⟨by rw [upd_ne e]; exact hb, n⟩
  have nb : ∀ q (xs : Ob), (∃ i : Nat, st'.obs[i]? = some xs ∧ xs ≠ Ob.dead ∧ β'[i]? = some q) → q ≠ D := fun q xs ⟨i, h1, nd, h2⟩ e => nD (.inr ⟨i, xs, h1, nd, e ▸ h2⟩)
  refine ⟨⟨f.ext, fun b hb => ?_, fun b x hb n => ?_⟩, ⟨rl.len, rl.nodup, fun q hq => ?_, fun i xs h nd => ?_, fun g hg => ?_, fun q hq => ?_⟩, kk⟩
  · by_cases e : b = D
    · rw [e, upd_same]; simp
    · rw [upd_ne e]; exact f.there b hb
  · have e : b ≠ D := ne_of_none hb hD0
    have z := f.stay b x hb n
    exact ⟨by rw [upd_ne e]; exact z.1, z.2⟩
  · by_cases e : q = D
    · rw [e, upd_same]; simp
    · rw [upd_ne e]; exact rl.trk q hq
  · obtain ⟨q, vs, a, b, c⟩ := rl.oo i xs h nd
    exact ⟨q, vs, a, by rw [upd_ne (nb q xs ⟨i, h, nd, a⟩)]; exact b, c.imp fun ds vs z => RTs.mono kk ds vs z⟩
  · obtain ⟨⟨a, b⟩, c⟩ := rl.flo g hg
    have n1 : G.fa ≠ D := fun e => nD (.inl ⟨by rw [hg]; rfl, e.symm⟩)
    exact ⟨⟨by show upd H D o' G.fa = _; rw [upd_ne n1]; exact a, kk _ _ b.1 b.2⟩, c⟩
  · obtain ⟨a, b, c⟩ := rl.o0 q hq
    by_cases e : q = D
    · subst e
      exact ⟨by rw [upd_same]; simp, b, ho⟩
    · refine ⟨by rw [upd_ne e]; exact a, b, fun vs h => c vs ?_⟩
      unfold Rd at h ⊢
      rw [upd_ne e] at h; exact h
theorem Fut.notin {D : Addr} (f : Fut G β st H β' st' H') (h : D ∉ β) (t : H D ≠ none) : D ∉ β' := fun z => by
  obtain ⟨γ, rfl, h1⟩ := f.ext
  rcases List.mem_append.mp z with z | z
  · exact h z
  · exact t (h1 D z)
theorem no_tup {D : Addr} {xs : List V} (vs : List V) : ¬ Rd (upd H D (.lst xs)) D (.tup vs) := by
  rintro (h | ⟨o, h⟩) <;> (rw [upd_same] at h; cases h)
theorem n_lc {wi : TI} {g : TG} {tt : TT} {te : TE} {vs ws : List Nat} {mi : MI} {mt : MT} {c : MB} {m : ME} (hi : SimI G wi mi) (hg : ∀ D, SimG (G.ban D) ws g mt) (hsub : ∀ i ∈ ws, i ∈ vs)
    (hc : ∀ D, SimT (G.ban D) tt c) (he : ∀ D, SimE (G.ban D) te m) : SimN G (tLc wi g tt te vs) (lLc mi vs mt c m) := fun β H σ l st re Q q => by
  refine hi β H σ l st re _ (wpN_bind q fun J d H1 β1 st1 f1 rl1 itr q1 => ?_)
  have re1 := f1.re rl1 re
  intro D hD
  split at q1
  · rename_i hlen
    have hlen' : d.items.length ≤ sizeLine := of_decide_eq_true hlen
    cases eM : lcM d vs mt c m l d.items st1 with
    | no => rw [eM] at q1; exact q1.elim
    | ex e s => have z := lcM_noEx (d := d) (vs := vs) (t := mt) (c := c) (m := m) (l := l) d.items st1; rw [eM] at z; exact z.elim
    | ok ysE stE =>
      rw [eM] at q1
      have nO : ¬ G.O0 D := fun z => (rl1.o0 D z).1 hD
      have fD : Fut G β1 st1 H1 β1 st1 (upd H1 D (.lst [])) := Fut.new hD
      refine ⟨fun i mm H2 => mm = d.items.length - i ∧ ∃ β2 st2 acc ds ys, Fut G β1 st1 H1 β2 st2 H2 ∧ D ∉ β2 ∧ Rl (G.ban D) β2 H2 st2 ∧ RLoc (G.ban D) β2 (Ban (G.ban D) β2 st2) H2 σ l ∧ H2 D = some (.lst acc) ∧ RTs G.K (Ban (G.ban D) β2 st2) H2 acc ds ∧ ds.length ≤ i ∧ lcM d vs mt c m l (d.items.drop i) st2 = .ok ys stE ∧ ds ++ ys = ysE,
        ⟨_, rfl, β1, st1, [], [], ysE, fD, fun z => rl1.trk D z hD, rl1.ban hD no_tup, re1.lo.ban hD, upd_same, .nil, Nat.le_refl _, eM, rfl⟩, ?_⟩
      rintro i mm H2 ⟨rfl, β2, st2, acc, ds, ys, f2, hb, rl2, lo2, hDa, ra, hdl, eR, eY⟩
      have itr' := itr (fun p => G.O0 p ∨ p = D) (fun p h => h.elim .inl fun z => .inr (by rw [z]; exact hD)) β2 H2 st2 f2 rl2
      cases hd : d.items[i]? with
      | none =>
        have hl : d.items.length ≤ i := List.getElem?_eq_none_iff.mp hd
        rw [List.drop_eq_nil_of_le hl, lcM] at eR
        split at eR
        · rename_i hk
          refine .inl ⟨(itr' hk i).2 hl, ?_⟩
          cases eR
          rw [List.append_nil] at eY; subst eY
          have f3 : Fut G β1 st1 H1 β2 stE (cutH H2 D) := by
            refine ⟨f2.ext, fun b hb' => ?_, fun b x hb' n => ?_⟩
            · have e : b ≠ D := fun e => hb' (e ▸ hD)
              rw [cutH_ne e]; exact f2.there b hb'
            · have e : b ≠ D := ne_of_none hb' hD
              have z := f2.stay b x hb' n
              exact ⟨by rw [cutH_ne e]; exact z.1, z.2⟩
          have z := q1 (cutH H2 D) β2 f3 (rl2.unban hb nO) D acc (by unfold cutH; rw [if_pos rfl]) (RTs.mono cut_keep _ _ ra)
          rw [cutH_upd hDa] at z
          exact z
        · cases eR
      | some y =>
        obtain ⟨hlt, ey⟩ := List.getElem?_eq_some_iff.mp hd
        rw [List.drop_eq_getElem_cons hlt, ey, lcM] at eR
        split at eR
        · rename_i hk
          obtain ⟨hgo, hy⟩ := (itr' hk i).1 y hd
          refine .inr ⟨hgo, fun H3 => ∃ β2 st2 acc ds ys, Fut G β1 st1 H1 β2 st2 H3 ∧ D ∉ β2 ∧ Rl (G.ban D) β2 H3 st2 ∧ RLoc (G.ban D) β2 (Ban (G.ban D) β2 st2) H3 σ l ∧ H3 D = some (.lst acc) ∧ RTs G.K (Ban (G.ban D) β2 st2) H3 acc ds ∧ ds.length ≤ i + 1 ∧ lcM d vs mt c m l (d.items.drop (i + 1)) st2 = .ok ys stE ∧ ds ++ ys = ysE, fun H3 h => ⟨_, by omega, rfl, h⟩, fun x H3 hyl => ?_⟩
          obtain ⟨hcH, rx⟩ := hy x H3 hyl
          obtain ⟨f3, rl3⟩ := it_fut rl2 hcH
          have lo3 := f3.rloc lo2
          obtain ⟨l1, s1, e1, ok1⟩ := noX_bind (r := mt (.d y) (wipeL l vs) st2) ⟨ys, stE, eR⟩
          rw [e1] at eR
          refine hg D β2 H3 (wipe σ vs) (wipeL l vs) st2 ⟨rl3, wipe_re lo3 vs⟩ x (.d y) rx _ (wpR_isOk e1 fun σ4 H4 β4 f4 rl4 p4 => ?_)
          refine ⟨(wipe_same hsub p4.2.1 p4.2.2).trans (wipe_idem σ vs), ?_⟩
          have eR1 : ((c l1 s1).noX.bind fun b st => if b = true then (m l1 st).noX.bind fun u st => (match u with
              | .d y => (lcM d vs mt c m l (d.items.drop (i + 1)) st).bind fun ys st => .ok (y :: ys) st
              | _ => .no) else lcM d vs mt c m l (d.items.drop (i + 1)) st) = .ok ys stE := eR
          obtain ⟨b, s2, e2, ok2⟩ := noX_bind (r := c l1 s1) ⟨ys, stE, eR1⟩
          rw [e2] at eR1
          refine hc D β4 H4 σ4 l1 s1 ⟨rl4, p4.1⟩ _ (wpR_isOk e2 fun b' H5 β5 f5 rl5 p5 => ?_)
          cases (show b' = b from p5)
          have ff5 : Fut (G.ban D) β2 st2 H2 β5 s2 H5 := (f3.trans f4).trans f5
          have hD5 : H5 D = some (.lst acc) := (ff5.stay D _ hDa (rl2.o0 D (.inr rfl)).2.1).1
          have eR2 : (if b = true then (m l1 s2).noX.bind fun u st => (match u with
              | .d y => (lcM d vs mt c m l (d.items.drop (i + 1)) st).bind fun ys st => .ok (y :: ys) st
              | _ => .no) else lcM d vs mt c m l (d.items.drop (i + 1)) s2) = .ok ys stE := eR1
          cases b with
          | false =>
            rw [if_neg Bool.false_ne_true] at eR2
            show (if false = true then _ else _)
            rw [if_neg Bool.false_ne_true]
            exact ⟨β5, s2, acc, ds, ys, f2.trans (Fut.ban.mp ff5), ff5.notin hb (by rw [hDa]; simp), rl5, ff5.rloc lo2, hD5, ff5.rts ra, by omega, eR2, eY⟩
          | true =>
            rw [if_pos rfl] at eR2
            show (if true = true then _ else _)
            rw [if_pos rfl]
            obtain ⟨w, s3, e3, ok3⟩ := noX_bind (r := m l1 s2) ⟨ys, stE, eR2⟩
            rw [e3] at eR2
            refine he D β5 H5 σ4 l1 s2 ⟨rl5, f5.rloc p4.1⟩ _ (wpR_isOk e3 fun yv H6 β6 f6 rl6 p6 => ?_)
            have ff6 : Fut (G.ban D) β2 st2 H2 β6 s3 H6 := ff5.trans f6
            have hD6 : H6 D = some (.lst acc) := (ff6.stay D _ hDa (rl2.o0 D (.inr rfl)).2.1).1
            cases w with
            | d z =>
              have eR3 : ((lcM d vs mt c m l (d.items.drop (i + 1)) s3).bind fun ys st => .ok (z :: ys) st) = .ok ys stE := eR2
              obtain ⟨ys', s4, e4, _⟩ := bind_isOk (r := lcM d vs mt c m l (d.items.drop (i + 1)) s3) ⟨ys, stE, eR3⟩
              rw [e4] at eR3
              cases eR3
              have ra6 := ff6.rts ra
              refine ⟨acc, hD6, by rw [ra.len]; omega, ?_⟩
              obtain ⟨f7, rl7, k7⟩ := grow (o' := .lst (acc ++ [yv])) (f2.trans (Fut.ban.mp ff6)) hD rl6 hD6 no_tup
              refine ⟨β6, s3, acc ++ [yv], ds ++ [z], ys', f7, ff6.notin hb (by rw [hDa]; simp), rl7, ?_, upd_same, ?_, by simp; omega, e4, by rw [List.append_assoc]; exact eY⟩
              · have lo6 := ff6.rloc lo2
                refine ⟨lo6.len, fun j w e => ?_⟩
                obtain ⟨v, h1, h2⟩ := lo6.at_ j w e
                refine ⟨v, h1, ?_⟩
                cases w with
                | d x => exact RT.mono k7 x v h2
                | ref i => exact h2
                | flow => exact h2
                | scr ns =>
                  obtain ⟨p, z1, z2⟩ := h2
                  exact ⟨p, z1, z2.imp (fun z => k7.rd z) id⟩
                | dct es =>
                  obtain ⟨p, o, kvs, z1, z2, z3, z4⟩ := h2
                  exact ⟨p, o, kvs, z1, k7 _ _ z2.1 z2.2, z3, RTs.mono k7 _ _ z4⟩
              · exact (RTs.mono k7 _ _ ra6).append (.cons (RT.mono k7 z yv p6) .nil)
            | ref k => cases eR2
            | flow => cases eR2
            | scr k => cases eR2
            | dct k => cases eR2
        · cases eR
  · exact q1.elim
end
end NW
namespace NW
open PySem PySem.Spec PyProof.Rows L2
section
variable {G : Gx} {β β' : List Addr} {st st' : Sto} {H H' : Hp} {v : V} {u : U} {σ σ' : L2.St} {l l' : Loc} {D : Ends}
def SimC (G : Gx) (r : List V → Hp → VK → Prop) (f : List U → Sto → Res U) : Prop := ∀ β H σ l st, Re G β H σ l st → ∀ xs us Q, PUs G β st H xs us → wpR G β H σ st (PU G) (f us st) Q → r xs H Q
def SimCN (G : Gx) (r : List V → Hp → VK → Prop) (f : List U → Sto → Res (List PyData)) : Prop := ∀ β H σ l st, Re G β H σ l st → ∀ xs us Q, PUs G β st H xs us → wpN G β H σ st (f us st) Q → r xs H Q
def eCB (f : List U → Sto → Res U) (a : MA) : ME := fun l st => (a l st).bind f
def lCB (f : List U → Sto → Res (List PyData)) (a : MA) : ML := fun l st => (a l st).bind f
theorem s_cb {r : List V → Hp → VK → Prop} {f : List U → Sto → Res U} {ta : TA} {a : MA} (hr : SimC G r f) (ha : SimA G ta a) : SimE G (tCB r ta) (eCB f a) := fun β H σ l st re Q h =>
  ha β H σ l st re _ (wpR_bind h fun vs us H1 β1 st1 f1 rl1 p1 h1 => hr β1 H1 σ l st1 (f1.re rl1 re) vs us Q p1 h1)
theorem n_cb {r : List V → Hp → VK → Prop} {f : List U → Sto → Res (List PyData)} {ta : TA} {a : MA} (hr : SimCN G r f) (ha : SimA G ta a) : SimN G (tCB r ta) (lCB f a) := fun β H σ l st re Q h =>
  ha β H σ l st re _ (wpN_bind h fun vs us H1 β1 st1 f1 rl1 p1 h1 => hr β1 H1 σ l st1 (f1.re rl1 re) vs us Q p1 h1)
theorem one_u {vs : List V} {u : U} (p : PUs G β st H vs [u]) : ∃ v, vs = [v] ∧ RU G β (Ban G β st) H v u := by
  have p' : Paired (fun v u => RU G β (Ban G β st) H v u) vs [u] := p
  cases p' with
  | cons r q => cases q; exact ⟨_, rfl, r⟩
def cLen : List U → Sto → Res U := fun us st => match us with
  | [.scr ns] => .ok (.d (.int ns.length)) st
  | [.d (.str z)] => if lenOk z.length = true then .ok (.d (.int z.length)) st else .no
  | [u] => (match seqOf st u with
    | some xs => .ok (.d (.int xs.length)) st
    | none => .no)
  | _ => .no
theorem c_len : SimC G (fun xs H Q => ∃ x n, xs = [x] ∧ LenV G.K x H n ∧ Q (.int n) H) cLen := fun β H σ l st re xs us Q p h => by
  unfold cLen at h
  split at h
  · rename_i ns
    obtain ⟨v, rfl, r⟩ := one_u p
    obtain ⟨q, rfl, s⟩ := r
    exact ⟨_, (ns.map V.int).length, rfl, .inl ⟨_, s.q, rfl⟩, by rw [List.length_map]; exact wpR_d re.rl (.int _) h⟩
  · rename_i z
    obtain ⟨v, rfl, r⟩ := one_u p
    cases ru_str r
    split at h
    · rename_i q
      exact ⟨_, z.length, rfl, ⟨of_decide_eq_true q, rfl⟩, wpR_d re.rl (.int _) h⟩
    · exact h.elim
  · obtain ⟨v, rfl, r⟩ := one_u p
    split at h
    · rename_i xs e
      obtain ⟨q, vs, rfl, s, r'⟩ := seq_q re.rl r e
      refine ⟨_, vs.length, rfl, ?_, ?_⟩
      · rcases s with s | s
        · exact .inl ⟨vs, s, rfl⟩
        · exact .inr ⟨vs, s, rfl⟩
      · rw [r'.len]; exact wpR_d re.rl (.int _) h
    · exact h.elim
  · exact h.elim
def cAbs : List U → Sto → Res U := fun us st => match us with
  | [.d (.int i)] => .ok (.d (.int (if i < 0 then -i else i))) st
  | _ => .no
theorem c_abs : SimC G (fun xs H Q => ∃ i, xs = [.int i] ∧ Q (.int (if i < 0 then -i else i)) H) cAbs := fun β H σ l st re xs us Q p h => by
  unfold cAbs at h
  split at h
  · exact ⟨_, int1 p, wpR_d re.rl (.int _) h⟩
  · exact h.elim
def cInt : List U → Sto → Res U := fun us st => match us with
  | [.d (.int i)] => .ok (.d (.int i)) st
  | [.d (.bool k)] => .ok (.d (.int (if k then 1 else 0))) st
  | _ => .no
theorem c_int : SimC G (fun xs H Q => (∃ i, xs = [.int i] ∧ Q (.int i) H) ∨ ∃ k, xs = [.bl k] ∧ Q (.int (if k then 1 else 0)) H) cInt := fun β H σ l st re xs us Q p h => by
  unfold cInt at h
  split at h
  · exact .inl ⟨_, int1 p, wpR_d re.rl (.int _) h⟩
  · obtain ⟨v, rfl, r⟩ := one_u p
    cases ru_bool r
    exact .inr ⟨_, rfl, wpR_d re.rl (.int _) h⟩
  · exact h.elim
def cMax2 : List U → Sto → Res U := fun us st => match us with
  | [.d (.int i), .d (.int j)] => .ok (.d (.int (if j > i then j else i))) st
  | _ => .no
theorem c_max2 : SimC G (fun xs H Q => ∃ i j, xs = [.int i, .int j] ∧ Q (.int (if j > i then j else i)) H) cMax2 := fun β H σ l st re xs us Q p h => by
  unfold cMax2 at h
  split at h
  · exact ⟨_, _, int2 p, wpR_d re.rl (.int _) h⟩
  · exact h.elim
def cMin2 : List U → Sto → Res U := fun us st => match us with
  | [.d (.int i), .d (.int j)] => .ok (.d (.int (if j < i then j else i))) st
  | _ => .no
theorem c_min2 : SimC G (fun xs H Q => ∃ i j, xs = [.int i, .int j] ∧ Q (.int (if j < i then j else i)) H) cMin2 := fun β H σ l st re xs us Q p h => by
  unfold cMin2 at h
  split at h
  · exact ⟨_, _, int2 p, wpR_d re.rl (.int _) h⟩
  · exact h.elim
def intsOf : List PyData → Option (List Int)
  | [] => some []
  | .int i :: r => (intsOf r).map (i :: ·)
  | _ :: _ => none
def boolsOf : List PyData → Option (List Bool)
  | [] => some []
  | .bool i :: r => (boolsOf r).map (i :: ·)
  | _ :: _ => none
theorem boolsOf_eq : ∀ {xs : List PyData} {ns : List Bool}, boolsOf xs = some ns → xs = ns.map PyData.bool
  | [], ns, h => by cases h; rfl
  | .bool i :: r, ns, h => by
    have h' : (boolsOf r).map (i :: ·) = some ns := h
    cases e : boolsOf r with
    | none => rw [e] at h'; cases h'
    | some ms => rw [e] at h'; cases h'; rw [boolsOf_eq e]; rfl
  | .none :: _, _, h => by cases h
  | .int _ :: _, _, h => by cases h
  | .str _ :: _, _, h => by cases h
  | .list _ :: _, _, h => by cases h
  | .tuple _ :: _, _, h => by cases h
  | .dict _ :: _, _, h => by cases h
@[simp] theorem intsOf_map : ∀ (ns : List Int), intsOf (ns.map PyData.int) = some ns
  | [] => rfl
  | n :: ns => by show (intsOf (ns.map PyData.int)).map (n :: ·) = _; rw [intsOf_map ns]; rfl
@[simp] theorem boolsOf_map : ∀ (ns : List Bool), boolsOf (ns.map PyData.bool) = some ns
  | [] => rfl
  | n :: ns => by show (boolsOf (ns.map PyData.bool)).map (n :: ·) = _; rw [boolsOf_map ns]; rfl
def cInts (f : List Int → Option PyData) : List U → Sto → Res U := fun us st => match us with
  | [u] => (match (listOf st u).bind intsOf with
    | some ns => (match f ns with
      | some x => .ok (.d x) st
      | none => .no)
    | none => .no)
  | _ => .no
def maxI : List Int → Option Int
  | [] => none
  | x :: xs => some (xs.foldl (fun a b => if b > a then b else a) x)
def minI : List Int → Option Int
  | [] => none
  | x :: xs => some (xs.foldl (fun a b => if b < a then b else a) x)
def cMaxL : List U → Sto → Res U := cInts fun ns => (maxI ns).map PyData.int
def cMinL : List U → Sto → Res U := cInts fun ns => (minI ns).map PyData.int
def cSum : List U → Sto → Res U := cInts fun ns => some (.int ns.sum)
theorem bools_q (rl : Rl G β H st) (h : RU G β (Ban G β st) H v u) {ns : List Bool} (e : (listOf st u).bind boolsOf = some ns) : ∃ p, v = .ref p ∧ SqL G.K H p (ns.map V.bl) := by
  cases q : listOf st u with
  | none => rw [q] at e; cases e
  | some xs =>
    rw [q] at e
    have e2 := boolsOf_eq (show boolsOf xs = some ns from e)
    subst e2
    obtain ⟨p, vs, a, b, c⟩ := list_q rl h q
    rw [c.bools] at b
    exact ⟨p, a, b⟩
def cBools (f : List Bool → Bool) : List U → Sto → Res U := fun us st => match us with
  | [u] => (match (listOf st u).bind boolsOf with
    | some ns => .ok (.d (.bool (f ns))) st
    | none => .no)
  | _ => .no
def cAll : List U → Sto → Res U := cBools fun ns => ns.all id
def cAny : List U → Sto → Res U := cBools fun ns => ns.any id
theorem c_all : SimC G (rAll G.K) cAll := fun β H σ l st re xs us Q p h => by
  unfold cAll cBools at h
  split at h
  · obtain ⟨v, rfl, r⟩ := one_u p
    split at h
    · rename_i ns e
      obtain ⟨q, rfl, s⟩ := bools_q re.rl r e
      exact ⟨q, ns, rfl, s, wpR_d re.rl (.bl _) h⟩
    · exact h.elim
  · exact h.elim
def cListOf : List U → Sto → Res (List PyData) := fun us st => match us with
  | [.scr ns] => .ok (ns.map .int) st
  | [u] => (match seqOf st u with
    | some xs => .ok xs st
    | none => .no)
  | _ => .no
theorem c_listOf : SimCN G (fun xs H Q => ∃ p ys, xs = [.ref p] ∧ (SqL G.K H p ys ∨ SqT G.K H p ys) ∧ ∀ l, H l = none → Q (.ref l) (upd H l (.lst ys))) cListOf := fun β H σ l st re xs us Q p h => by
  unfold cListOf at h
  split at h
  · rename_i ns
    obtain ⟨v, rfl, r⟩ := one_u p
    obtain ⟨q, rfl, s⟩ := r
    exact ⟨q, _, rfl, .inl s.q, fun z hz => h H β Fut.refl re.rl z _ hz (RTs.ofInts ns)⟩
  · obtain ⟨v, rfl, r⟩ := one_u p
    split at h
    · rename_i ys e
      obtain ⟨q, vs, rfl, s, r'⟩ := seq_q re.rl r e
      exact ⟨q, vs, rfl, s, fun z hz => h H β Fut.refl re.rl z vs hz r'⟩
    · exact h.elim
  · exact h.elim
def cTupOf : List U → Sto → Res U := fun us st => match us with
  | [.d (.tuple xs)] => .ok (.d (.tuple xs)) st
  | [u] => (match listOf st u with
    | some xs => .ok (.d (.tuple xs)) st
    | none => .no)
  | _ => .no
theorem c_tupOf : SimC G (fun xs H Q => ∃ p ys, xs = [.ref p] ∧ ((SqL G.K H p ys ∧ ∀ l, H l = none → Q (.ref l) (upd H l (.tup ys))) ∨ (SqT G.K H p ys ∧ Q (.ref p) H))) cTupOf := fun β H σ l st re xs us Q p h => by
  unfold cTupOf at h
  split at h
  · rename_i ys
    obtain ⟨v, rfl, r⟩ := one_u p
    obtain ⟨q, vs, rfl, s, r'⟩ := tup_q r (xs := ys) rfl
    exact ⟨q, vs, rfl, .inr ⟨s, wpR_u re.rl r h⟩⟩
  · obtain ⟨v, rfl, r⟩ := one_u p
    split at h
    · rename_i ys e
      obtain ⟨q, vs, rfl, s, r'⟩ := list_q re.rl r e
      refine ⟨q, vs, rfl, .inl ⟨s, fun z hz => ?_⟩⟩
      obtain ⟨f4, rl4, rt⟩ := new_tup re.rl hz r'
      exact h _ _ β f4 rl4 rt
    · exact h.elim
  · exact h.elim
def tyName : PyData → String
  | .none => "NoneType"
  | .bool _ => "bool"
  | .int _ => "int"
  | .str _ => "str"
  | .list _ => "list"
  | .tuple _ => "tuple"
  | .dict _ => "dict"
def isiT (x : PyData) (T : String) : Bool := tyName x == T || (T == "int" && tyName x == "bool")
def tyOk (T : String) : Bool := ["int", "bool", "list", "tuple", "str"].contains T
theorem kit5 : ∀ n ∈ (["NoneType", "bool", "int", "str", "list", "tuple"] : List String), ∀ T ∈ (["int", "bool", "list", "tuple", "str"] : List String), kitB n T = some (n == T || (T == "int" && n == "bool")) := by decide +kernel
theorem isi_kit {K : PySem.W.Frag} {x : PyData} {T : String} (h : tyOk T = true) (hd : tyName x ≠ "dict") : PySem.W.kitOne K (.type (tyName x)) (.type T) = some (isiT x T) := by
  apply kit_ty
  refine kit5 _ ?_ T (List.contains_iff_mem.mp h)
  cases x with
  | dict k => exact absurd rfl hd
  | _ => simp [tyName]
theorem tyX (rl : Rl G β H st) (h : RU G β (Ban G β st) H v u) {x : PyData} (e : toTree st u = some x) : TyX G.K H v (.type (tyName x)) ∧ tyName x ≠ "dict" := by
  cases u with
  | d y =>
    cases e
    cases h with
    | non => exact ⟨.base .non, by decide⟩
    | bl b => exact ⟨.base (.bl b), by simp [tyName]⟩
    | int i => exact ⟨.base (.int i), by simp [tyName]⟩
    | str z => exact ⟨.base (.str z), by simp [tyName]⟩
    | lst a b => exact ⟨.base (.lst a.1), by show "list" ≠ "dict"; decide⟩
    | tup a b =>
      refine ⟨?_, by show "tuple" ≠ "dict"; decide⟩
      rcases a with ⟨a | ⟨o, a⟩, _⟩ | ⟨o, its, n, hk, hc, _⟩
      · exact .base (.tup a)
      · exact .fTuple a
      · exact .kTuple hk hc
  | flow => cases e
  | scr ns => cases e
  | dct es => cases e
  | ref i =>
    simp only [toTree] at e
    split at e
    · rename_i ys hy
      cases e
      obtain ⟨p, h1, rfl⟩ := h
      obtain ⟨q, vs, a, b, c⟩ := rl.ob i ys hy
      rw [h1] at a; cases a
      exact ⟨.base (.lst b), by show "list" ≠ "dict"; decide⟩
    · cases e
def eIsi (m : ME) (T : String) : ME := fun l st => (m l st).bind fun u st => match toTree st u with
  | some x => if tyOk T = true then .ok (.d (.bool (isiT x T))) st else .no
  | none => .no
theorem s_isi {t : TE} {m : ME} {T : String} (h : SimE G t m) : SimE G (tCB (rIsi G.K) (tCons t (tCons (tC (.ty T)) tNil))) (eIsi m T) := fun β H σ l st re Q q => by
  refine h β H σ l st re _ (wpR_bind q fun v u H1 β1 st1 f1 rl1 p1 h1 => ?_)
  show ∃ (x c : V) (t u : Value) (b : Bool), [v, .ty T] = [x, c] ∧ _
  split at h1
  · rename_i x e
    split at h1
    · rename_i hT
      obtain ⟨ty, nd⟩ := tyX rl1 p1 e
      exact ⟨v, .ty T, _, .type T, isiT x T, rfl, .ty T, ty, isi_kit hT nd, wpR_d rl1 (.bl _) h1⟩
    · exact h1.elim
  · exact h1.elim
def tTys : List String → TA
  | [] => tNil
  | T :: r => tCons (tC (.ty T)) (tTys r)
theorem tTys_run : ∀ (Ts : List String) (σ : L2.St) (H : Hp) (Q : List V → Hp → Prop), Q (Ts.map V.ty) H → tTys Ts σ H Q
  | [], _, _, _, h => h
  | T :: r, σ, H, Q, h => tTys_run r σ H (fun xs H2 => Q (.ty T :: xs) H2) h
def eIsiT (m : ME) (Ts : List String) : ME := fun l st => (m l st).bind fun u st => match toTree st u with
  | some x => if (Ts.all tyOk && decide (Ts.length ≤ 8)) = true then .ok (.d (.bool (Ts.any (isiT x)))) st else .no
  | none => .no
theorem kitAnyT {K : PySem.W.Frag} {x : PyData} (nd : tyName x ≠ "dict") : ∀ {Ts : List String}, Ts.all tyOk = true → PySem.W.kitAny K (.type (tyName x)) (Ts.map Value.type) = some (Ts.any (isiT x))
  | [], _ => kitAny_nil
  | T :: r, h => by
    rw [List.all_cons, Bool.and_eq_true] at h
    have ih := kitAnyT (K := K) nd h.2
    rw [List.any_cons]
    refine kitAny_cons (isi_kit h.1 nd) (fun e => ?_) fun e => ?_
    · rw [e, Bool.false_or]; exact ih
    · rw [e, Bool.true_or]
theorem cls_tys : ∀ (Ts : List String), Paired ClsV (Ts.map V.ty) (Ts.map Value.type)
  | [] => .nil
  | T :: r => .cons (.ty T) (cls_tys r)
theorem s_isiT {t : TE} {m : ME} {Ts : List String} (h : SimE G t m) : SimE G (tCB (rIsiT G.K) (tCons t (tCons (tTup (tTys Ts)) tNil))) (eIsiT m Ts) := fun β H σ l st re Q q => by
  refine h β H σ l st re _ (wpR_bind q fun v u H1 β1 st1 f1 rl1 p1 h1 => ?_)
  split at h1
  · rename_i x e
    split at h1
    · rename_i hT
      rw [Bool.and_eq_true] at hT
      obtain ⟨ty, nd⟩ := tyX rl1 p1 e
      refine tTys_run Ts σ H1 _ ⟨by rw [List.length_map]; exact Nat.le_trans (of_decide_eq_true hT.2) (by rw [sizeLine_eq]; decide), fun p hp => ?_⟩
      have f2 : Fut G β1 st1 H1 β1 st1 (upd H1 p (.tup (Ts.map V.ty))) := Fut.new hp
      obtain ⟨ty2, _⟩ := tyX (rl1.new hp) (f2.ru p1) e
      exact ⟨v, p, Ts.map V.ty, _, Ts.map Value.type, _, rfl, upd_same, cls_tys Ts, ty2, kitAnyT nd hT.1, h1 _ _ β1 f2 (rl1.new hp) (.bl _)⟩
    · exact h1.elim
  · exact h1.elim
def SimM (G : Gx) (T : String) (r : V → List V → Hp → VK → Prop) (f : U → List U → Sto → Res U) : Prop := ∀ β H σ l st, Re G β H σ l st → ∀ x u xs us Q, RU G β (Ban G β st) H x u → PUs G β st H xs us → wpR G β H σ st (PU G) (f u us st) Q → r x xs H Q
def isLst (st : Sto) (u : U) : Bool := (listOf st u).isSome
theorem tyV_l (rl : Rl G β H st) (h : RU G β (Ban G β st) H v u) (e : isLst st u = true) : tyV G.K "list" v H := by
  unfold isLst at e
  obtain ⟨xs, e⟩ := Option.isSome_iff_exists.mp e
  obtain ⟨p, vs, rfl, s, _⟩ := list_q rl h e
  exact .inl ⟨rfl, vs, s⟩
def eMethL (f : U → List U → Sto → Res U) (o : ME) (a : MA) : ME := fun l st => (o l st).bind fun x st => if isLst st x = true then (a l st).bind fun us st => f x us st else .no
theorem s_methL {r : V → List V → Hp → VK → Prop} {f : U → List U → Sto → Res U} {to : TE} {ta : TA} {o : ME} {a : MA} (hr : SimM G "list" r f) (ho : SimE G to o) (ha : SimA G ta a) : SimE G (tBM G.K "list" r to ta) (eMethL f o a) := fun β H σ l st re Q h => by
  refine ho β H σ l st re _ (wpR_bind h fun v x H1 β1 st1 f1 rl1 p1 h1 => ?_)
  have re1 := f1.re rl1 re
  split at h1
  · rename_i q
    refine ⟨tyV_l rl1 p1 q, ha β1 H1 σ l st1 re1 _ (wpR_bind h1 fun w y H2 β2 st2 f2 rl2 p2 h2 => ?_)⟩
    exact hr β2 H2 σ l st2 (f2.re rl2 re1) v x w y Q (f2.ru p1) p2 h2
  · exact h1.elim
theorem s_methL0 {r : V → List V → Hp → VK → Prop} {f : U → List U → Sto → Res U} {to : TE} {o : ME} (hr : SimM G "list" r f) (ho : SimE G to o) : SimE G (tBM0 G.K "list" r to) (eMethL f o aNil) := fun β H σ l st re Q h => by
  refine ho β H σ l st re _ (wpR_bind h fun v x H1 β1 st1 f1 rl1 p1 h1 => ?_)
  have re1 := f1.re rl1 re
  split at h1
  · rename_i q
    exact ⟨tyV_l rl1 p1 q, hr β1 H1 σ l st1 re1 v x [] [] Q p1 .nil h1⟩
  · exact h1.elim
def ownL (st : Sto) : U → Option (Nat × List PyData)
  | .ref i => match st.obs[i]? with | some (.lst xs) => some (i, xs) | _ => none
  | _ => none
theorem own_q (rl : Rl G β H st) (h : RU G β (Ban G β st) H v u) {i : Nat} {xs : List PyData} (e : ownL st u = some (i, xs)) : ∃ p vs, v = .ref p ∧ H p = some (.lst vs) ∧ RTs G.K (Ban G β st) H vs xs ∧ st.obs[i]? = some (.lst xs) ∧ β[i]? = some p := by
  unfold ownL at e
  split at e
  · rename_i j
    split at e
    · rename_i hy
      cases e
      obtain ⟨p, h1, rfl⟩ := h
      obtain ⟨q, vs, a, b, c⟩ := rl.ob _ _ hy
      rw [h1] at a; cases a
      exact ⟨p, vs, rfl, b, c, hy, h1⟩
    · cases e
  · cases e
def mAppend : U → List U → Sto → Res U := fun o us st => match ownL st o, us with
  | some (i, xs), [.d y] => if decide (xs.length < sizeLine) = true then .ok (.d .none) (st.put i (xs ++ [y])) else .no
  | _, _ => .no
theorem m_append : SimM G "list" rAppend mAppend := fun β H σ l st re x u xs us Q hx p h => by
  unfold mAppend at h
  split at h
  · rename_i i ys y e
    split at h
    · rename_i q
      obtain ⟨a, vs, rfl, h1, h2, h3, h4⟩ := own_q re.rl hx e
      obtain ⟨w, rfl, r⟩ := one_u p
      refine ⟨a, vs, w, rfl, rfl, h1, by rw [h2.len]; exact of_decide_eq_true q, ?_⟩
      obtain ⟨f, rl⟩ := put_own re.rl h3 h4 (h2.append (.cons r .nil))
      exact h _ _ β f rl .non
    · exact h.elim
  · exact h.elim
theorem RTs.dropLast {B : Addr → Prop} {K : PySem.W.Frag} {xs : List PyData} {vs : List V} (r : RTs K B H vs xs) : RTs K B H vs.dropLast xs.dropLast := by
  rw [List.dropLast_eq_take, List.dropLast_eq_take, r.len]
  exact r.take _
def mPop : U → List U → Sto → Res U := fun o us st => match ownL st o, us with
  | some (i, xs), [] => (match xs[xs.length - 1]? with
    | some y => .ok (.d y) (st.put i xs.dropLast)
    | none => .no)
  | _, _ => .no
theorem m_pop : SimM G "list" rPop mPop := fun β H σ l st re x u xs us Q hx p h => by
  unfold mPop at h
  split at h
  · rename_i i ys e
    split at h
    · rename_i y e2
      obtain ⟨a, vs, rfl, h1, h2, h3, h4⟩ := own_q re.rl hx e
      obtain ⟨w, k1, k2⟩ := h2.get e2
      have p' : Paired (fun v u => RU G β (Ban G β st) H v u) xs [] := p
      cases p'
      refine ⟨a, vs, w, rfl, rfl, h1, by rw [h2.len]; exact k1, ?_⟩
      obtain ⟨f, rl⟩ := put_own re.rl h3 h4 h2.dropLast
      exact h _ _ β f rl (f.rt k2)
    · exact h.elim
  · exact h.elim
def SimRN (G : Gx) (r : R2) (f : U → U → Sto → Res (List PyData)) : Prop := ∀ β H σ l st, Re G β H σ l st → ∀ x y a b Q, RU G β (Ban G β st) H x a → RU G β (Ban G β st) H y b → wpN G β H σ st (f a b st) Q → r x y H Q
def lOp (f : U → U → Sto → Res (List PyData)) (a b : ME) : ML := fun l st => (a l st).bind fun x st => (b l st).bind fun y st => f x y st
theorem n_op {r : R2} {f : U → U → Sto → Res (List PyData)} {ta tb : TE} {a b : ME} (hr : SimRN G r f) (ha : SimE G ta a) (hb : SimE G tb b) : SimN G (tOp r ta tb) (lOp f a b) := fun β H σ l st re Q h => by
  refine ha β H σ l st re _ (wpN_bind h fun v x H1 β1 st1 f1 rl1 p1 h1 => ?_)
  have re1 := f1.re rl1 re
  refine hb β1 H1 σ l st1 re1 _ (wpN_bind h1 fun w y H2 β2 st2 f2 rl2 p2 h2 => ?_)
  exact hr β2 H2 σ l st2 (f2.re rl2 re1) v w x y Q (f2.ru p1) p2 h2
def fCat : U → U → Sto → Res (List PyData) := fun a b st => match listOf st a, listOf st b with
  | some xs, some ys => if lenOk (xs.length + ys.length) = true then .ok (xs ++ ys) st else .no
  | _, _ => .no
theorem rn_cat : SimRN G rCat fCat := fun β H σ l st re x y a b Q hx hy h => by
  unfold fCat at h
  split at h
  · rename_i xs ys e1 e2
    split at h
    · rename_i q
      obtain ⟨p, vs, rfl, h1, r1⟩ := list_h re.rl hx e1
      obtain ⟨p', ws, rfl, h2, r2⟩ := list_h re.rl hy e2
      exact ⟨p, p', vs, ws, rfl, rfl, h1, h2, by rw [r1.len, r2.len]; exact of_decide_eq_true q, fun z hz => h H β Fut.refl re.rl z _ hz (r1.append r2)⟩
    · exact h.elim
  · exact h.elim
def fRep : U → U → Sto → Res (List PyData) := fun a b st => match listOf st a, b with
  | some xs, .d (.int k) => if (decide (-(2 ^ 63) ≤ k ∧ k < 2 ^ 63) && lenOk (xs.length * k.toNat)) = true then .ok (List.replicate k.toNat xs).flatten st else .no
  | _, _ => .no
theorem rts_rep {B : Addr → Prop} {K : PySem.W.Frag} {xs : List PyData} {vs : List V} (r : RTs K B H vs xs) : ∀ n, RTs K B H (List.replicate n vs).flatten (List.replicate n xs).flatten
  | 0 => .nil
  | n + 1 => by
    rw [List.replicate_succ, List.replicate_succ, List.flatten_cons, List.flatten_cons]
    exact r.append (rts_rep r n)
theorem rn_rep : SimRN G rRep fRep := fun β H σ l st re x y a b Q hx hy h => by
  unfold fRep at h
  split at h
  · rename_i xs k e1
    split at h
    · rename_i q
      rw [Bool.and_eq_true] at q
      obtain ⟨p, vs, rfl, h1, r1⟩ := list_h re.rl hx e1
      cases ru_int hy
      have q1 := of_decide_eq_true q.1
      exact ⟨p, k, vs, rfl, rfl, h1, q1.1, q1.2, by rw [r1.len]; exact of_decide_eq_true q.2, fun z hz => h H β Fut.refl re.rl z _ hz (rts_rep r1 _)⟩
    · exact h.elim
  · exact h.elim
end
end NW
namespace NW
open PySem PySem.Spec PyProof.Rows L2
inductive Rp where
  | ok (d : PyData) (fresh : Bool) | ex (e : Exc) | no
inductive Rf where
  | ok (d : PyData) (fresh : Bool) (fl : Fl) | ex (e : Exc) (fl : Fl) | no
def startL (n : Nat) (us : List U) : Loc := us.map some ++ List.replicate (n - us.length) none
def outP (o : Out) : Rp := match o with
  | .rt (.d x) _ => .ok x false
  | .rt (.ref i) st => (match st.obs[i]? with
    | some (.lst xs) => .ok (.list xs) true
    | _ => .no)
  | .nx _ _ => .ok .none false
  | .ex e _ _ => .ex e
  | _ => .no
def outF (o : Out) : Rf := match o with
  | .rt (.d x) st => (match st.fl with
    | some f => .ok x false f
    | none => .no)
  | .rt (.ref i) st => (match st.obs[i]?, st.fl with
    | some (.lst xs), some f => .ok (.list xs) true f
    | _, _ => .no)
  | .nx _ st => (match st.fl with
    | some f => .ok .none false f
    | none => .no)
  | .ex e _ st => (match st.fl with
    | some f => .ex e f
    | none => .no)
  | _ => .no
def pureOf (n : Nat) (b : MS) (ds : List PyData) : Rp := outP (b (startL n (ds.map .d)) ⟨none, []⟩)
def flowOf (n : Nat) (b : MS) (ds : List PyData) (f : Fl) : Rf := outF (b (startL n (.flow :: ds.map .d)) ⟨some f, []⟩)
def NoTup (H : Hp) (O0 : Addr → Prop) : Prop := ∀ p, O0 p → H p ≠ none ∧ ∀ ws, ¬ Rd H p (.tup ws)
def Fresh (K : PySem.W.Frag) (O0 : Addr → Prop) (H H' : Hp) (v : V) (d : PyData) : Prop := ∃ p ws ys, v = .ref p ∧ H p = none ∧ H' p = some (.lst ws) ∧ d = .list ys ∧ RTs K O0 H' ws ys
def spP (K : PySem.W.Frag) (k : Nat) (m : List PyData → Rp) : Sp := fun vs H Q _ => ∃ (O0 : Addr → Prop) (ds : List PyData) (d : PyData) (fr : Bool), NoTup H O0 ∧ RTs K O0 H vs ds ∧ ds.length = k ∧ m ds = .ok d fr ∧
  ∀ v H', (∀ b o, H b = some o → H' b = some o) → RT K O0 H' v d → (fr = true → Fresh K O0 H H' v d) → Q v H'
def spF (K : PySem.W.Frag) (k : Nat) (m : List PyData → Fl → Rf) : Sp := fun vs H Q _ => ∃ (fa fb : Addr) (O0 : Addr → Prop) (f : Fl) (vs' : List V) (ds : List PyData) (d : PyData) (fr : Bool) (f' : Fl), vs = .ref fa :: vs' ∧ NoTup H O0 ∧ ¬ O0 fa ∧ H fa = some (.lst (flV fb f)) ∧
  H fb = some (.lst (f.cells.map V.int)) ∧ fb ≠ fa ∧ ¬ O0 fb ∧ RTs K (fun p => O0 p ∨ p = fa) H vs' ds ∧ ds.length + 1 = k ∧ m ds f = .ok d fr f' ∧
  ∀ v H', (∀ b o, H b = some o → b ≠ fa → H' b = some o) → H' fa = some (.lst (flV fb f')) → f'.cells = f.cells → RT K (fun p => O0 p ∨ p = fa) H' v d → (fr = true → Fresh K (fun p => O0 p ∨ p = fa) H H' v d) → Q v H'
theorem ints_inj : ∀ {a b : List Int}, a.map V.int = b.map V.int → a = b
  | [], [], _ => rfl
  | [], _ :: _, h => by cases h
  | _ :: _, [], h => by cases h
  | x :: a, y :: b, h => by
    rw [List.map_cons, List.map_cons] at h
    injection h with h1 h2
    injection h1 with h1
    rw [h1, ints_inj h2]
section
variable {P : Program} {w : World} {K : PySem.W.Frag} {mg : Str → Option Value} {base : Heap}
theorem start_len (N : List Str) {vs : List V} {us : List U} (h : vs.length = us.length) (hl : us.length ≤ N.length) : (L2.start N vs).length = (startL N.length us).length := by
  unfold L2.start startL; simp [h]
theorem start_get (N : List Str) {n : Nat} {vs : List V} {us : List U} {i : Nat} {u : U} (e : (startL n us)[i]? = some (some u)) : us[i]? = some u := by
  unfold startL at e
  by_cases h : i < us.length
  · rw [List.getElem?_append_left (by simpa using h)] at e
    rw [List.getElem?_map] at e
    cases q : us[i]? with
    | none => rw [q] at e; cases e
    | some w => rw [q] at e; cases e; rfl
  · rw [List.getElem?_append_right (by simpa using h)] at e
    have := List.getElem?_eq_some_iff.mp e
    obtain ⟨h1, h2⟩ := this
    rw [List.getElem_replicate] at h2; cases h2
theorem start_getV (N : List Str) {vs : List V} {i : Nat} {v : V} (e : vs[i]? = some v) : (L2.start N vs)[i]? = some (some v) := by
  unfold L2.start
  have h : i < vs.length := (List.getElem?_eq_some_iff.mp e).1
  rw [List.getElem?_append_left (by simpa using h), List.getElem?_map, e]; rfl
theorem rp_end {G : Gx} {H : Hp} {o : Out} {Q : VK} {d : PyData} {fr : Bool} (hG : G.K = K) (e : outP o = .ok d fr) (q : ∀ v H', (∀ b o, H b = some o → H' b = some o) → RT K G.O0 H' v d → (fr = true → Fresh K G.O0 H H' v d) → Q v H') :
    wpS G [] H ⟨none, []⟩ o { nx := fun _ H' => Q .non H', rt := Q } := by
  subst hG
  have own0 : ∀ b, ¬ Own G [] ⟨none, []⟩ b := fun b h => by
    rcases h with ⟨h, _⟩ | ⟨i, xs, h, _⟩
    · cases h
    · simp at h
  unfold outP at e
  split at e
  · cases e
    exact fun v H' β' f rl r => q v H' (fun b o h => (f.stay b o h (own0 b)).1) (RT.weak (fun a h => .inl h) _ _ r) (fun z => by cases z)
  · rename_i i st
    split at e
    · rename_i xs hx
      cases e
      intro v H' β' f rl r
      obtain ⟨p, h1, rfl⟩ := r
      obtain ⟨p', vs, a, b, c⟩ := rl.ob i xs hx
      rw [h1] at a; cases a
      have c' : RTs G.K G.O0 H' vs xs := RTs.weak (fun a h => .inl h) _ _ c
      have hf : H p = none := by
        obtain ⟨γ, e, hγ⟩ := f.ext
        rw [List.nil_append] at e; subst e
        exact hγ p (List.mem_of_getElem? h1)
      exact q _ H' (fun b o h => (f.stay b o h (own0 b)).1) (.lst ⟨b, fun z => (rl.o0 p z).2.1 (.inr ⟨i, _, hx, (by intro z; cases z), h1⟩)⟩ c') (fun _ => ⟨p, vs, xs, rfl, hf, b, rfl, c'⟩)
    · cases e
  · cases e
    exact fun σ' H' β' f re => q .non H' (fun b o h => (f.stay b o h (own0 b)).1) .non (fun z => by cases z)
  · cases e
  · cases e
theorem okP {x qual : Str} {st : Stmt} {f : Addr} {fd : FuncData} {N ps : List Str} {k : Nat} {b : MS} (F : Fun K x qual st f fd) (S : FnScope N ps (defScope st)) (hN : ps.length ≤ N.length)
    (hb : ∀ (cdv : Value) (A : Around) (outer : List Env) (s : Shared) (H : Hp) (E : XK), Room k (A.deeper (envOfC qual (defScope st) s.heap.objs.size f cdv)) →
      ∃ t, PSs (cxOf CX0 P w K mg base N qual (defScope st) f cdv A outer s H E).nox (defBody st) t ∧ ∀ G : Gx, G.K = K → SimS G t b) :
    FnOk P w K mg base CX0 (k + 1) f fd ps (spP K ps.length (pureOf N.length b)) := by
  refine F.ok S (fun vs H Q E h => ?_) (fun cdv A outer s H vs Q E hr h => ?_)
  · obtain ⟨O0, ds, d, fr, _, r, hl, _⟩ := h
    rw [r.len, hl]
  · obtain ⟨O0, ds, d, fr, hO, r, hl, e, q⟩ := h
    obtain ⟨t, ht, hs⟩ := hb cdv A outer s H E hr
    refine ⟨t, ht, ?_⟩
    have own0 : ∀ b, ¬ Own ⟨K, 0, 0, O0, fun _ => none, fun _ _ _ _ => False⟩ [] ⟨none, []⟩ b := fun b h => by
      rcases h with ⟨h, _⟩ | ⟨i, xs, h, _⟩
      · cases h
      · simp at h
    have re : Re ⟨K, 0, 0, O0, fun _ => none, fun _ _ _ _ => False⟩ [] H (L2.start N vs) (startL N.length (ds.map .d)) ⟨none, []⟩ := by
      refine ⟨⟨rfl, .nil, fun p hp => by simp at hp, fun i xs h => by simp at h, fun f h => (by cases h), fun p hp => ⟨(hO p hp).1, own0 p, (hO p hp).2⟩⟩, ⟨start_len N (by rw [r.len]; simp) (by simp; omega), fun i u e => ?_⟩⟩
      have e1 := start_get N (vs := vs) e
      rw [List.getElem?_map] at e1
      cases e2 : ds[i]? with
      | none => rw [e2] at e1; cases e1
      | some y =>
        rw [e2] at e1; cases e1
        obtain ⟨v, h1, h2⟩ := r.get e2
        exact ⟨v, start_getV N h1, RT.weak (fun a h => h.elim id fun z => (own0 a z).elim) _ _ h2⟩
    exact hs ⟨K, 0, 0, O0, fun _ => none, fun _ _ _ _ => False⟩ rfl [] H _ _ _ re _ (rp_end (K := K) rfl e q)
theorem rf_end {G : Gx} {H : Hp} {f : Fl} {o : Out} {Q : VK} {d : PyData} {fr : Bool} {f' : Fl} (hG : G.K = K) (hfb : H G.fb = some (.lst (f.cells.map V.int))) (hne : G.fb ≠ G.fa) (e : outF o = .ok d fr f')
    (q : ∀ v H', (∀ b o, H b = some o → b ≠ G.fa → H' b = some o) → H' G.fa = some (.lst (flV G.fb f')) → f'.cells = f.cells → RT K (fun p => G.O0 p ∨ p = G.fa) H' v d → (fr = true → Fresh K (fun p => G.O0 p ∨ p = G.fa) H H' v d) → Q v H') :
    wpS G [] H ⟨some f, []⟩ o { nx := fun _ H' => Q .non H', rt := Q } := by
  subst hG
  have own0 : ∀ b, Own G [] ⟨some f, []⟩ b → b = G.fa := fun b h => by
    rcases h with ⟨_, h⟩ | ⟨i, xs, h, _⟩
    · exact h
    · simp at h
  have bn : ∀ {β' : List Addr} {st' : Sto}, st'.fl = some f' → ∀ a, (G.O0 a ∨ a = G.fa) → Ban G β' st' a := fun h a z => z.imp id fun z => .inl ⟨by rw [h]; rfl, z⟩
  have fin : ∀ {β' : List Addr} {st' : Sto} {H' : Hp}, st'.fl = some f' → Fut G [] ⟨some f, []⟩ H β' st' H' → Rl G β' H' st' → (∀ b o, H b = some o → b ≠ G.fa → H' b = some o) ∧ H' G.fa = some (.lst (flV G.fb f')) ∧ f'.cells = f.cells := fun {β' st' H'} h f1 rl => by
    have s1 : ∀ b o, H b = some o → b ≠ G.fa → H' b = some o := fun b o hb n => (f1.stay b o hb fun z => n (own0 b z)).1
    obtain ⟨⟨h1, h2⟩, _⟩ := rl.flo f' h
    have h3 := s1 _ _ hfb hne
    rw [h2.1] at h3
    refine ⟨s1, h1, ints_inj ?_⟩
    injection h3 with h3; injection h3
  unfold outF at e
  split at e
  · rename_i x st
    split at e
    · rename_i g hg
      cases e
      intro v H' β' f1 rl r
      obtain ⟨a, b, c⟩ := fin hg f1 rl
      exact q v H' a b c (RT.weak (bn hg) _ _ r) (fun z => by cases z)
    · cases e
  · rename_i i st
    split at e
    · rename_i xs g hx hg
      cases e
      intro v H' β' f1 rl r
      obtain ⟨a0, b0, c0⟩ := fin hg f1 rl
      obtain ⟨p, h1, rfl⟩ := r
      obtain ⟨p', vs, a, b, c⟩ := rl.ob i xs hx
      rw [h1] at a; cases a
      have c' : RTs G.K (fun p => G.O0 p ∨ p = G.fa) H' vs xs := RTs.weak (bn hg) _ _ c
      have hf : H p = none := by
        obtain ⟨γ, e, hγ⟩ := f1.ext
        rw [List.nil_append] at e; subst e
        exact hγ p (List.mem_of_getElem? h1)
      refine q _ H' a0 b0 c0 (.lst ⟨b, fun z => ?_⟩ c') (fun _ => ⟨p, vs, xs, rfl, hf, b, rfl, c'⟩)
      rcases z with z | z
      · exact (rl.o0 p z).2.1 (.inr ⟨i, _, hx, (by intro z; cases z), h1⟩)
      · exact (rl.flo _ hg).2 (z ▸ List.mem_of_getElem? h1)
    · cases e
  · split at e
    · rename_i g hg
      cases e
      intro σ' H' β' f1 re
      obtain ⟨a, b, c⟩ := fin hg f1 re.rl
      exact q .non H' a b c .non (fun z => by cases z)
    · cases e
  · split at e <;> cases e
  · cases e
theorem okF {x qual : Str} {st : Stmt} {f : Addr} {fd : FuncData} {N ps : List Str} {k : Nat} {b : MS} (F : Fun K x qual st f fd) (S : FnScope N ps (defScope st)) (hN : ps.length ≤ N.length)
    (hb : ∀ (cdv : Value) (A : Around) (outer : List Env) (s : Shared) (H : Hp) (E : XK), Room k (A.deeper (envOfC qual (defScope st) s.heap.objs.size f cdv)) →
      ∃ t, PSs (cxOf CX0 P w K mg base N qual (defScope st) f cdv A outer s H E).nox (defBody st) t ∧ ∀ G : Gx, G.K = K → SimS G t b) :
    FnOk P w K mg base CX0 (k + 1) f fd ps (spF K ps.length (flowOf N.length b)) := by
  refine F.ok S (fun vs H Q E h => ?_) (fun cdv A outer s H vs Q E hr h => ?_)
  · obtain ⟨fa, fb, O0, g, vs', ds, d, fr, g', rfl, _, _, _, _, _, _, r, hl, _⟩ := h
    rw [List.length_cons, r.len, hl]
  · obtain ⟨fa, fb, O0, g, vs', ds, d, fr, g', rfl, hO, hO1, h1, h2, hne, hO2, r, hl, e, q⟩ := h
    obtain ⟨t, ht, hs⟩ := hb cdv A outer s H E hr
    refine ⟨t, ht, ?_⟩
    have own0 : ∀ b, Own ⟨K, fa, fb, O0, fun _ => none, fun _ _ _ _ => False⟩ [] ⟨some g, []⟩ b ↔ b = fa := fun b => ⟨fun h => by
      rcases h with ⟨_, h⟩ | ⟨i, xs, h, _⟩
      · exact h
      · simp at h, fun h => .inl ⟨rfl, h⟩⟩
    have bn : ∀ a, Ban ⟨K, fa, fb, O0, fun _ => none, fun _ _ _ _ => False⟩ [] ⟨some g, []⟩ a → (O0 a ∨ a = fa) := fun a h => h.imp id (own0 a).mp
    have re : Re ⟨K, fa, fb, O0, fun _ => none, fun _ _ _ _ => False⟩ [] H (L2.start N (.ref fa :: vs')) (startL N.length (.flow :: ds.map .d)) ⟨some g, []⟩ := by
      refine ⟨⟨rfl, .nil, fun p hp => by simp at hp, fun i xs h => by simp at h, fun f h => ?_, fun p hp => ⟨(hO p hp).1, fun z => hO1 ((own0 p).mp z ▸ hp), (hO p hp).2⟩⟩, ⟨start_len N (by simp [r.len]) (by simp; omega), fun i u e => ?_⟩⟩
      · cases h
        exact ⟨⟨h1, h2, fun z => (bn _ z).elim hO2 hne⟩, by simp⟩
      · have e1 := start_get N (vs := .ref fa :: vs') e
        cases i with
        | zero => simp at e1; subst e1; exact ⟨.ref fa, start_getV N rfl, rfl⟩
        | succ i =>
          rw [List.getElem?_cons_succ, List.getElem?_map] at e1
          cases e2 : ds[i]? with
          | none => rw [e2] at e1; cases e1
          | some y =>
            rw [e2] at e1; cases e1
            obtain ⟨v, h1, h2⟩ := r.get e2
            exact ⟨v, start_getV N (by simpa using h1), RT.weak bn _ _ h2⟩
    exact hs ⟨K, fa, fb, O0, fun _ => none, fun _ _ _ _ => False⟩ rfl [] H _ _ _ re _ (rf_end (K := K) rfl h2 hne e q)
end
def ctrees (st : Sto) : List U → Option (List PyData)
  | [] => some []
  | u :: us => match toTree st u, ctrees st us with
    | some x, some xs => some (x :: xs)
    | _, _ => none
def isRef : U → Bool
  | .ref _ => true
  | _ => false
mutual
def noLst : PyData → Bool
  | .list _ => false
  | .tuple xs => noLsts xs
  | _ => true
def noLsts : List PyData → Bool
  | [] => true
  | x :: xs => noLst x && noLsts xs
end
section
variable {G : Gx} {β β' : List Addr} {st st' : Sto} {H H' : Hp} {v : V} {u : U} {σ σ' : L2.St} {l l' : Loc} {D : Ends}
mutual
theorem RT.noLst {K : PySem.W.Frag} {B B' : Addr → Prop} (hB : ∀ p ws, Rd H p (.tup ws) → ¬ B' p) : ∀ (d : PyData) (v : V), noLst d = true → RT K B H v d → RT K B' H v d
  | .none, _, _, h => by cases h; exact .non
  | .bool b, _, _, h => by cases h; exact .bl b
  | .int i, _, _, h => by cases h; exact .int i
  | .str x, _, _, h => by cases h; exact .str x
  | .list ds, _, n, h => by simp [NW.noLst] at n
  | .tuple ds, _, n, h => by
    cases h with
    | tup hs ha => exact .tup (hs.imp (fun z => ⟨z.1, hB _ _ z.1⟩) id) (RTs.noLst hB ds _ (by simpa [NW.noLst] using n) ha)
  | .dict _, _, _, h => by cases h
theorem RTs.noLst {K : PySem.W.Frag} {B B' : Addr → Prop} (hB : ∀ p ws, Rd H p (.tup ws) → ¬ B' p) : ∀ (ds : List PyData) (vs : List V), noLsts ds = true → RTs K B H vs ds → RTs K B' H vs ds
  | [], _, _, h => by cases h; exact .nil
  | d :: ds, _, n, h => by
    rw [NW.noLsts, Bool.and_eq_true] at n
    cases h with
    | cons h1 h2 => exact .cons (RT.noLst hB d _ n.1 h1) (RTs.noLst hB ds _ n.2 h2)
end
theorem toTree_d {x : PyData} (e : toTree st u = some x) (n : isRef u = false) : u = .d x := by
  cases u with
  | d y => cases e; rfl
  | ref i => cases n
  | flow => cases e
  | scr k => cases e
  | dct k => cases e
theorem ctrees_r : ∀ {us : List U} {vs : List V} {ds : List PyData}, Paired (fun v u => RU G β (Ban G β st) H v u) vs us → ctrees st us = some ds → us.any isRef = false → RTs G.K (Ban G β st) H vs ds
  | [], _, ds, .nil, e, _ => by cases e; exact .nil
  | u :: us, _, ds, .cons h t, e, n => by
    rw [List.any_cons, Bool.or_eq_false_iff] at n
    unfold ctrees at e
    split at e
    · rename_i x xs e1 e2
      cases e
      cases toTree_d e1 n.1
      exact .cons h (ctrees_r t e2 n.2)
    · cases e
theorem ctrees_0 (rl : Rl G β H st) {B' : Addr → Prop} (hB : ∀ p, B' p → Ban G β st p ∧ p ∉ β) : ∀ {us : List U} {vs : List V} {ds : List PyData}, Paired (fun v u => RU G β (Ban G β st) H v u) vs us → ctrees st us = some ds → RTs G.K B' H vs ds
  | [], _, ds, .nil, e => by cases e; exact .nil
  | u :: us, _, ds, .cons h t, e => by
    unfold ctrees at e
    split at e
    · rename_i x xs e1 e2
      cases e
      refine .cons ?_ (ctrees_0 rl hB t e2)
      cases u with
      | d y => cases e1; exact RT.weak (fun p z => (hB p z).1) _ _ h
      | flow => cases e1
      | scr k => cases e1
      | dct k => cases e1
      | ref i =>
        simp only [toTree] at e1
        split at e1
        · rename_i ys hy
          cases e1
          obtain ⟨p, h1, rfl⟩ := h
          obtain ⟨q, vs, a, b, c⟩ := rl.ob i ys hy
          rw [h1] at a; cases a
          exact .lst ⟨b, fun z => (hB p z).2 (List.mem_of_getElem? h1)⟩ (RTs.weak (fun p z => (hB p z).1) _ _ c)
        · cases e1
    · cases e
theorem Rl.grown (rl : Rl G β H st) (k : ∀ b o, H b = some o → H' b = some o) : Fut G β st H β st H' ∧ Rl G β H' st := by
  have f : Fut G β st H β st H' := ⟨⟨[], by simp, by simp⟩, fun b h => by
    cases e : H b with
    | none => exact absurd e h
    | some o => rw [k b o e]; simp, fun b o h n => ⟨k b o h, n⟩⟩
  refine ⟨f, rl.len, rl.nodup, fun q hq => f.there q (rl.trk q hq), fun i xs h nd => ?_, fun g hg => ?_, fun q hq => rl.o0_fut f q hq (rl.o0 q hq).2.1⟩
  · obtain ⟨q, vs, a, b, c⟩ := rl.oo i xs h nd
    exact ⟨q, vs, a, k _ _ b, f.obr c⟩
  · obtain ⟨⟨a, b⟩, c⟩ := rl.flo g hg
    exact ⟨⟨k _ _ a, b.fut f⟩, c⟩
theorem Rl.noTupB (rl : Rl G β H st) : NoTup H (Ban G β st) := fun p h => ⟨fun e => rl.notBan e h, fun ws => rl.banNoTup h ws⟩
def fCallP (k : Nat) (m : List PyData → Rp) (us : List U) (st : Sto) : Res U := match ctrees st us with
  | some ds => if ds.length = k then (match m ds with
    | .ok d _ => if (!us.any isRef || noLst d) = true then .ok (.d d) st else .no
    | _ => .no) else .no
  | none => .no
def eCallP (k : Nat) (m : List PyData → Rp) (a : MA) : ME := fun l st => (a l st).bind (fCallP k m)
theorem s_callP {k : Nat} {m : List PyData → Rp} {ta : TA} {a : MA} {E : XK} (ha : SimA G ta a) : SimE G (tCall (spP G.K k m) [] E ta) (eCallP k m a) := fun β H σ l st re Q h => by
  refine ha β H σ l st re _ (wpR_bind h fun vs us H1 β1 st1 f1 rl1 p1 h1 => ?_)
  show spP G.K k m (vs ++ []) H1 Q E
  rw [List.append_nil]
  unfold fCallP at h1
  split at h1
  · rename_i ds e
    split at h1
    · rename_i hk
      split at h1
      · rename_i d fr e2
        split at h1
        · rename_i hc
          by_cases hr : us.any isRef = false
          · refine ⟨Ban G β1 st1, ds, d, fr, rl1.noTupB, ctrees_r p1 e hr, hk, e2, fun v H' kk rt _ => ?_⟩
            obtain ⟨f2, rl2⟩ := rl1.grown kk
            exact h1 v H' β1 f2 rl2 rt
          · have hr' : us.any isRef = true := by simpa using hr
            rw [hr'] at hc
            refine ⟨fun _ => False, ds, d, fr, fun p h => h.elim, ctrees_0 rl1 (fun p z => z.elim) p1 e, hk, e2, fun v H' kk rt _ => ?_⟩
            obtain ⟨f2, rl2⟩ := rl1.grown kk
            exact h1 v H' β1 f2 rl2 (RT.noLst (fun p ws z => rl2.tupB z) _ _ (by simpa using hc) rt)
        · exact h1.elim
      · exact h1.elim
    · exact h1.elim
  · exact h1.elim
def fCallF (k : Nat) (m : List PyData → Fl → Rf) (us : List U) (st : Sto) : Res U := match us, st.fl with
  | .flow :: us, some f => (match ctrees st us with
    | some ds => if ds.length + 1 = k then (match m ds f with
      | .ok d _ f' => if (!us.any isRef || noLst d) = true then .ok (.d d) { st with fl := some f' } else .no
      | _ => .no) else .no
    | none => .no)
  | _, _ => .no
def eCallF (k : Nat) (m : List PyData → Fl → Rf) (a : MA) : ME := fun l st => (a l st).bind (fCallF k m)
theorem s_callF {k : Nat} {m : List PyData → Fl → Rf} {ta : TA} {a : MA} {E : XK} (ha : SimA G ta a) : SimE G (tCall (spF G.K k m) [] E ta) (eCallF k m a) := fun β H σ l st re Q h => by
  refine ha β H σ l st re _ (wpR_bind h fun vs us H1 β1 st1 f1 rl1 p1 h1 => ?_)
  show spF G.K k m (vs ++ []) H1 Q E
  rw [List.append_nil]
  unfold fCallF at h1
  split at h1
  · rename_i us0 f hf
    split at h1
    · rename_i ds e
      split at h1
      · rename_i hk
        split at h1
        · rename_i d fr f' e2
          split at h1
          · rename_i hc
            have p1' : Paired (fun v u => RU G β1 (Ban G β1 st1) H1 v u) vs (.flow :: us0) := p1
            cases p1' with
            | cons r0 rs =>
              rename_i v0 vs0
              cases (show v0 = .ref G.fa from r0)
              obtain ⟨⟨a0, b0⟩, c0⟩ := rl1.flo f hf
              have ofa : Own G β1 st1 G.fa := .inl ⟨by rw [hf]; rfl, rfl⟩
              have hne : G.fb ≠ G.fa := fun e => b0.2 (.inr (e ▸ ofa))
              by_cases hr : us0.any isRef = false
              · have eb : ∀ p, (Ban G β1 st1 p ∧ p ≠ G.fa) ∨ p = G.fa ↔ Ban G β1 st1 p := fun p => ⟨fun h => h.elim (·.1) fun e => .inr (e ▸ ofa), fun h => by
                  by_cases e : p = G.fa
                  · exact .inr e
                  · exact .inl ⟨h, e⟩⟩
                refine ⟨G.fa, G.fb, fun p => Ban G β1 st1 p ∧ p ≠ G.fa, f, vs0, ds, d, fr, f', rfl, fun p h => rl1.noTupB p h.1, fun h => h.2 rfl, a0, b0.1, hne, fun h => b0.2 h.1, RTs.weak (fun p h => (eb p).mp h) _ _ (ctrees_r rs e hr), hk, e2, fun v H' kk hfa hcl rt _ => ?_⟩
                obtain ⟨f2, rl2⟩ := flow_end rl1 hf kk hfa hcl
                exact h1 v H' β1 f2 rl2 (RT.weak (fun p h => (eb p).mpr (h.imp id (own_fl hf p).mp)) _ _ rt)
              · have hr' : us0.any isRef = true := by simpa using hr
                rw [hr'] at hc
                have b1 : RTs G.K (fun p => False ∨ p = G.fa) H1 vs0 ds := ctrees_0 rl1 (fun p z => z.elim False.elim fun z => ⟨z ▸ .inr ofa, z ▸ c0⟩) rs e
                refine ⟨G.fa, G.fb, fun _ => False, f, vs0, ds, d, fr, f', rfl, fun p h => h.elim, fun h => h, a0, b0.1, hne, fun h => h, b1, hk, e2, fun v H' kk hfa hcl rt _ => ?_⟩
                obtain ⟨f2, rl2⟩ := flow_end rl1 hf kk hfa hcl
                exact h1 v H' β1 f2 rl2 (RT.noLst (fun p ws z => rl2.tupB z) _ _ (by simpa using hc) rt)
          · exact h1.elim
        · exact h1.elim
      · exact h1.elim
    · exact h1.elim
  · exact h1.elim
end
end NW
namespace NW
open PySem PySem.Spec PyProof.Rows L2
structure QE (X : Cx) (e : Expr) (t : TE) (m : ME) : Prop where
  pe : PE X e t
  sim : ∀ G : Gx, G.K = X.K → SimE G t m
structure QN (X : Cx) (e : Expr) (t : TE) (m : ML) : Prop where
  pe : PE X e t
  sim : ∀ G : Gx, G.K = X.K → SimN G t m
structure QT (X : Cx) (e : Expr) (t : TT) (m : MB) : Prop where
  pt : PT X e t
  sim : ∀ G : Gx, G.K = X.K → SimT G t m
structure QW (X : Cx) (e : Expr) (t : TT) (m : MB) : Prop where
  pw : PW X e t
  sim : ∀ G : Gx, G.K = X.K → SimT G t m
structure QA (X : Cx) (es : List Expr) (t : TA) (m : MA) : Prop where
  pa : PA X es t
  sim : ∀ G : Gx, G.K = X.K → SimA G t m
structure QO (X : Cx) (e : Option Expr) (t : TO) (m : MO) : Prop where
  po : L2.PO X e t
  sim : ∀ G : Gx, G.K = X.K → SimO G t m
structure QI (X : Cx) (tg e : Expr) (t : TI) (m : MI) : Prop where
  pi : PI X tg e t
  sim : ∀ G : Gx, G.K = X.K → SimI G t m
structure QG (X : Cx) (vs : List Nat) (e : Expr) (g : TG) (m : MT) : Prop where
  pg : PG X e g
  sim : ∀ G : Gx, G.K = X.K → SimG G vs g m
structure QGs (X : Cx) (vs : List Nat) (es : List Expr) (g : TGs) (m : MTs) : Prop where
  pgs : PGs X es g
  sim : ∀ G : Gx, G.K = X.K → SimGs G vs g m
  ne : ∀ ds l st, (m ds l st).noEx
structure QS (X : Cx) (s : Stmt) (t : TS) (m : MS) : Prop where
  ps : PS X s t
  sim : ∀ G : Gx, G.K = X.K → SimS G t m
structure QSs (X : Cx) (s : List Stmt) (t : TS) (m : MS) : Prop where
  pss : PSs X s t
  sim : ∀ G : Gx, G.K = X.K → SimS G t m
section
variable {X : Cx} {a b c e o i : Expr} {es : List Expr} {pos p pos2 : Pos} {ta tb tc te to ti : TE} {ma mb mc me mo mi : ME} {t u : TT} {mt mu : MB} {tA : TA} {mA : MA}
theorem q_var (i : Nat) {x : Str} (hN : X.N[i]? = some x := by rfl) (hv : Vis X.env.scope x := by first | exact Or.inl rfl | exact Or.inr (Or.inl rfl) | exact Or.inr (Or.inr rfl)) (hd : (x == ("__debug__" : Str)) = false := by decide)
    (hcd : (x == ("__classdict__" : Str)) = false := by decide) : QE X (.Name x pos) (tVar i) (eVar i) := ⟨pv i hN hv hd hcd, fun _ _ => s_var i⟩
theorem q_int {n : Int} {j : Nat} : QE X (.Constant (.int n) j pos) (tC (.int n)) (eC (.int n)) := ⟨pe_int, fun _ _ => s_int n⟩
theorem q_bl {n : Bool} {j : Nat} : QE X (.Constant (.bool n) j pos) (tC (.bl n)) (eC (.bool n)) := ⟨pe_bl, fun _ _ => s_bl n⟩
theorem q_non {j : Nat} : QE X (.Constant .none j pos) (tC .non) (eC .none) := ⟨pe_non, fun _ _ => s_non⟩
theorem q_str {z : Str} {j : Nat} : QE X (.Constant (.str z) j pos) (tC (.str z)) (eC (.str z)) := ⟨pe_str, fun _ _ => s_str z⟩
def IsC (K : PySem.W.Frag) (u : Value) (v : V) (x : PyData) : Prop := RelV v u ∧ ∀ B H, RT K B H v x
theorem q_glob {x : Str} {u : Value} {v : V} {d : PyData} (hg : Gl X x) (hm : X.mg x = some u) (h : IsC X.K u v d) (hd : (x == ("__debug__" : Str)) = false := by decide) : QE X (.Name x pos) (tC v) (eC d) :=
  ⟨pe_glob hg hm h.1 hd, fun G hG => s_c (by rw [hG]; exact h.2)⟩
theorem q_sub (ha : QE X a ta ma) (hb : QE X b tb mb) : QE X (.BinOp a .Sub b pos) (tOp (rI0 fun i j => .int (i - j)) ta tb) (eOp fSub ma mb) := ⟨pe_op op_sub ha.pe hb.pe, fun G h => s_op r_sub (ha.sim G h) (hb.sim G h)⟩
theorem q_mod (ha : QE X a ta ma) (hb : QE X b tb mb) : QE X (.BinOp a .Mod b pos) (tOp (rI (fun _ j => j ≠ 0) fun i j => .int (i.fmod j)) ta tb) (eOp fMod ma mb) := ⟨pe_op op_modN ha.pe hb.pe, fun G h => s_op r_mod (ha.sim G h) (hb.sim G h)⟩
theorem q_div (hS : SeX X.prog X.base X.A X.stack) (ha : QE X a ta ma) (hb : QE X b tb mb) : QE X (.BinOp a .FloorDiv b pos) (tOp (rI CDivA fun i j => .int (i.fdiv j)) ta tb) (eOp fDiv ma mb) := ⟨pe_op (op_fdivA hS) ha.pe hb.pe, fun G h => s_op r_div (ha.sim G h) (hb.sim G h)⟩
theorem q_pow (ha : QE X a ta ma) (hb : QE X b tb mb) : QE X (.BinOp a .Pow b pos) (tOp (rI CPow fun i j => .int (i ^ j.toNat)) ta tb) (eOp fPow ma mb) := ⟨pe_op op_pow ha.pe hb.pe, fun G h => s_op r_pow (ha.sim G h) (hb.sim G h)⟩
theorem q_neg (n : Int) {j : Nat} {p2 : Pos} : QE X (.UnaryOp .USub (.Constant (.int n) j p2) pos) (tUn (rU fun i => .int (-i)) (tC (.int n))) (eC (.int (-n))) :=
  ⟨pe_un un_neg pe_int, fun G h β H σ l st re Q q => ⟨n, rfl, wpR_d re.rl (.int _) q⟩⟩
theorem qn_cat (ha : QE X a ta ma) (hb : QE X b tb mb) : QN X (.BinOp a .Add b pos) (tOp rCat ta tb) (lOp fCat ma mb) := ⟨pe_op op_cat ha.pe hb.pe, fun G h => n_op rn_cat (ha.sim G h) (hb.sim G h)⟩
theorem qn_rep (ha : QE X a ta ma) (hb : QE X b tb mb) : QN X (.BinOp a .Mult b pos) (tOp rRep ta tb) (lOp fRep ma mb) := ⟨pe_op op_rep ha.pe hb.pe, fun G h => n_op rn_rep (ha.sim G h) (hb.sim G h)⟩
theorem q_lt (ha : QE X a ta ma) (hb : QE X b tb mb) : QE X (.Compare a [.Lt] [b] pos) (tOp (rI0 fun i j => .bl (decide (i < j))) ta tb) (eOp fLt ma mb) := ⟨pe_cmpR op_lt ha.pe hb.pe (nomark _), fun G h => s_op r_lt (ha.sim G h) (hb.sim G h)⟩
theorem q_gt (ha : QE X a ta ma) (hb : QE X b tb mb) : QE X (.Compare a [.Gt] [b] pos) (tOp (rI0 fun i j => .bl (decide (j < i))) ta tb) (eOp fGt ma mb) := ⟨pe_cmpR op_gt ha.pe hb.pe (nomark _), fun G h => s_op r_gt (ha.sim G h) (hb.sim G h)⟩
theorem q_eq {k : Nat} (hr : Room k X.A) (ha : QE X a ta ma) (hb : QE X b tb mb) : QE X (.Compare a [.Eq] [b] pos) (tOp (rEqD X.K) ta tb) (eOp (opEq false) ma mb) := ⟨pe_cmpR (op_eqD hr.units) ha.pe hb.pe (nomark _), fun G h => h ▸ s_op r_eq (ha.sim G h) (hb.sim G h)⟩
theorem q_ne {k : Nat} (hr : Room k X.A) (ha : QE X a ta ma) (hb : QE X b tb mb) : QE X (.Compare a [.NotEq] [b] pos) (tOp (rNeD X.K) ta tb) (eOp (opEq true) ma mb) := ⟨pe_cmpR (op_neD hr.units) ha.pe hb.pe (nomark _), fun G h => h ▸ s_op r_ne (ha.sim G h) (hb.sim G h)⟩
structure CR2 (X : Cx) (op : CmpOp) (r : R2) (f : U → U → Sto → Res U) : Prop where
  op : OpR X (compareOp op) r
  sim : ∀ G : Gx, SimR G r f
theorem cr_le : CR2 X .LtE (rI0 fun i j => .bl (decide (i ≤ j))) fLe := ⟨op_le, fun _ => r_le⟩
theorem qt_tru (h : QE X e te me) (he : ∀ whole, isTrue e X.env whole = (do let v ← whole; standAt e.pos; holding [v] (truthy v)) := by intro _; rfl) : QT X e (fun σ H Q => te σ H fun x H' => ∃ k, TruV X.K x H' k ∧ Q k H') (bTru me) := ⟨pt_truth h.pe he, fun G hG => hG ▸ s_tru (h.sim G hG)⟩
theorem qt_lt (ha : QE X a ta ma) (hb : QE X b tb mb) : QT X (.Compare a [.Lt] [b] pos) (tTest (tOp (rI0 fun i j => .bl (decide (i < j))) ta tb)) (bTest (eOp fLt ma mb)) := ⟨pt_cmpR op_lt ha.pe hb.pe (nomark _), fun G h => s_test (s_op r_lt (ha.sim G h) (hb.sim G h))⟩
theorem qt_gt (ha : QE X a ta ma) (hb : QE X b tb mb) : QT X (.Compare a [.Gt] [b] pos) (tTest (tOp (rI0 fun i j => .bl (decide (j < i))) ta tb)) (bTest (eOp fGt ma mb)) := ⟨pt_cmpR op_gt ha.pe hb.pe (nomark _), fun G h => s_test (s_op r_gt (ha.sim G h) (hb.sim G h))⟩
theorem qt_ge (ha : QE X a ta ma) (hb : QE X b tb mb) : QT X (.Compare a [.GtE] [b] pos) (tTest (tOp (rI0 fun i j => .bl (decide (j ≤ i))) ta tb)) (bTest (eOp fGe ma mb)) := ⟨pt_cmpR op_ge ha.pe hb.pe (nomark _), fun G h => s_test (s_op r_ge (ha.sim G h) (hb.sim G h))⟩
theorem qt_eq {k : Nat} (hr : Room k X.A) (ha : QE X a ta ma) (hb : QE X b tb mb) : QT X (.Compare a [.Eq] [b] pos) (tTest (tOp (rEqD X.K) ta tb)) (bTest (eOp (opEq false) ma mb)) := ⟨pt_cmpR (op_eqD hr.units) ha.pe hb.pe (nomark _), fun G h => h ▸ s_test (s_op r_eq (ha.sim G h) (hb.sim G h))⟩
theorem qt_ne {k : Nat} (hr : Room k X.A) (ha : QE X a ta ma) (hb : QE X b tb mb) : QT X (.Compare a [.NotEq] [b] pos) (tTest (tOp (rNeD X.K) ta tb)) (bTest (eOp (opEq true) ma mb)) := ⟨pt_cmpR (op_neD hr.units) ha.pe hb.pe (nomark _), fun G h => h ▸ s_test (s_op r_ne (ha.sim G h) (hb.sim G h))⟩
theorem qt_in (ha : QE X a ta ma) (hb : QE X b tb mb) (hm : behindInMarks .In b = false := by rfl) : QT X (.Compare a [.In] [b] pos) (tTest (tOp (rIn X.K false) ta tb)) (bTest (eOp (fIn false) ma mb)) := ⟨pt_cmpR op_in_seq ha.pe hb.pe hm, fun G h => h ▸ s_test (s_op (r_in false) (ha.sim G h) (hb.sim G h))⟩
theorem qt_isN (ha : QE X a ta ma) (hb : QE X b tb mb) : QT X (.Compare a [.Is] [b] pos) (tTest (tOp (fun x y H Q => y = .non ∧ Q (.bl (decide (x = .non))) H) ta tb)) (bTest (eOp (fIsN false) ma mb)) := ⟨pt_cmpR op_isN ha.pe hb.pe (nomark _), fun G h => s_test (s_op r_isN (ha.sim G h) (hb.sim G h))⟩
theorem qt_chain {op op' : CmpOp} {r r' : R2} {f g : U → U → Sto → Res U} (h1 : CR2 X op r f) (h2 : CR2 X op' r' g) (ha : QE X a ta ma) (hb : QE X b tb mb) (hc : QE X c tc mc) (hm : lastMarks [op, op'] [b, c] = false := by with_unfolding_all rfl) : QT X (.Compare a [op, op'] [b, c] pos) (tTest (tChain r r' ta tb tc)) (bTest (eChain f g ma mb mc)) :=
  ⟨pt_chain h1.op h2.op ha.pe hb.pe hc.pe hm, fun G h => s_test (s_chain (h1.sim G) (h2.sim G) (ha.sim G h) (hb.sim G h) (hc.sim G h))⟩
theorem qt_not (ha : QT X a t mt) : QT X (.UnaryOp .Not a pos) (tNot t) (bNot mt) := ⟨pt_not ha.pt, fun G h => s_not (ha.sim G h)⟩
theorem qw_and1 (ha : QT X a t mt) : QW X (.BoolOp .And [a] pos) t mt := ⟨pw_and1 ha.pt, ha.sim⟩
theorem qw_or1 (ha : QT X a t mt) : QW X (.BoolOp .Or [a] pos) t mt := ⟨pw_or1 ha.pt, ha.sim⟩
theorem qw_and (ha : QT X a t mt) (hb : QW X (.BoolOp .And (b :: es) pos) u mu) : QW X (.BoolOp .And (a :: b :: es) pos) (tAnd t u) (bAnd mt mu) := ⟨pw_and ha.pt hb.pw, fun G h => s_and (ha.sim G h) (hb.sim G h)⟩
theorem qw_or (ha : QT X a t mt) (hb : QW X (.BoolOp .Or (b :: es) pos) u mu) : QW X (.BoolOp .Or (a :: b :: es) pos) (tOr t u) (bOr mt mu) := ⟨pw_or ha.pt hb.pw, fun G h => s_or (ha.sim G h) (hb.sim G h)⟩
theorem qt_w (h : QW X e t mt) : QT X e t mt := ⟨h.pw.pt, h.sim⟩
theorem q_one {op : BoolOp} (h : QE X a ta ma) : QE X (.BoolOp op [a] pos) ta ma := ⟨pe_one h.pe, h.sim⟩
theorem q_and (ha : QE X a ta ma) (hb : QE X (.BoolOp .And (b :: es) pos) tb mb) : QE X (.BoolOp .And (a :: b :: es) pos) (tAndV ta tb) (eAndV ma mb) := ⟨pe_and ha.pe hb.pe, fun G h => s_andV (ha.sim G h) (hb.sim G h)⟩
theorem q_or (ha : QE X a ta ma) (hb : QE X (.BoolOp .Or (b :: es) pos) tb mb) : QE X (.BoolOp .Or (a :: b :: es) pos) (tOrV ta tb) (eOrV ma mb) := ⟨pe_or ha.pe hb.pe, fun G h => s_orV (ha.sim G h) (hb.sim G h)⟩
theorem qa_nil : QA X [] tNil aNil := ⟨pa_nil, fun _ _ => s_nil⟩
theorem qa_cons (ha : QE X e te me) (hr : QA X es tA mA) (hs : starEach (e :: es) X.env = (false, eval e X.env) :: starEach es X.env := by rfl) : QA X (e :: es) (tCons te tA) (aCons me mA) := ⟨pa_cons ha.pe hr.pa hs, fun G h => s_cons (ha.sim G h) (hr.sim G h)⟩
theorem q_tup {x1} (h : QA X es tA mA) : QE X (.Tuple es x1 pos) (tTup tA) (eTup mA) := ⟨pe_tup h.pa, fun G hG => s_tup (h.sim G hG)⟩
theorem qn_disp (h : QA X es tA mA) : QN X (.List es pos) (tLst tA) (lDisp mA) := ⟨pe_lst h.pa, fun G hG => n_disp (h.sim G hG)⟩
theorem q_frz {m : ML} (h : QN X e te m) : QE X e te (eFrz m) := ⟨h.pe, fun G hG => s_frz (h.sim G hG)⟩
theorem q_own {m : ML} (h : QN X e te m) : QE X e te (eOwn m) := ⟨h.pe, fun G hG => s_own (h.sim G hG)⟩
theorem q_ix (ha : QE X a ta ma) (hb : QE X b tb mb) (hs : PlainIx b := by exact fun _ _ => rfl) : QE X (.Subscript a b pos) (tOp (rIx X.K) ta tb) (eOp fIx ma mb) := ⟨pe_ix ix_seq ha.pe hb.pe hs, fun G h => h ▸ s_op r_ix (ha.sim G h) (hb.sim G h)⟩
theorem qo_none : QO X none tNoPart oNone := ⟨po_none, fun _ _ => s_oNone⟩
theorem qo_some (h : QE X e te me) : QO X (some e) (tPart te) (oSome me) := ⟨po_some h.pe, fun G hG => s_oSome (h.sim G hG)⟩
theorem q_len (hm : X.mg "len" = none) (h : QA X [e] tA mA) (hg : Gl X "len" := by rfl) (he : starEach (e :: []) X.env = (false, eval e X.env) :: starEach [] X.env := by rfl) (hpl : (backTo pos (starEach [] X.env)).any (·.1) = false := by rfl) : QE X (.Call (.Name "len" p) [e] [] pos) (tCB (fun xs H Q => ∃ x n, xs = [x] ∧ LenV X.K x H n ∧ Q (.int n) H) tA) (eCB cLen mA) :=
  ⟨pe_callB call_len hg hm PySem.boot_len h.pa (by decide) (by decide) he hpl, fun G hG => hG ▸ s_cb c_len (h.sim G hG)⟩
theorem q_abs (hm : X.mg "abs" = none) (h : QA X [e] tA mA) (hg : Gl X "abs" := by rfl) (he : starEach (e :: []) X.env = (false, eval e X.env) :: starEach [] X.env := by rfl) (hpl : (backTo pos (starEach [] X.env)).any (·.1) = false := by rfl) : QE X (.Call (.Name "abs" p) [e] [] pos) (tCB (fun xs H Q => ∃ i, xs = [.int i] ∧ Q (.int (if i < 0 then -i else i)) H) tA) (eCB cAbs mA) :=
  ⟨pe_callB call_abs hg hm boot_abs h.pa (by decide) (by decide) he hpl, fun G hG => s_cb c_abs (h.sim G hG)⟩
theorem q_intc (hm : X.mg "int" = none) (h : QA X [e] tA mA) (hg : Gl X "int" := by rfl) (he : starEach (e :: []) X.env = (false, eval e X.env) :: starEach [] X.env := by rfl) (hpl : (backTo pos (starEach [] X.env)).any (·.1) = false := by rfl) : QE X (.Call (.Name "int" p) [e] [] pos) (tCB (fun xs H Q => (∃ i, xs = [.int i] ∧ Q (.int i) H) ∨ ∃ k, xs = [.bl k] ∧ Q (.int (if k then 1 else 0)) H) tA) (eCB cInt mA) :=
  ⟨pe_callTy call_int1 hg hm boot_int h.pa (by decide) (by decide) he hpl, fun G hG => s_cb c_int (h.sim G hG)⟩
theorem q_max2 (hc : X.calm = true) (hm : X.mg "max" = none) (h : QA X [a, b] tA mA) (hg : Gl X "max" := by rfl) (he : starEach (a :: [b]) X.env = (false, eval a X.env) :: starEach [b] X.env := by rfl) (hpl : (backTo pos (starEach [b] X.env)).any (·.1) = false := by rfl) : QE X (.Call (.Name "max" p) [a, b] [] pos) (tCB (fun xs H Q => ∃ i j, xs = [.int i, .int j] ∧ Q (.int (if j > i then j else i)) H) tA) (eCB cMax2 mA) :=
  ⟨pe_callB (call_max2 hc) hg hm boot_max h.pa (by decide) (by decide) he hpl, fun G hG => s_cb c_max2 (h.sim G hG)⟩
theorem q_min2 (hc : X.calm = true) (hm : X.mg "min" = none) (h : QA X [a, b] tA mA) (hg : Gl X "min" := by rfl) (he : starEach (a :: [b]) X.env = (false, eval a X.env) :: starEach [b] X.env := by rfl) (hpl : (backTo pos (starEach [b] X.env)).any (·.1) = false := by rfl) : QE X (.Call (.Name "min" p) [a, b] [] pos) (tCB (fun xs H Q => ∃ i j, xs = [.int i, .int j] ∧ Q (.int (if j < i then j else i)) H) tA) (eCB cMin2 mA) :=
  ⟨pe_callB (call_min2 hc) hg hm boot_min h.pa (by decide) (by decide) he hpl, fun G hG => s_cb c_min2 (h.sim G hG)⟩
theorem q_all (hc : X.calm = true) (hm : X.mg "all" = none) (h : QA X [e] tA mA) (hg : Gl X "all" := by rfl) (he : starEach (e :: []) X.env = (false, eval e X.env) :: starEach [] X.env := by rfl) (hpl : (backTo pos (starEach [] X.env)).any (·.1) = false := by rfl) : QE X (.Call (.Name "all" p) [e] [] pos) (tCB (rAll X.K) tA) (eCB cAll mA) :=
  ⟨pe_callB (cr_all hc) hg hm (by decide +kernel) h.pa (by decide) (by decide) he hpl, fun G hG => hG ▸ s_cb c_all (h.sim G hG)⟩
theorem qn_list (hm : X.mg "list" = none) (h : QA X [e] tA mA) (hg : Gl X "list" := by rfl) (he : starEach (e :: []) X.env = (false, eval e X.env) :: starEach [] X.env := by rfl) (hpl : (backTo pos (starEach [] X.env)).any (·.1) = false := by rfl) : QN X (.Call (.Name "list" p) [e] [] pos) (tCB (fun xs H Q => ∃ p ys, xs = [.ref p] ∧ (SqL X.K H p ys ∨ SqT X.K H p ys) ∧ ∀ l, H l = none → Q (.ref l) (upd H l (.lst ys))) tA) (lCB cListOf mA) :=
  ⟨pe_callTy call_list_of hg hm boot_list h.pa (by decide) (by decide) he hpl, fun G hG => hG ▸ n_cb c_listOf (h.sim G hG)⟩
theorem q_tuple (hm : X.mg "tuple" = none) (h : QA X [e] tA mA) (hg : Gl X "tuple" := by rfl) (he : starEach (e :: []) X.env = (false, eval e X.env) :: starEach [] X.env := by rfl) (hpl : (backTo pos (starEach [] X.env)).any (·.1) = false := by rfl) : QE X (.Call (.Name "tuple" p) [e] [] pos) (tCB (fun xs H Q => ∃ p ys, xs = [.ref p] ∧ ((SqL X.K H p ys ∧ ∀ l, H l = none → Q (.ref l) (upd H l (.tup ys))) ∨ (SqT X.K H p ys ∧ Q (.ref p) H))) tA) (eCB cTupOf mA) :=
  ⟨pe_callTy call_tuple_of hg hm boot_tuple h.pa (by decide) (by decide) he hpl, fun G hG => hG ▸ s_cb c_tupOf (h.sim G hG)⟩
theorem q_isi {T : String} {x : Str} {p3 : Pos} (hm : X.mg "isinstance" = none) (hT : X.mg x = none) (hv : bootBuiltins x = some (.type T)) (h : QE X e te me) (hg : Gl X "isinstance" := by rfl) (hgx : Gl X x := by rfl) (hnx : x ≠ "__name__" := by decide) (hdx : (x == ("__debug__" : Str)) = false := by decide)
    (he : starEach (e :: [.Name x p3]) X.env = (false, eval e X.env) :: starEach [.Name x p3] X.env := by rfl) (he2 : starEach ((.Name x p3) :: []) X.env = (false, eval (.Name x p3) X.env) :: starEach [] X.env := by rfl) (hpl : (backTo pos (starEach [.Name x p3] X.env)).any (·.1) = false := by rfl) :
    QE X (.Call (.Name "isinstance" p) [e, .Name x p3] [] pos) (tCB (rIsi X.K) (tCons te (tCons (tC (.ty T)) tNil))) (eIsi me T) :=
  ⟨pe_callB call_isi hg hm boot_isinstance (pa_cons h.pe (pa_cons (pe_bltn (v := .ty T) hgx hT hv rfl hnx hdx) pa_nil he2) he) (by decide) (by decide) he hpl, fun G hG => hG ▸ s_isi (h.sim G hG)⟩
structure QTys (X : Cx) (es : List Expr) (Ts : List String) : Prop where
  pa : PA X es (tTys Ts)
theorem qty_nil : QTys X [] [] := ⟨pa_nil⟩
theorem qty_cons {T : String} {x : Str} {p3 : Pos} {Ts : List String} (hT : X.mg x = none) (hv : bootBuiltins x = some (.type T)) (h : QTys X es Ts) (hgx : Gl X x := by rfl) (hnx : x ≠ "__name__" := by decide) (hdx : (x == ("__debug__" : Str)) = false := by decide)
    (hs : starEach (.Name x p3 :: es) X.env = (false, eval (.Name x p3) X.env) :: starEach es X.env := by rfl) : QTys X (.Name x p3 :: es) (T :: Ts) := ⟨pa_cons (pe_bltn (v := .ty T) hgx hT hv rfl hnx hdx) h.pa hs⟩
theorem q_isiT {Ts : List String} {x1 : Nat} {p3 : Pos} (hm : X.mg "isinstance" = none) (h : QE X e te me) (hT : QTys X es Ts) (hg : Gl X "isinstance" := by rfl)
    (he : starEach (e :: [.Tuple es x1 p3]) X.env = (false, eval e X.env) :: starEach [.Tuple es x1 p3] X.env := by rfl) (he2 : starEach ((.Tuple es x1 p3) :: []) X.env = (false, eval (.Tuple es x1 p3) X.env) :: starEach [] X.env := by rfl) (hpl : (backTo pos (starEach [.Tuple es x1 p3] X.env)).any (·.1) = false := by rfl) :
    QE X (.Call (.Name "isinstance" p) [e, .Tuple es x1 p3] [] pos) (tCB (rIsiT X.K) (tCons te (tCons (tTup (tTys Ts)) tNil))) (eIsiT me Ts) :=
  ⟨pe_callB call_isiT hg hm boot_isinstance (pa_cons h.pe (pa_cons (pe_tup hT.pa) pa_nil he2) he) (by decide) (by decide) he hpl, fun G hG => hG ▸ s_isiT (h.sim G hG)⟩
theorem q_append {apos : Pos} (ho : QE X o to mo) (ha : QA X [e] tA mA) (hbase : attributeBase o "append" X.env (eval o X.env) = eval o X.env := by rfl)
    (hfew : ((backTo pos (starEach (e :: []) X.env)).all (fun x => !x.1) && (backToKw pos (keywordEach [] X.env)).all (fun x => x.1.isSome) && decide ((e :: []).length + ([] : List Keyword).length + (if ([] : List Keyword).isEmpty then 0 else 1) < 30)) = true := by rfl)
    (hline : (apos.endLine == pos.line) = true := by rfl) (hs : starEach (e :: []) X.env = (false, eval e X.env) :: starEach [] X.env := by rfl) (hplain : (backTo pos (starEach [] X.env)).any (·.1) = false := by rfl) :
    QE X (.Call (.Attribute o "append" apos) [e] [] pos) (tBM X.K "list" rAppend to tA) (eMethL mAppend mo mA) :=
  ⟨pe_bm PySem.F.plainAttrs_list PySem.F.slot_list_append PySem.F.type_list_append mt_append ho.pe ha.pa hbase hfew hline hs hplain, fun G hG => hG ▸ s_methL m_append (ho.sim G hG) (ha.sim G hG)⟩
theorem q_pop {apos : Pos} (ho : QE X o to mo) (hbase : attributeBase o "pop" X.env (eval o X.env) = eval o X.env := by rfl) (hline : (apos.endLine == pos.line) = true := by rfl) :
    QE X (.Call (.Attribute o "pop" apos) [] [] pos) (tBM0 X.K "list" rPop to) (eMethL mPop mo aNil) :=
  ⟨pe_bm0 PySem.F.plainAttrs_list PySem.F.slot_list_pop PySem.F.type_list_pop mt_pop ho.pe hbase hline, fun G hG => hG ▸ s_methL0 m_pop (ho.sim G hG)⟩
theorem q_callP {k n : Nat} {f : Addr} {fd : FuncData} {ps : List Str} {m : List PyData → Rp} {x : Str} (F : FnOk X.prog X.w X.K X.mg X.base CX0 k f fd ps (spP X.K n m)) (hr : Room k X.A) (hm : X.mg x = some (.ref f)) (hk : PySem.W.keepIn X.K (.ref f) = true) (hb : Binds X.K fd ps [])
    (ha : QA X (e :: es) tA mA) (hg : Gl X x := by rfl) (hdb : (x == ("__debug__" : Str)) = false := by decide) (he : starEach (e :: es) X.env = (false, eval e X.env) :: starEach es X.env := by rfl) (hpl : (backTo pos (starEach es X.env)).any (·.1) = false := by rfl) :
    QE X (.Call (.Name x p) (e :: es) [] pos) (tCall (spP X.K n m) [] E0 tA) (eCallP n m mA) :=
  ⟨pe_call F hr hg hm hk hb .nil pass0 ha.pa hdb he hpl, fun G hG => hG ▸ s_callP (ha.sim G hG)⟩
theorem q_callF {k n : Nat} {f : Addr} {fd : FuncData} {ps : List Str} {m : List PyData → Fl → Rf} {x : Str} (F : FnOk X.prog X.w X.K X.mg X.base CX0 k f fd ps (spF X.K n m)) (hr : Room k X.A) (hm : X.mg x = some (.ref f)) (hk : PySem.W.keepIn X.K (.ref f) = true) (hb : Binds X.K fd ps [])
    (ha : QA X (e :: es) tA mA) (hg : Gl X x := by rfl) (hdb : (x == ("__debug__" : Str)) = false := by decide) (he : starEach (e :: es) X.env = (false, eval e X.env) :: starEach es X.env := by rfl) (hpl : (backTo pos (starEach es X.env)).any (·.1) = false := by rfl) :
    QE X (.Call (.Name x p) (e :: es) [] pos) (tCall (spF X.K n m) [] E0 tA) (eCallF n m mA) :=
  ⟨pe_call F hr hg hm hk hb .nil pass0 ha.pa hdb he hpl, fun G hG => hG ▸ s_callF (ha.sim G hG)⟩
end
end NW
namespace NW
open PySem PySem.Spec PyProof.Rows L2
section
variable {X : Cx} {a b c e o i tg : Expr} {es : List Expr} {pos p p2 pos2 : Pos} {ta tb tc te to ti : TE} {ma mb mc me mo mi : ME} {t u : TT} {mt mu : MB} {tA : TA} {mA : MA}
theorem qi_any (h : QE X e te me) : QI X tg e (iAny X.K te) (mAny me) := ⟨pi_any h.pe, fun G hG => hG ▸ i_any (h.sim G hG)⟩
theorem qi_r1 (hm : X.mg "range" = none) (h : QA X [a] tA mA) (hg : Gl X "range" := by rfl) (hs : starEach [a] X.env = [(false, eval a X.env)] := by rfl) : QI X tg (.Call (.Name "range" p) [a] [] pos) (iRng1 tA) (mR1 mA) := ⟨pi_range1 hg hm h.pa hs, fun G hG => i_r1 (h.sim G hG)⟩
theorem qg_name (i : Nat) {x : Str} (hN : X.N.Nodup) (hi : X.N[i]? = some x := by rfl) (hx : L2.Loc X.env.scope x := by first | exact Or.inl rfl | exact Or.inr rfl) (hf : X.fn x = true ∨ X.env.scope.names.lookup x = some .local := by first | exact .inl rfl | exact .inr rfl) : QG X [i] (.Name x pos) (gName i) (gNameM i) := ⟨pg_name hN hi hx hf, fun G _ => g_name i⟩
theorem qgs_nil : QGs X [] [] gNil gNilM := ⟨pgs_nil, fun _ _ => g_nil, gNil_noEx⟩
theorem qgs_cons {vs ws : List Nat} {g : TG} {gs : TGs} {m : MT} {ms : MTs} (h1 : QG X vs e g m) (n1 : ∀ u l st, (m u l st).noEx) (h2 : QGs X ws es gs ms) (hs : (assignEach (e :: es) X.env).map (·.2) = assign e X.env :: (assignEach es X.env).map (·.2) := by rfl) : QGs X (vs ++ ws) (e :: es) (gCons g gs) (gConsM m ms) :=
  ⟨pgs_cons h1.pg h2.pgs hs, fun G h => g_cons (h1.sim G h) (h2.sim G h) h2.ne, gCons_noEx n1 h2.ne⟩
theorem qg_tup {vs : List Nat} {gs : TGs} {ms : MTs} {k : Nat} {n : Nat} (hc : X.calm = true) (h : QGs X vs es gs ms) (hn : (assignEach es X.env).length = n := by rfl) (hst : (assignEach es X.env).findIdx? (·.1) = none := by rfl) : QG X vs (.Tuple es k pos) (gTup X.K n gs) (gTupM n ms) := ⟨pg_tup hc h.pgs hn hst, fun G hG => hG ▸ g_tup (h.sim G hG)⟩
theorem qg_sub (ho : QE X o to mo) (hi : QE X i ti mi) (ha : ∀ v, assign (.Subscript o i pos) X.env v = (do
      let ov ← holding [v] (eval o X.env)
      let iv ← holding [v, ov] (eval i X.env)
      standAt pos
      holding [v, ov, iv] (setItem ov iv v)
      release [v, ov, iv] []) := by intro _; rfl) : QG X [] (.Subscript o i pos) (gSub to ti rSetL) (gSubM mo mi) := ⟨pg_sub ho.pe hi.pe set_list ha, fun G hG => g_sub (ho.sim G hG) (hi.sim G hG)⟩
variable {s : Stmt} {rest body : List Stmt} {ts us : TS} {m n : MS}
theorem qss_nil : QSs X [] tNext sNext := ⟨pss_nil, fun _ _ => t_next⟩
theorem qss_cons (h1 : QS X s ts m) (h2 : QSs X rest us n) : QSs X (s :: rest) (tSeq ts us) (sSeq m n) := ⟨pss_cons h1.ps h2.pss, fun G h => t_seq (h1.sim G h) (h2.sim G h)⟩
theorem qss_one (h1 : QS X s ts m) : QSs X [s] ts m := ⟨pss_one h1.ps, h1.sim⟩
theorem qs_set (i : Nat) {x : Str} (hN : X.N.Nodup) (he : QE X e te me) (hi : X.N[i]? = some x := by rfl) (hx : L2.Loc X.env.scope x := by first | exact Or.inl rfl | exact Or.inr rfl) (hs : swapsWith e (some (.Name x p2)) pos.line X.env = pure false := by rfl)
    (hf : X.fn x = true ∨ X.env.scope.names.lookup x = some .local := by first | exact .inl rfl | exact .inr rfl) : QS X (.Assign [.Name x p2] e pos) (tAsg te (gName i)) (sAsg i me) := ⟨ps_set hN hi hx he.pe hs hf, fun G h => t_asg (he.sim G h)⟩
theorem qs_asg {vs : List Nat} {g : TG} {mg' : MT} (he : QE X e te me) (hg : QG X vs tg g mg') (hs : swapsWithSole [tg] e pos.line X.env = pure false := by rfl) (hw : swappedStores [tg] e X.env = pure none := by rfl) (h1 : (assignEach [tg] X.env).map (·.2) = [assign tg X.env] := by rfl) :
    QS X (.Assign [tg] e pos) (tAsg te g) (sAsgG me mg') := ⟨ps_asg he.pe hg.pg hs hw h1, fun G h => t_asgG (he.sim G h) (hg.sim G h)⟩
theorem qs_par (i j : Nat) {x y : Str} {px py pt : Pos} {kt k2 : Nat} {pt2 : Pos} (hc : X.calm = true) (hN : X.N.Nodup) (ha : QA X [a, b] tA mA) (hij : i ≠ j := by decide) (hi : X.N[i]? = some x := by rfl) (hj : X.N[j]? = some y := by rfl) (hx : X.env.scope.names.lookup x = some .local := by rfl) (hy : X.env.scope.names.lookup y = some .local := by rfl)
    (hw : swappedStores [.Tuple [.Name x px, .Name y py] kt pt] (.Tuple [a, b] k2 pt2) X.env = pure (some [x, y]) := by rfl) (hs : swapsWithSole [.Tuple [.Name x px, .Name y py] kt pt] (.Tuple [a, b] k2 pt2) pos.line X.env = pure false := by rfl) :
    QS X (.Assign [.Tuple [.Name x px, .Name y py] kt pt] (.Tuple [a, b] k2 pt2) pos) (tPar i j tA) (sPar i j mA) := ⟨ps_par hc hN hi hj hij hx hy ha.pa hw hs, fun G h => t_par (ha.sim G h)⟩
theorem qs_expr (he : QE X e te me) (hs : swapsWith e none pos.line X.env = pure false := by rfl) : QS X (.Expr e pos) (tDrop te) (sDrop me) := ⟨ps_expr he.pe hs, fun G h => t_drop (he.sim G h)⟩
theorem qs_ret (he : QE X e te me) : QS X (.Return (some e) pos) (tRet te) (sRet me) := ⟨ps_ret he.pe, fun G h => t_ret (he.sim G h)⟩
theorem qs_if {ct : TT} {cm : MB} {x y : List Stmt} (hc : QT X c ct cm) (ha : QSs X x ts m) (hb : QSs X y us n) : QS X (.If c x y pos) (tIfS ct ts us) (sIf cm m n) := ⟨ps_if hc.pt ha.pss hb.pss, fun G h => t_if (hc.sim G h) (ha.sim G h) (hb.sim G h)⟩
theorem qs_while {ct : TT} {cm : MB} (hp : PassesOwn (model X.prog X.w) X.A X.env X.xe) (hc : QT X c ct cm) (hb : QSs X body ts m) : QS X (.While c body [] pos) (tWhile ct ts) (sWhile cm m) := ⟨ps_while hp hc.pt hb.pss, fun G h => t_while (hc.sim G h) (hb.sim G h)⟩
theorem qs_for {wi : TI} {im : MI} {vs : List Nat} {g : TG} {gm : MT} (hp : PassesOwn (model X.prog X.w) X.A X.env X.xe) (hc : X.calm = true) (hi : QI X tg e wi im) (hg : QG X vs tg g gm) (hb : QSs X body ts m) (hs : ∀ x, foldedSetIterable e X.env x = pure x := by intro _; rfl) :
    QS X (.For tg e body [] pos) (tFor wi g ts) (sFor im gm m) := ⟨ps_for hp hc hi.pi hg.pg hb.pss hs, fun G h => t_for (hi.sim G h) (hg.sim G h) (hb.sim G h)⟩
structure QTs (X : Cx) (ifs : List Expr) (t : TT) (m : MB) : Prop where
  pts : PTs X ifs t
  sim : ∀ G : Gx, G.K = X.K → SimT G t m
def bYes : MB := fun _ st => .ok true st
theorem qts_nil : QTs X [] tYes bYes := ⟨pts_nil, fun G _ β H σ l st re Q h => wpR_b re.rl h⟩
theorem qts_one (h : QT X c t mt) : QTs X [c] t mt := ⟨pts_one h.pt, h.sim⟩
theorem qn_lc {elt tg iter : Expr} {ifs : List Expr} {scope : Scope} (own : List (Str × Nat)) {wi : TI} {g : TG} {tt : TT} {te : TE} {im : MI} {ws : List Nat} {gm : MT} {cm : MB} {em : ME} (hc : X.calm = true) (hN : X.N.Nodup) (hi : QI X tg iter wi im)
    {N : List Str} {sc : Scope} (hNN : X.N = N) (hss : X.env.scope = sc) (ok : blkC N sc scope own = true)
    (hg : ∀ (s : Shared) (H : Hp) (C : Addr) (cl : List (Str × Addr)) (fp : List Addr), QG (X.blk s H scope (compEnvC scope cl C X.env) fp) ws tg g gm)
    (ht : ∀ (s : Shared) (H : Hp) (C : Addr) (cl : List (Str × Addr)) (fp : List Addr), QTs (X.blk s H scope (compEnvC scope cl C X.env) fp) ifs tt cm)
    (he : ∀ (s : Shared) (H : Hp) (C : Addr) (cl : List (Str × Addr)) (fp : List Addr), QE (X.blk s H scope (compEnvC scope cl C X.env) fp) elt te em)
    (hsub : ∀ i ∈ ws, i ∈ own.map (·.2)) (hs : ∀ x, foldedSetIterable iter X.env x = pure x := by intro _; rfl) :
    QN X (.ListComp elt [⟨tg, iter, ifs, 0⟩] scope pos) (tLc wi g tt te (own.map (·.2))) (lLc im (own.map (·.2)) gm cm em) :=
  ⟨pe_lc hc hN hi.pi (by rw [hNN, hss]; exact blkOk_by ok) (fun s H C cl fp => (hg s H C cl fp).pg) (fun s H C cl fp => (ht s H C cl fp).pts) (fun s H C cl fp => (he s H C cl fp).pe) hs,
    fun G h => n_lc (hi.sim G h) (fun D => (hg X.s_0 (fun _ => none) 0 [] []).sim (G.ban D) h) hsub (fun D => (ht X.s_0 (fun _ => none) 0 [] []).sim (G.ban D) h) (fun D => (he X.s_0 (fun _ => none) 0 [] []).sim (G.ban D) h)⟩
theorem qs_setLc {elt tg iter : Expr} {ifs : List Expr} {scope : Scope} {y : Str} {py : Pos} (iy : Nat) (own : List (Str × Nat)) (fz : Bool) {wi : TI} {g : TG} {tt : TT} {te : TE} {im : MI} {ws : List Nat} {gm : MT} {cm : MB} {em : ME} (hc : X.calm = true) (hN : X.N.Nodup)
    (hsw : swapsWith (.ListComp elt [⟨tg, iter, ifs, 0⟩] scope pos) (some (.Name y py)) pos2.line X.env = pure true) (hi : QI X tg iter wi im)
    {N : List Str} {sc : Scope} (hNN : X.N = N) (hss : X.env.scope = sc) (ok : blkC N sc scope own = true)
    (hg : ∀ (s : Shared) (H : Hp) (C : Addr) (cl : List (Str × Addr)) (fp : List Addr), QG (X.blk s H scope (compEnvC scope cl C X.env) fp) ws tg g gm)
    (ht : ∀ (s : Shared) (H : Hp) (C : Addr) (cl : List (Str × Addr)) (fp : List Addr), QTs (X.blk s H scope (compEnvC scope cl C X.env) fp) ifs tt cm)
    (he : ∀ (s : Shared) (H : Hp) (C : Addr) (cl : List (Str × Addr)) (fp : List Addr), QE (X.blk s H scope (compEnvC scope cl C X.env) fp) elt te em)
    (hsub : ∀ i ∈ ws, i ∈ own.map (·.2)) (hyi : X.N[iy]? = some y := by rfl) (hyl : X.env.scope.names.lookup y = some .local := by rfl) (hs : ∀ x, foldedSetIterable iter X.env x = pure x := by intro _; rfl) :
    QS X (.Assign [.Name y py] (.ListComp elt [⟨tg, iter, ifs, 0⟩] scope pos) pos2) (tAsg (tLc wi g tt te (own.map (·.2))) (gName iy)) (sAsg iy (if fz = true then eFrz (lLc im (own.map (·.2)) gm cm em) else eOwn (lLc im (own.map (·.2)) gm cm em))) :=
  ⟨ps_setLc hc hN hyi hyl hsw hi.pi (by rw [hNN, hss]; exact blkOk_by ok) (fun s H C cl fp => (hg s H C cl fp).pg) (fun s H C cl fp => (ht s H C cl fp).pts) (fun s H C cl fp => (he s H C cl fp).pe) hs,
    fun G h => t_asg (by
      have z := n_lc (hi.sim G h) (fun D => (hg X.s_0 (fun _ => none) 0 [] []).sim (G.ban D) h) hsub (fun D => (ht X.s_0 (fun _ => none) 0 [] []).sim (G.ban D) h) (fun D => (he X.s_0 (fun _ => none) 0 [] []).sim (G.ban D) h)
      cases fz with
      | true => exact s_frz z
      | false => exact s_own z)⟩
end
end NW
namespace NW
open PySem PySem.Spec PyProof.Rows L2
section
variable {G : Gx} {β β' : List Addr} {st st' : Sto} {H H' : Hp} {v : V} {u : U} {σ σ' : L2.St} {l l' : Loc}
def rAddS : R2 := fun x y H Q => ∃ i j, x = .str i ∧ y = .str j ∧ i.length + j.length ≤ sizeLine ∧ Q (.str (i ++ j)) H
def rAddA (K : PySem.W.Frag) : R2 := fun x y H Q => (rI0 (fun i j => .int (i + j)) x y H Q ∨ rAddS x y H Q) ∨ (rCatA K x y H Q ∨ rCat x y H Q)
theorem op_addA {X : Cx} : OpR X (binaryOp .Add) (rAddA X.K) := (op_add.or op_add_str).or (op_catA.or op_cat)
def fAddA : U → U → Sto → Res U := fun a b st => match a, b with
  | .d (.int i), .d (.int j) => .ok (.d (.int (i + j))) st
  | .d (.str x), .d (.str y) => if lenOk (x.length + y.length) = true then .ok (.d (.str (x ++ y))) st else .no
  | .d (.tuple xs), .d (.tuple ys) => if lenOk (xs.length + ys.length) = true then .ok (.d (.tuple (xs ++ ys))) st else .no
  | a, b => (match listOf st a, listOf st b with
    | some xs, some ys => if lenOk (xs.length + ys.length) = true then .ok (.d (.list (xs ++ ys))) st else .no
    | _, _ => .no)
theorem r_addA : SimR G (rAddA G.K) fAddA := fun β H σ l st re x y a b Q hx hy h => by
  unfold fAddA at h
  split at h
  · rename_i i j
    cases ru_int hx; cases ru_int hy
    exact .inl (.inl ⟨i, j, rfl, rfl, wpR_d re.rl (.int _) h⟩)
  · rename_i i j
    cases ru_str hx; cases ru_str hy
    split at h
    · rename_i q
      exact .inl (.inr ⟨i, j, rfl, rfl, of_decide_eq_true q, wpR_d re.rl (.str _) h⟩)
    · exact h.elim
  · rename_i xs ys
    split at h
    · rename_i q
      obtain ⟨p, vs, rfl, s1, r1⟩ := tup_q hx (xs := xs) rfl
      obtain ⟨p', ws, rfl, s2, r2⟩ := tup_q hy (xs := ys) rfl
      refine .inr (.inl ⟨p, p', vs, ws, rfl, rfl, s1, s2, by rw [r1.len, r2.len]; exact of_decide_eq_true q, fun e => ?_, fun e1 e => ?_, fun e1 e2 z hz => ?_⟩)
      · subst e
        have e0 : xs = [] := by have := r1.len; simp at this; exact List.eq_nil_of_length_eq_zero this.symm
        subst e0
        exact wpR_u re.rl hy h
      · subst e
        have e0 : ys = [] := by have := r2.len; simp at this; exact List.eq_nil_of_length_eq_zero this.symm
        subst e0
        rw [List.append_nil] at h
        exact wpR_u re.rl hx h
      · obtain ⟨f4, rl4, rt⟩ := new_tup re.rl hz (r1.append r2)
        exact h _ _ β f4 rl4 rt
    · exact h.elim
  · split at h
    · rename_i xs ys e1 e2
      split at h
      · rename_i q
        obtain ⟨p, vs, rfl, h1, r1⟩ := list_h re.rl hx e1
        obtain ⟨p', ws, rfl, h2, r2⟩ := list_h re.rl hy e2
        refine .inr (.inr ⟨p, p', vs, ws, rfl, rfl, h1, h2, by rw [r1.len, r2.len]; exact of_decide_eq_true q, fun z hz => ?_⟩)
        obtain ⟨f4, rl4, rt⟩ := new_lst re.rl hz (r1.append r2)
        exact h _ _ β f4 rl4 rt
      · exact h.elim
    · exact h.elim
theorem tuple_mul1 (l : Addr) (items : Array Value) (n : Nat) (dd : Option Addr) (sl : Array (Option Value)) (x : Int) (u : Tok) (c0 : (decide (x < -(2 ^ 63)) || decide (x ≥ 2 ^ 63)) = false) (c1 : (items.isEmpty || x == 1) = true) :
    Meets (Builtin.«tuple.__mul__» ⟨[.ref l, .int x u], []⟩) (fun _ R s => s.heap.get? l = some { cls := .type "tuple", dict := dd, data := .seq items n, slots := sl } ∧ R (.ok (.ret (Value.ref l))) s) :=
  .of_wp fun prog w A R s h => by
    obtain ⟨hp, g, d, tk, os⟩ := s
    obtain ⟨hl, h⟩ := h
    have f1 := AutoSeq1.idx_int
    wp_walk using wpAny_loadPart' hl
    repeat (first
      | (refine wpAny_ite_false (decide_eq_false (by rw [c0]; exact Bool.false_ne_true)) ?_; wp_walk using wpAny_loadPart' hl)
      | (refine wpAny_ite_true (decide_eq_true c1) ?_; wp_walk using wpAny_loadPart' hl))
    exact ⟨_, rfl, h⟩
def rRep1T (K : PySem.W.Frag) : R2 := fun x y H Q => ∃ l k xs, x = .ref l ∧ y = .int k ∧ SqT K H l xs ∧ (xs = [] ∨ k = 1) ∧ -(2 ^ 62) ≤ k ∧ k < 2 ^ 62 ∧ Q (.ref l) H
theorem op_rep1T {X : Cx} : OpR X (binaryOp .Mult) (rRep1T X.K) := by
  intro pins s σ H x y v u Q I rx ry h
  obtain ⟨l, k, xs, rfl, rfl, hT, h1, h2, h3, q⟩ := h
  cases rx
  obtain ⟨t, rfl⟩ := ry
  obtain ⟨its, r, ⟨⟨cls, dd, data, sl⟩, ho, hc, n, hd⟩, hs⟩ := I.tuple hT
  simp only at hc hd
  subst hc hd
  have hle : its.length = xs.length := r.length.symm
  have c0 : (decide (k < -(2 ^ 63)) || decide (k ≥ 2 ^ 63)) = false := by
    rw [decide_eq_false (by omega), decide_eq_false (by omega)] <;> rfl
  have c1 : (its.toArray.isEmpty || k == 1) = true := by
    rcases h1 with h1 | h1
    · have : its = [] := List.eq_nil_of_length_eq_zero (by rw [hle, h1]; rfl)
      rw [this]; rfl
    · rw [h1]; simp
  exact wpAny_binaryOp_repeat_ref (T := "tuple") (U := "int") (by decide) ⟨_, ho, rfl⟩ (fun s' => typeIs_int s' k t) noFill_tuple_mul F.fills_int_mul F.slot_int_rmul repeat_tuple F.slot_int_index.lookup
    (call_meets F.slot_int_rmul (typeIs_int s k t) F.entry_int_rmul (F.args_int_rmul_2 _ _) (int_rmul_tuple k t l its.toArray n dd sl)
      ⟨ho, rfl, ⟨_, ho, rfl⟩, call_meets F.slot_tuple_mul ⟨_, ho, rfl⟩ F.entry_tuple_mul (F.args_tuple_mul_2 _ _) (tuple_mul1 l its.toArray n dd sl k t c0 c1) ⟨ho, ⟨.ref l, H, I, rfl, q⟩⟩⟩)
def rMulA (K : PySem.W.Frag) : R2 := fun x y H Q => (rI CMulW (fun i j => .int (i * j)) x y H Q ∨ rRep x y H Q) ∨ (rRepT K x y H Q ∨ rRep1T K x y H Q)
theorem op_mulA {X : Cx} : OpR X (binaryOp .Mult) (rMulA X.K) := (op_mulW.or op_rep).or (op_repT.or op_rep1T)
def fMulA : U → U → Sto → Res U := fun a b st => match a, b with
  | .d (.int i), .d (.int j) => if mulC i j = true then .ok (.d (.int (i * j))) st else .no
  | .d (.tuple xs), .d (.int k) => if decide (2 ≤ k ∧ k ≤ 1000 ∧ xs.length ≤ 1000 ∧ xs ≠ []) = true then .ok (.d (.tuple (List.replicate k.toNat xs).flatten)) st
    else if decide ((xs = [] ∨ k = 1) ∧ -(2 ^ 62) ≤ k ∧ k < 2 ^ 62) = true then .ok (.d (.tuple xs)) st else .no
  | a, .d (.int k) => (match listOf st a with
    | some xs => if (decide (-(2 ^ 63) ≤ k ∧ k < 2 ^ 63) && lenOk (xs.length * k.toNat)) = true then .ok (.d (.list (List.replicate k.toNat xs).flatten)) st else .no
    | none => .no)
  | _, _ => .no
theorem r_mulA : SimR G (rMulA G.K) fMulA := fun β H σ l st re x y a b Q hx hy h => by
  unfold fMulA at h
  split at h
  · rename_i i j
    cases ru_int hx; cases ru_int hy
    split at h
    · rename_i q
      have q' := of_decide_eq_true q
      exact .inl (.inl ⟨i, j, rfl, rfl, q', wpR_d re.rl (.int _) h⟩)
    · exact h.elim
  · rename_i xs k
    cases ru_int hy
    obtain ⟨p, vs, rfl, s1, r1⟩ := tup_q hx (xs := xs) rfl
    split at h
    · rename_i q
      have q := of_decide_eq_true q
      refine .inr (.inl ⟨p, k, vs, rfl, rfl, s1, fun e => q.2.2.2 (List.eq_nil_of_length_eq_zero (by rw [← r1.len, e]; rfl)), q.1, q.2.1, by rw [r1.len]; exact q.2.2.1, fun z hz => ?_⟩)
      obtain ⟨f4, rl4, rt⟩ := new_tup re.rl hz (rts_rep r1 k.toNat)
      exact h _ _ β f4 rl4 rt
    · split at h
      · rename_i q
        have q := of_decide_eq_true q
        refine .inr (.inr ⟨p, k, vs, rfl, rfl, s1, q.1.imp (fun e => List.eq_nil_of_length_eq_zero (by rw [r1.len, e]; rfl)) id, q.2.1, q.2.2, ?_⟩)
        exact wpR_u re.rl hx h
      · exact h.elim
  · rename_i k _ _
    cases ru_int hy
    split at h
    · rename_i xs e1
      split at h
      · rename_i q
        rw [Bool.and_eq_true] at q
        obtain ⟨p, vs, rfl, h1, r1⟩ := list_h re.rl hx e1
        have q1 := of_decide_eq_true q.1
        refine .inl (.inr ⟨p, k, vs, rfl, rfl, h1, q1.1, q1.2, by rw [r1.len]; exact of_decide_eq_true q.2, fun z hz => ?_⟩)
        obtain ⟨f4, rl4, rt⟩ := new_lst re.rl hz (rts_rep r1 _)
        exact h _ _ β f4 rl4 rt
      · exact h.elim
    · exact h.elim
  · exact h.elim
def rSlAny (K : PySem.W.Frag) : V → Option Int → Option Int → Hp → VK → Prop := fun x lo hi H Q => (rSlL K x lo hi H Q ∨ rSlA K x lo hi H Q) ∨ rSlS x lo hi H Q
theorem sl_any {X : Cx} : SlR X (rSlAny X.K) := (sl_list.or sl_tupA).or sl_str
def fSl (u : U) (a b : Option Int) (st : Sto) : Res U := match u with
  | .d (.tuple xs) => .ok (.d (.tuple (cutD xs a b))) st
  | .d (.str z) => if lenOk z.length = true then .ok (.d (.str (cutS z a b))) st else .no
  | u => (match listOf st u with
    | some xs => .ok (.d (.list (cutD xs a b))) st
    | none => .no)
def eSlAny (m : ME) (lo hi : MO) : ME := fun l st => (m l st).bind fun u st => (lo l st).bind fun a st => (hi l st).bind fun b st => fSl u a b st
theorem s_slAny {t : TE} {tl th : TO} {m : ME} {lo hi : MO} (h : SimE G t m) (h1 : SimO G tl lo) (h2 : SimO G th hi) : SimE G (tSl (rSlAny G.K) t tl th) (eSlAny m lo hi) := fun β H σ l st re Q q => by
  refine h β H σ l st re _ (wpR_bind q fun v u H1 β1 st1 f1 rl1 p1 q1 => ?_)
  have re1 := f1.re rl1 re
  refine h1 β1 H1 σ l st1 re1 _ (wpR_bind q1 fun a a' H2 β2 st2 f2 rl2 p2 q2 => ?_)
  cases (show a = a' from p2)
  have re2 := f2.re rl2 re1
  refine h2 β2 H2 σ l st2 re2 _ (wpR_bind q2 fun b b' H3 β3 st3 f3 rl3 p3 q3 => ?_)
  cases (show b = b' from p3)
  have p4 := f3.ru (f2.ru p1)
  unfold fSl at q3
  split at q3
  · rename_i xs
    obtain ⟨p, vs, rfl, s, r⟩ := tup_q p4 (xs := xs) rfl
    refine .inl (.inr ⟨p, vs, rfl, s, fun w => ?_, fun w z hz => ?_⟩)
    · rw [r.len] at w
      rw [cut_whole w] at q3
      exact wpR_u rl3 p4 q3
    · obtain ⟨f4, rl4, rt⟩ := new_tup rl3 hz (r.cut a b)
      exact q3 _ _ β3 f4 rl4 rt
  · rename_i z
    cases ru_str p4
    split at q3
    · rename_i hz
      exact .inr ⟨z, rfl, of_decide_eq_true hz, wpR_d rl3 (.str _) q3⟩
    · exact q3.elim
  · split at q3
    · rename_i xs e
      obtain ⟨p, vs, rfl, s, r⟩ := list_q rl3 p4 e
      refine .inl (.inl ⟨p, vs, rfl, s, fun z hz => ?_⟩)
      obtain ⟨f4, rl4, rt⟩ := new_lst rl3 hz (r.cut a b)
      exact q3 _ _ β3 f4 rl4 rt
    · exact q3.elim
end
section
variable {X : Cx} {a b c e o i : Expr} {es : List Expr} {pos p pos2 : Pos} {ta tb tc te to ti : TE} {ma mb mc me mo mi : ME} {t u : TT} {mt mu : MB} {tA : TA} {mA : MA}
theorem q_addA (ha : QE X a ta ma) (hb : QE X b tb mb) : QE X (.BinOp a .Add b pos) (tOp (rAddA X.K) ta tb) (eOp fAddA ma mb) := ⟨pe_op op_addA ha.pe hb.pe, fun G h => h ▸ s_op r_addA (ha.sim G h) (hb.sim G h)⟩
theorem q_mulA (ha : QE X a ta ma) (hb : QE X b tb mb) : QE X (.BinOp a .Mult b pos) (tOp (rMulA X.K) ta tb) (eOp fMulA ma mb) := ⟨pe_op op_mulA ha.pe hb.pe, fun G h => h ▸ s_op r_mulA (ha.sim G h) (hb.sim G h)⟩
theorem q_slA {lo hi : Option Expr} {tl th : TO} {ml mh : MO} (he : QE X e te me) (hl : QO X lo tl ml) (hh : QO X hi th mh) : QE X (.Subscript e (.Slice lo hi none pos2) pos) (tSl (rSlAny X.K) te tl th) (eSlAny me ml mh) := ⟨pe_slice sl_any he.pe hl.po hh.po, fun G h => h ▸ s_slAny (he.sim G h) (hl.sim G h) (hh.sim G h)⟩
end
abbrev rDivI : R2 := rI CDivA fun i j => .int (i.fdiv j)
abbrev rGtI : R2 := rI0 fun i j => .bl (decide (j < i))
abbrev rIntA : List V → Hp → VK → Prop := fun xs H Q => (∃ i, xs = [.int i] ∧ Q (.int i) H) ∨ ∃ k, xs = [.bl k] ∧ Q (.int (if k then 1 else 0)) H
structure DefIn (K : PySem.W.Frag) (mg : Str → Option Value) (x : Str) (st : Stmt) (ps : List Str) : Prop where
  ex : ∃ f fd, Fun K x x st f fd ∧ mg x = some (.ref f) ∧ Binds K fd ps []
structure Cal (P : Program) (w : World) (K : PySem.W.Frag) (mg : Str → Option Value) (base : Heap) (k : Nat) (x : Str) (ps : List Str) (sp : Sp) : Prop where
  ex : ∃ f fd, FnOk P w K mg base CX0 k f fd ps sp ∧ mg x = some (.ref f) ∧ PySem.W.keepIn K (.ref f) = true ∧ Binds K fd ps []
structure ConIn (K : PySem.W.Frag) (mg : Str → Option Value) (x : Str) (d : PyData) : Prop where
  ex : ∃ u v, mg x = some u ∧ IsC K u v d
section
variable {P : Program} {w : World} {K : PySem.W.Frag} {mg : Str → Option Value} {base : Heap} {N ps : List Str} {x : Str} {st : Stmt} {k : Nat} {b : MS}
theorem calP (D : DefIn K mg x st ps) (S : FnScope N ps (defScope st)) (hN : ps.length ≤ N.length)
    (hb : ∀ (f : Addr) (cdv : Value) (A : Around) (outer : List Env) (s : Shared) (H : Hp) (E : XK), Room k (A.deeper (envOfC x (defScope st) s.heap.objs.size f cdv)) →
      ∃ t, QSs (cxOf CX0 P w K mg base N x (defScope st) f cdv A outer s H E).nox (defBody st) t b) : Cal P w K mg base (k + 1) x ps (spP K ps.length (pureOf N.length b)) := by
  obtain ⟨f, fd, F, hm, hb'⟩ := D.ex
  refine ⟨f, fd, okP F S hN (fun cdv A outer s H E hr => ?_), hm, F.kp, hb'⟩
  obtain ⟨t, h⟩ := hb f cdv A outer s H E hr
  exact ⟨t, h.pss, fun G hG => h.sim G hG⟩
theorem calF (D : DefIn K mg x st ps) (S : FnScope N ps (defScope st)) (hN : ps.length ≤ N.length)
    (hb : ∀ (f : Addr) (cdv : Value) (A : Around) (outer : List Env) (s : Shared) (H : Hp) (E : XK), Room k (A.deeper (envOfC x (defScope st) s.heap.objs.size f cdv)) →
      ∃ t, QSs (cxOf CX0 P w K mg base N x (defScope st) f cdv A outer s H E).nox (defBody st) t b) : Cal P w K mg base (k + 1) x ps (spF K ps.length (flowOf N.length b)) := by
  obtain ⟨f, fd, F, hm, hb'⟩ := D.ex
  refine ⟨f, fd, okF F S hN (fun cdv A outer s H E hr => ?_), hm, F.kp, hb'⟩
  obtain ⟨t, h⟩ := hb f cdv A outer s H E hr
  exact ⟨t, h.pss, fun G hG => h.sim G hG⟩
end
section
variable {X : Cx} {e : Expr} {es : List Expr} {pos p : Pos} {tA : TA} {mA : MA}
theorem q_calP {k j n : Nat} {ps : List Str} {m : List PyData → Rp} {x : Str} (C : Cal X.prog X.w X.K X.mg X.base k x ps (spP X.K n m)) (hr : Room j X.A) (hkj : k ≤ j) (ha : QA X (e :: es) tA mA) (hg : Gl X x := by rfl) (hdb : (x == ("__debug__" : Str)) = false := by decide)
    (he : starEach (e :: es) X.env = (false, eval e X.env) :: starEach es X.env := by rfl) (hpl : (backTo pos (starEach es X.env)).any (·.1) = false := by rfl) :
    QE X (.Call (.Name x p) (e :: es) [] pos) (tCall (spP X.K n m) [] E0 tA) (eCallP n m mA) := by
  obtain ⟨f, fd, F, hm, hk, hb⟩ := C.ex
  exact q_callP F (hr.mono hkj) hm hk hb ha hg hdb he hpl
theorem q_calF {k j n : Nat} {ps : List Str} {m : List PyData → Fl → Rf} {x : Str} (C : Cal X.prog X.w X.K X.mg X.base k x ps (spF X.K n m)) (hr : Room j X.A) (hkj : k ≤ j) (ha : QA X (e :: es) tA mA) (hg : Gl X x := by rfl) (hdb : (x == ("__debug__" : Str)) = false := by decide)
    (he : starEach (e :: es) X.env = (false, eval e X.env) :: starEach es X.env := by rfl) (hpl : (backTo pos (starEach es X.env)).any (·.1) = false := by rfl) :
    QE X (.Call (.Name x p) (e :: es) [] pos) (tCall (spF X.K n m) [] E0 tA) (eCallF n m mA) := by
  obtain ⟨f, fd, F, hm, hk, hb⟩ := C.ex
  exact q_callF F (hr.mono hkj) hm hk hb ha hg hdb he hpl
end
end NW
namespace NW
open PySem PySem.Spec PyProof.Rows L2
def fl0 (ns : List Int) : Fl := ⟨ns, 0, 0, 1, 0⟩
def spFl (K : PySem.W.Frag) : Sp := fun vs H Q _ => ∃ (a : Addr) (ns : List Int), vs = [.ref a] ∧ SqL K H a (ns.map V.int) ∧
  ∀ H' fa fb, (∀ b o, H b = some o → H' b = some o) → H fa = none → fb ≠ fa → H' fa = some (.lst (flV fb (fl0 ns))) → H' fb = some (.lst (ns.map V.int)) → Q (.ref fa) H'
def spLaw (K : PySem.W.Frag) : Sp := fun vs H Q _ => ∃ (a : Addr) (ns : List Int), vs = [.ref a] ∧ SqL K H a (ns.map V.int) ∧ ns.length ≤ 63 ∧ ∀ H', Q (.bl true) H'
section
variable {P : Program} {w : World} {K : PySem.W.Frag} {mg : Str → Option Value} {base : Heap} {N ps : List Str} {x : Str} {st : Stmt} {k : Nat} {b : MS}
theorem calFl (D : DefIn K mg x st ps) (S : FnScope N ps (defScope st)) (hps : ps.length = 1) (hN : ps.length ≤ N.length)
    (hsem : ∀ ns, b (startL N.length [.scr ns]) ⟨none, []⟩ = .rt (.ref 0) ⟨none, [.lst [.list (ns.map .int), .int 0, .int 0, .int 1, .int 0]]⟩)
    (hb : ∀ (f : Addr) (cdv : Value) (A : Around) (outer : List Env) (s : Shared) (H : Hp) (E : XK), Room k (A.deeper (envOfC x (defScope st) s.heap.objs.size f cdv)) →
      ∃ t, QSs (cxOf CX0 P w K mg base N x (defScope st) f cdv A outer s H E).nox (defBody st) t b) : Cal P w K mg base (k + 1) x ps (spFl K) := by
  obtain ⟨f, fd, F, hm, hb'⟩ := D.ex
  refine ⟨f, fd, F.ok S (fun vs H Q E h => ?_) (fun cdv A outer s H vs Q E hr h => ?_), hm, F.kp, hb'⟩
  · obtain ⟨a, ns, rfl, _⟩ := h
    exact hps.symm
  · obtain ⟨a, ns, rfl, hS, q⟩ := h
    obtain ⟨t, h⟩ := hb f cdv A outer s H E hr
    refine ⟨t, h.pss, ?_⟩
    have own0 : ∀ b, ¬ Own ⟨K, 0, 0, fun _ => False, fun _ => none, fun _ _ _ _ => False⟩ [] ⟨none, []⟩ b := fun b h => by
      rcases h with ⟨h, _⟩ | ⟨i, xs, h, _⟩
      · cases h
      · simp at h
    have re : Re ⟨K, 0, 0, fun _ => False, fun _ => none, fun _ _ _ _ => False⟩ [] H (L2.start N [.ref a]) (startL N.length [.scr ns]) ⟨none, []⟩ := by
      refine ⟨⟨rfl, .nil, fun p hp => by simp at hp, fun i xs h => by simp at h, fun f h => (by cases h), fun p hp => hp.elim⟩, ⟨start_len N rfl (by simp; omega), fun i u e => ?_⟩⟩
      have e1 := start_get N (vs := [.ref a]) e
      cases i with
      | succ i => simp at e1
      | zero =>
        simp at e1; subst e1
        refine ⟨.ref a, start_getV N rfl, a, rfl, hS.imp (fun z => ⟨z, fun w => w.elim id (own0 a)⟩) id⟩
    refine h.sim ⟨K, 0, 0, fun _ => False, fun _ => none, fun _ _ _ _ => False⟩ rfl [] H _ _ _ re _ ?_
    rw [hsem ns]
    intro v H' β' f1 rl r
    obtain ⟨p, h1, rfl⟩ := r
    obtain ⟨p', vs, a1, b1, c1⟩ := rl.ob 0 _ rfl
    rw [h1] at a1; cases a1
    have own1 : Own ⟨K, 0, 0, fun _ => False, fun _ => none, fun _ _ _ _ => False⟩ β' ⟨none, [.lst [.list (ns.map .int), .int 0, .int 0, .int 1, .int 0]]⟩ p := .inr ⟨0, _, rfl, (by intro z; cases z), h1⟩
    have c1' : RTs K (Ban ⟨K, 0, 0, fun _ => False, fun _ => none, fun _ _ _ _ => False⟩ β' ⟨none, [.lst [.list (ns.map .int), .int 0, .int 0, .int 1, .int 0]]⟩) H' vs [.list (ns.map .int), .int 0, .int 0, .int 1, .int 0] := c1
    cases c1' with
    | cons x1 y1 =>
      cases x1 with
      | lst hs hr1 =>
        rename_i fb ws
        cases y1 with
        | cons x2 y2 => cases y2 with
          | cons x3 y3 => cases y3 with
            | cons x4 y4 => cases y4 with
              | cons x5 y5 =>
                cases y5; cases x2; cases x3; cases x4; cases x5
                have e1 := hr1.ints
                subst e1
                have hf : H p = none := by
                  obtain ⟨γ, e, hγ⟩ := f1.ext
                  rw [List.nil_append] at e; subst e
                  exact hγ p (List.mem_of_getElem? h1)
                exact q H' p fb (fun b o h => (f1.stay b o h (own0 b)).1) hf (fun e => hs.2 (.inr (e ▸ own1))) b1 hs.1
theorem okLaw {f : Addr} {fd : FuncData} {i : Nat} {kf : Nat} {mf : Str} {psf : List Str} {b1 : MS} (F : Fun K x x st f fd) (S : FnScope N ps (defScope st)) (hps : ps.length = 1) (hN : ps.length ≤ N.length)
    (hb : ∀ (cdv : Value) (A : Around) (outer : List Env) (s : Shared) (H : Hp) (E : XK), Room k (A.deeper (envOfC x (defScope st) s.heap.objs.size f cdv)) →
      ∃ t1, PSs (cxOf CX0 P w K mg base N x (defScope st) f cdv A outer s H E).nox (defBody st) (tSeq (tAsg (tCall (spFl K) [] E0 (tCons (tVar 0) tNil)) (gName i)) t1) ∧ ∀ G : Gx, G.K = K → SimS G t1 b1)
    (hsem : ∀ ns : List Int, ns.length ≤ 63 → ∃ st', b1 ((startL N.length [.scr ns]).set i (some .flow)) ⟨some (fl0 ns), []⟩ = .rt (.d (.bool true)) st') :
    FnOk P w K mg base CX0 (k + 1) f fd ps (spLaw K) := by
  refine F.ok S (fun vs H Q E h => ?_) (fun cdv A outer s H vs Q E hr h => ?_)
  · obtain ⟨a, ns, rfl, _⟩ := h
    exact hps.symm
  · obtain ⟨a, ns, rfl, hS, hl, q⟩ := h
    obtain ⟨t1, h1, h2⟩ := hb cdv A outer s H E hr
    refine ⟨_, h1, ?_⟩
    refine ⟨.ref a, start_getV N rfl, a, ns, rfl, hS, fun H' fa fb kk hf0 hne hfa hfb => ?_⟩
    obtain ⟨st', e⟩ := hsem ns hl
    have own0 : ∀ b, Own ⟨K, fa, fb, fun _ => False, fun _ => none, fun _ _ _ _ => False⟩ [] ⟨some (fl0 ns), []⟩ b → b = fa := fun b h => by
      rcases h with ⟨_, h⟩ | ⟨i, xs, h, _⟩
      · exact h
      · simp at h
    have rl : Rl ⟨K, fa, fb, fun _ => False, fun _ => none, fun _ _ _ _ => False⟩ [] H' ⟨some (fl0 ns), []⟩ := by
      refine ⟨rfl, .nil, fun p hp => by simp at hp, fun i xs h => by simp at h, fun f h => ?_, fun p hp => hp.elim⟩
      cases h
      exact ⟨⟨hfa, hfb, fun z => hne (z.elim False.elim (own0 fb))⟩, by simp⟩
    have lo : RLoc ⟨K, fa, fb, fun _ => False, fun _ => none, fun _ _ _ _ => False⟩ [] (Ban ⟨K, fa, fb, fun _ => False, fun _ => none, fun _ _ _ _ => False⟩ [] ⟨some (fl0 ns), []⟩) H' (L2.start N [.ref a]) (startL N.length [.scr ns]) := by
      refine ⟨start_len N rfl (by simp; omega), fun j u e => ?_⟩
      have e1 := start_get N (vs := [.ref a]) e
      cases j with
      | succ j => simp at e1
      | zero =>
        simp at e1; subst e1
        refine ⟨.ref a, start_getV N rfl, a, rfl, hS.imp (fun z => ⟨?_, fun w => ?_⟩) id⟩
        · rcases z with z | ⟨o, z⟩
          · exact .inl (kk _ _ z)
          · exact .inr ⟨o, kk _ _ z⟩
        · have e := w.elim False.elim (own0 a)
          subst e
          exact rd_ne z hf0
    refine h2 ⟨K, fa, fb, fun _ => False, fun _ => none, fun _ _ _ _ => False⟩ rfl [] H' _ _ _ ⟨rl, lo.set i (u := .flow) rfl⟩ _ ?_
    rw [e]
    intro v H2 β2 f2 rl2 r2
    have r2' : RT K _ H2 v (.bool true) := r2
    cases r2'
    exact q H2
end
section
variable {K : PySem.W.Frag} {mg : Str → Option Value} {x : Str} {st : Stmt} {ps : List Str}
theorem defIn_mk {h : Heap} {f : Addr} {oc : Value} {od an : Option Addr} {osl : Array (Option Value)} {kV doc pm cdv ct : Value} (X : K.In h) (G : h.Ns mainGlobals mg) (a : PySem.W.nsIn K mainGlobals x = some (some (.ref f)))
    (l : K.lookup f = some ⟨oc, od, .func (PySem.W.fnOf x x (defArgs st) (defBody st) (defScope st) .none kV doc pm an cdv ct), osl⟩) (c : PySem.W.codeIn K cdv x = true) (k : PySem.W.keepIn K (.ref f) = true)
    (hb : ∀ (kV doc pm : Value) (an : Option Addr) (cdv ct : Value) (us : List Value), us.length = ps.length → bindArgs (PySem.W.fnOf x x (defArgs st) (defBody st) (defScope st) .none kV doc pm an cdv ct) ⟨us, []⟩ = pure (ps.zip us)) : DefIn K mg x st ps :=
  ⟨f, _, fun_mk l c k, PySem.W.mg_of X G a, (fun_mk l c k).binds hb⟩
end
end NW
namespace NW
open PySem PySem.Spec PyProof.Rows L2
def Res.To {α : Type} (r : Res α) (P : α → Sto → Prop) : Prop := match r with
  | .ok a s => P a s
  | _ => False
def Out.To (o : Out) (N : Loc → Sto → Prop) (R : U → Sto → Prop) : Prop := match o with
  | .nx l s => N l s
  | .rt u s => R u s
  | _ => False
def Rp.To (r : Rp) (P : PyData → Prop) : Prop := match r with
  | .ok d _ => P d
  | _ => False
def Rf.To (r : Rf) (P : PyData → Fl → Prop) : Prop := match r with
  | .ok d _ f => P d f
  | _ => False
section
variable {α γ : Type} {P : α → Sto → Prop} {N : Loc → Sto → Prop} {R : U → Sto → Prop} {l : Loc} {st : Sto} {Q : U → Sto → Prop}
@[simp] theorem to_ok {a : α} : (Res.ok a st).To P ↔ P a st := Iff.rfl
@[simp] theorem to_no : (Res.no : Res α).To P ↔ False := Iff.rfl
@[simp] theorem to_bind {r : Res γ} {k : γ → Sto → Res α} : (r.bind k).To P ↔ r.To fun a s => (k a s).To P := by cases r <;> exact Iff.rfl
@[simp] theorem to_ite {c : Prop} [Decidable c] {a b : Res α} : (if c then a else b).To P ↔ if c then a.To P else b.To P := by split <;> exact Iff.rfl
@[simp] theorem to_iteO {c : Prop} [Decidable c] {a b : Out} : (if c then a else b).To N R ↔ if c then a.To N R else b.To N R := by split <;> exact Iff.rfl
@[simp] theorem to_nx : (Out.nx l st).To N R ↔ N l st := Iff.rfl
@[simp] theorem to_rt {u : U} : (Out.rt u st).To N R ↔ R u st := Iff.rfl
@[simp] theorem to_noO : Out.no.To N R ↔ False := Iff.rfl
@[simp] theorem to_out {r : Res γ} {k : γ → Sto → Out} : (r.out l k).To N R ↔ r.To fun a s => (k a s).To N R := by cases r <;> exact Iff.rfl
@[simp] theorem to_seq {o : Out} {k : Loc → Sto → Out} : (o.seq k).To N R ↔ o.To (fun l s => (k l s).To N R) R := by cases o <;> exact Iff.rfl
theorem Res.To.mono {r : Res α} {P' : α → Sto → Prop} (h : r.To P) (k : ∀ a s, P a s → P' a s) : r.To P' := by
  cases r with
  | ok a s => exact k a s h
  | _ => exact h
theorem Out.To.mono {o : Out} {N' : Loc → Sto → Prop} {R' : U → Sto → Prop} (h : o.To N R) (k : ∀ l s, N l s → N' l s) (k2 : ∀ u s, R u s → R' u s) : o.To N' R' := by
  cases o with
  | nx a s => exact k a s h
  | rt a s => exact k2 a s h
  | _ => exact h
@[simp] theorem to_var {i : Nat} : (eVar i l st).To Q ↔ ∃ u, l[i]? = some (some u) ∧ Q u st := by
  unfold eVar
  split
  · rename_i u e; simp [e]
  · rename_i h
    constructor
    · exact fun z => z.elim
    · rintro ⟨u, e, _⟩; exact (h u e).elim
@[simp] theorem to_c {x : PyData} : (eC x l st).To Q ↔ Q (.d x) st := Iff.rfl
@[simp] theorem to_op {f : U → U → Sto → Res U} {a b : ME} : (eOp f a b l st).To Q ↔ (a l st).To fun x s => (b l s).To fun y s => (f x y s).To Q := by unfold eOp; simp
@[simp] theorem to_addI {i j : Int} : (fAddA (.d (.int i)) (.d (.int j)) st).To Q ↔ Q (.d (.int (i + j))) st := Iff.rfl
@[simp] theorem to_subI {i j : Int} : (fSub (.d (.int i)) (.d (.int j)) st).To Q ↔ Q (.d (.int (i - j))) st := Iff.rfl
@[simp] theorem to_mulI {i j : Int} : (fMulA (.d (.int i)) (.d (.int j)) st).To Q ↔ mulC i j = true ∧ Q (.d (.int (i * j))) st := by unfold fMulA; simp
@[simp] theorem to_modI {i j : Int} : (fMod (.d (.int i)) (.d (.int j)) st).To Q ↔ j ≠ 0 ∧ Q (.d (.int (i.fmod j))) st := by unfold fMod oI; simp
@[simp] theorem to_divI {i j : Int} : (fDiv (.d (.int i)) (.d (.int j)) st).To Q ↔ divC i j = true ∧ Q (.d (.int (i.fdiv j))) st := by unfold fDiv oI; simp
@[simp] theorem to_powI {i j : Int} : (fPow (.d (.int i)) (.d (.int j)) st).To Q ↔ (0 ≤ j ∧ j ≤ 1000000 ∧ i.natAbs < 2 ^ 64) ∧ Q (.d (.int (i ^ j.toNat))) st := by unfold fPow oI; simp
@[simp] theorem to_lt {i j : Int} : (fLt (.d (.int i)) (.d (.int j)) st).To Q ↔ Q (.d (.bool (decide (i < j)))) st := Iff.rfl
@[simp] theorem to_le {i j : Int} : (fLe (.d (.int i)) (.d (.int j)) st).To Q ↔ Q (.d (.bool (decide (i ≤ j)))) st := Iff.rfl
@[simp] theorem to_gt {i j : Int} : (fGt (.d (.int i)) (.d (.int j)) st).To Q ↔ Q (.d (.bool (decide (j < i)))) st := Iff.rfl
@[simp] theorem to_ge {i j : Int} : (fGe (.d (.int i)) (.d (.int j)) st).To Q ↔ Q (.d (.bool (decide (j ≤ i)))) st := Iff.rfl
@[simp] theorem to_eqD {x y : PyData} {neg : Bool} : (opEq neg (.d x) (.d y) st).To Q ↔ (SeqAt.shaped x = true ∧ SeqAt.shaped y = true) ∧ Q (.d (.bool (if neg then !PyData.eqv x y else PyData.eqv x y))) st := by
  unfold opEq toTree; simp
@[simp] theorem shaped_int {i : Int} : SeqAt.shaped (.int i) = true := rfl
@[simp] theorem shaped_bool {i : Bool} : SeqAt.shaped (.bool i) = true := rfl
@[simp] theorem shaped_none : SeqAt.shaped .none = true := rfl
@[simp] theorem eqv_int {i j : Int} : PyData.eqv (.int i) (.int j) = decide (i = j) := by simp [PyData.eqv, BEq.beq]
@[simp] theorem eqv_bool {i j : Bool} : PyData.eqv (.bool i) (.bool j) = decide (i = j) := by cases i <;> cases j <;> rfl
@[simp] theorem to_isN {u : U} {neg : Bool} : (fIsN neg u (.d .none) st).To Q ↔ Q (.d (.bool (if neg then !isNon u else isNon u))) st := Iff.rfl
@[simp] theorem to_ixT {xs : List PyData} {i : Int} : (fIx (.d (.tuple xs)) (.d (.int i)) st).To Q ↔ ∃ x, ((idxN xs.length i).bind fun j => xs[j]?) = some x ∧ Q (.d x) st := by
  show (match (idxN xs.length i).bind fun j => xs[j]? with
        | some x => Res.ok (U.d x) st
        | none => .no).To Q ↔ _
  cases (idxN xs.length i).bind fun j => xs[j]? <;> simp
@[simp] theorem to_ixL {xs : List PyData} {i : Int} : (fIx (.d (.list xs)) (.d (.int i)) st).To Q ↔ ∃ x, ((idxN xs.length i).bind fun j => xs[j]?) = some x ∧ Q (.d x) st := by
  show (match (idxN xs.length i).bind fun j => xs[j]? with
        | some x => Res.ok (U.d x) st
        | none => .no).To Q ↔ _
  cases (idxN xs.length i).bind fun j => xs[j]? <;> simp
@[simp] theorem to_ixF {i : Int} : (fIx .flow (.d (.int i)) st).To Q ↔ ∃ f u, st.fl = some f ∧ flAt f i = some u ∧ Q u st := by
  show (match st.fl with
      | some f => (match flAt f i with
        | some u => Res.ok u st
        | none => .no)
      | none => .no).To Q ↔ _
  cases st.fl with
  | none => simp
  | some f => cases h : flAt f i <;> simp [h]
@[simp] theorem to_ixS {ns : List Int} {i : Int} : (fIx (.scr ns) (.d (.int i)) st).To Q ↔ ∃ x, ((idxN ns.length i).bind fun j => ns[j]?) = some x ∧ Q (.d (.int x)) st := by
  show (match (idxN ns.length i).bind fun j => ns[j]? with
        | some x => Res.ok (U.d (.int x)) st
        | none => .no).To Q ↔ _
  cases (idxN ns.length i).bind fun j => ns[j]? <;> simp
theorem idxN_nat {n j : Nat} (h : j < n) : idxN n (j : Int) = some j := by
  unfold idxN; rw [if_pos (by omega), if_pos (by omega)]; simp
@[simp] theorem flAt_0 {f : Fl} : flAt f 0 = some (.scr f.cells) := rfl
@[simp] theorem flAt_1 {f : Fl} : flAt f 1 = some (.d (.int f.place)) := rfl
@[simp] theorem flAt_2 {f : Fl} : flAt f 2 = some (.d (.int f.held)) := rfl
@[simp] theorem flAt_3 {f : Fl} : flAt f 3 = some (.d (.int f.seed)) := rfl
@[simp] theorem flAt_4 {f : Fl} : flAt f 4 = some (.d (.int f.many)) := rfl
@[simp] theorem flPut_1 {f : Fl} {x : Int} : flPut f 1 x = some { f with place := x } := rfl
@[simp] theorem flPut_2 {f : Fl} {x : Int} : flPut f 2 x = some { f with held := x } := rfl
@[simp] theorem flPut_3 {f : Fl} {x : Int} : flPut f 3 x = some { f with seed := x } := rfl
@[simp] theorem flPut_4 {f : Fl} {x : Int} : flPut f 4 x = some { f with many := x } := rfl
@[simp] theorem to_bTest {m : ME} {P : Bool → Sto → Prop} : (bTest m l st).To P ↔ (m l st).To fun u s => ∃ b, u = .d (.bool b) ∧ P b s := by
  unfold bTest
  rw [to_bind]
  cases m l st with
  | ok u s =>
    simp only [to_ok]
    split
    · rename_i b; simp
    · rename_i h
      simp only [to_no, false_iff]
      rintro ⟨b, rfl, _⟩; exact h b rfl
  | _ => exact Iff.rfl
@[simp] theorem to_bAnd {a b : MB} {P : Bool → Sto → Prop} : (bAnd a b l st).To P ↔ (a l st).To fun c s => if c = true then (b l s).To P else P false s := by unfold bAnd; simp
@[simp] theorem to_bOr {a b : MB} {P : Bool → Sto → Prop} : (bOr a b l st).To P ↔ (a l st).To fun c s => if c = true then P true s else (b l s).To P := by unfold bOr; simp
@[simp] theorem to_bNot {a : MB} {P : Bool → Sto → Prop} : (bNot a l st).To P ↔ (a l st).To fun c s => P (!c) s := by unfold bNot; simp
@[simp] theorem to_bYes {P : Bool → Sto → Prop} : (bYes l st).To P ↔ P true st := Iff.rfl
@[simp] theorem to_bTruB {m : ME} {P : Bool → Sto → Prop} : (bTru m l st).To P ↔ (m l st).To fun u s => ∃ b, truD s u = some b ∧ P b s := by
  unfold bTru
  rw [to_bind]
  cases m l st with
  | ok u s => simp only [to_ok]; cases truD s u <;> simp
  | _ => exact Iff.rfl
@[simp] theorem truD_bool {b : Bool} : truD st (.d (.bool b)) = some b := rfl
@[simp] theorem truD_int {i : Int} : truD st (.d (.int i)) = some (i != 0) := rfl
@[simp] theorem to_eAndV {a b : ME} : (eAndV a b l st).To Q ↔ (a l st).To fun u s => ∃ c, u = .d (.bool c) ∧ if c = true then (b l s).To Q else Q (.d (.bool false)) s := by
  unfold eAndV
  rw [to_bind]
  cases a l st with
  | ok u s =>
    simp only [to_ok]
    split
    · rename_i b; simp
    · rename_i h
      simp only [to_no, false_iff]
      rintro ⟨b, rfl, _⟩; exact h b rfl
  | _ => exact Iff.rfl
@[simp] theorem to_eOrV {a b : ME} : (eOrV a b l st).To Q ↔ (a l st).To fun u s => ∃ c, u = .d (.bool c) ∧ if c = true then Q (.d (.bool true)) s else (b l s).To Q := by
  unfold eOrV
  rw [to_bind]
  cases a l st with
  | ok u s =>
    simp only [to_ok]
    split
    · rename_i b; simp
    · rename_i h
      simp only [to_no, false_iff]
      rintro ⟨b, rfl, _⟩; exact h b rfl
  | _ => exact Iff.rfl
@[simp] theorem to_eNotV {a : ME} : (eNotV a l st).To Q ↔ (a l st).To fun u s => ∃ c, u = .d (.bool c) ∧ Q (.d (.bool (!c))) s := by
  unfold eNotV
  rw [to_bind]
  cases a l st with
  | ok u s =>
    simp only [to_ok]
    split
    · rename_i b; simp
    · rename_i h
      simp only [to_no, false_iff]
      rintro ⟨b, rfl, _⟩; exact h b rfl
  | _ => exact Iff.rfl
@[simp] theorem to_aNil {P : List U → Sto → Prop} : (aNil l st).To P ↔ P [] st := Iff.rfl
@[simp] theorem to_aCons {a : ME} {r : MA} {P : List U → Sto → Prop} : (aCons a r l st).To P ↔ (a l st).To fun u s => (r l s).To fun us s => P (u :: us) s := by unfold aCons; simp
@[simp] theorem lenOk_small {n : Nat} : lenOk n = true ↔ n ≤ 16777216 := by unfold lenOk; rw [sizeLine_eq]; simp
@[simp] theorem to_eTup {a : MA} : (eTup a l st).To Q ↔ (a l st).To fun us s => ∃ ds, treesOf us = some ds ∧ ds.length ≤ 16777216 ∧ Q (.d (.tuple ds)) s := by
  unfold eTup
  rw [to_bind]
  cases a l st with
  | ok u s => simp only [to_ok]; cases treesOf u <;> simp
  | _ => exact Iff.rfl
@[simp] theorem treesOf_nil : treesOf [] = some [] := rfl
@[simp] theorem treesOf_cons {x : PyData} {us : List U} : treesOf (.d x :: us) = (treesOf us).map (x :: ·) := rfl
@[simp] theorem to_lDisp {a : MA} {P : List PyData → Sto → Prop} : (lDisp a l st).To P ↔ (a l st).To fun us s => ∃ ds, treesOf us = some ds ∧ ds.length ≤ 16777216 ∧ P ds s := by
  unfold lDisp
  rw [to_bind]
  cases a l st with
  | ok u s => simp only [to_ok]; cases treesOf u <;> simp
  | _ => exact Iff.rfl
@[simp] theorem to_eFrz {m : ML} : (eFrz m l st).To Q ↔ (m l st).To fun xs s => Q (.d (.list xs)) s := by unfold eFrz; simp
@[simp] theorem to_eOwn {m : ML} : (eOwn m l st).To Q ↔ (m l st).To fun xs s => Q (.ref s.obs.length) (s.add xs) := by unfold eOwn; simp
@[simp] theorem to_eCB {f : List U → Sto → Res U} {a : MA} : (eCB f a l st).To Q ↔ (a l st).To fun us s => (f us s).To Q := by unfold eCB; simp
@[simp] theorem to_lCB {f : List U → Sto → Res (List PyData)} {a : MA} {P : List PyData → Sto → Prop} : (lCB f a l st).To P ↔ (a l st).To fun us s => (f us s).To P := by unfold lCB; simp
@[simp] theorem to_callP {k : Nat} {m : List PyData → Rp} {a : MA} : (eCallP k m a l st).To Q ↔ (a l st).To fun us s => (fCallP k m us s).To Q := by unfold eCallP; simp
@[simp] theorem to_callF {k : Nat} {m : List PyData → Fl → Rf} {a : MA} : (eCallF k m a l st).To Q ↔ (a l st).To fun us s => (fCallF k m us s).To Q := by unfold eCallF; simp
theorem ctrees_d {ds : List PyData} : ctrees st (ds.map .d) = some ds := by
  induction ds with
  | nil => rfl
  | cons x xs ih => rw [List.map_cons, ctrees, ih]; rfl
theorem any_d {ds : List PyData} : (ds.map U.d).any isRef = false := by
  induction ds with
  | nil => rfl
  | cons x xs ih => rw [List.map_cons, List.any_cons, ih]; rfl
theorem fCallP_d {k : Nat} {m : List PyData → Rp} {ds : List PyData} (hk : ds.length = k) : (fCallP k m (ds.map .d) st).To Q ↔ (m ds).To fun d => Q (.d d) st := by
  unfold fCallP
  rw [ctrees_d]
  simp only [hk, if_true, any_d]
  cases m ds <;> simp [Rp.To]
theorem fCallF_d {k : Nat} {m : List PyData → Fl → Rf} {ds : List PyData} {f : Fl} (hf : st.fl = some f) (hk : ds.length + 1 = k) : (fCallF k m (.flow :: ds.map .d) st).To Q ↔ (m ds f).To fun d f' => Q (.d d) { st with fl := some f' } := by
  unfold fCallF
  simp only [hf]
  rw [ctrees_d]
  simp only [hk, if_true, any_d]
  cases m ds f <;> simp [Rf.To]
@[simp] theorem callP_1 {m : List PyData → Rp} {x : PyData} : (fCallP 1 m [.d x] st).To Q ↔ (m [x]).To fun d => Q (.d d) st := fCallP_d (ds := [x]) rfl
@[simp] theorem callP_2 {m : List PyData → Rp} {x y : PyData} : (fCallP 2 m [.d x, .d y] st).To Q ↔ (m [x, y]).To fun d => Q (.d d) st := fCallP_d (ds := [x, y]) rfl
@[simp] theorem callP_3 {m : List PyData → Rp} {x y z : PyData} : (fCallP 3 m [.d x, .d y, .d z] st).To Q ↔ (m [x, y, z]).To fun d => Q (.d d) st := fCallP_d (ds := [x, y, z]) rfl
@[simp] theorem callP_4 {m : List PyData → Rp} {x y z w : PyData} : (fCallP 4 m [.d x, .d y, .d z, .d w] st).To Q ↔ (m [x, y, z, w]).To fun d => Q (.d d) st := fCallP_d (ds := [x, y, z, w]) rfl
@[simp] theorem callF_1 {m : List PyData → Fl → Rf} {f : Fl} {o : List Ob} : (fCallF 1 m [.flow] ⟨some f, o⟩).To Q ↔ (m [] f).To fun d f' => Q (.d d) ⟨some f', o⟩ := fCallF_d (ds := []) rfl rfl
@[simp] theorem callF_2 {m : List PyData → Fl → Rf} {x : PyData} {f : Fl} {o : List Ob} : (fCallF 2 m [.flow, .d x] ⟨some f, o⟩).To Q ↔ (m [x] f).To fun d f' => Q (.d d) ⟨some f', o⟩ := fCallF_d (ds := [x]) rfl rfl
@[simp] theorem callF_3 {m : List PyData → Fl → Rf} {x y : PyData} {f : Fl} {o : List Ob} : (fCallF 3 m [.flow, .d x, .d y] ⟨some f, o⟩).To Q ↔ (m [x, y] f).To fun d f' => Q (.d d) ⟨some f', o⟩ := fCallF_d (ds := [x, y]) rfl rfl
@[simp] theorem callF_4 {m : List PyData → Fl → Rf} {x y z : PyData} {f : Fl} {o : List Ob} : (fCallF 4 m [.flow, .d x, .d y, .d z] ⟨some f, o⟩).To Q ↔ (m [x, y, z] f).To fun d f' => Q (.d d) ⟨some f', o⟩ := fCallF_d (ds := [x, y, z]) rfl rfl
@[simp] theorem to_cAbs {i : Int} : (cAbs [.d (.int i)] st).To Q ↔ Q (.d (.int (if i < 0 then -i else i))) st := Iff.rfl
@[simp] theorem to_cIntI {i : Int} : (cInt [.d (.int i)] st).To Q ↔ Q (.d (.int i)) st := Iff.rfl
@[simp] theorem to_cIntB {b : Bool} : (cInt [.d (.bool b)] st).To Q ↔ Q (.d (.int (if b then 1 else 0))) st := Iff.rfl
@[simp] theorem to_cLenT {xs : List PyData} : (cLen [.d (.tuple xs)] st).To Q ↔ Q (.d (.int xs.length)) st := Iff.rfl
@[simp] theorem to_cLenL {xs : List PyData} : (cLen [.d (.list xs)] st).To Q ↔ Q (.d (.int xs.length)) st := Iff.rfl
@[simp] theorem to_cLenS {ns : List Int} : (cLen [.scr ns] st).To Q ↔ Q (.d (.int ns.length)) st := Iff.rfl
@[simp] theorem to_cAll {bs : List Bool} : (cAll [.d (.list (bs.map .bool))] st).To Q ↔ Q (.d (.bool (bs.all id))) st := by
  unfold cAll cBools listOf; simp
@[simp] theorem to_cAny {bs : List Bool} : (cAny [.d (.list (bs.map .bool))] st).To Q ↔ Q (.d (.bool (bs.any id))) st := by
  unfold cAny cBools listOf; simp
@[simp] theorem to_isi {m : ME} {T : String} : (eIsi m T l st).To Q ↔ (m l st).To fun u s => ∃ x, toTree s u = some x ∧ tyOk T = true ∧ Q (.d (.bool (isiT x T))) s := by
  unfold eIsi
  rw [to_bind]
  cases m l st with
  | ok u s => simp only [to_ok]; cases toTree s u <;> simp
  | _ => exact Iff.rfl
@[simp] theorem toTree_d' {x : PyData} : toTree st (.d x) = some x := rfl
@[simp] theorem to_sNext : (sNext l st).To N R ↔ N l st := Iff.rfl
@[simp] theorem to_sSeq {a b : MS} : (sSeq a b l st).To N R ↔ (a l st).To (fun l s => (b l s).To N R) R := by unfold sSeq; simp
@[simp] theorem to_sAsg {i : Nat} {m : ME} : (sAsg i m l st).To N R ↔ (m l st).To fun u s => N (l.set i (some u)) s := by unfold sAsg; simp
@[simp] theorem to_sDrop {m : ME} : (sDrop m l st).To N R ↔ (m l st).To fun _ s => N l s := by unfold sDrop; simp
@[simp] theorem to_sRet {m : ME} : (sRet m l st).To N R ↔ (m l st).To R := by unfold sRet; simp
@[simp] theorem to_sIf {c : MB} {a b : MS} : (sIf c a b l st).To N R ↔ (c l st).To fun k s => if k = true then (a l s).To N R else (b l s).To N R := by unfold sIf; simp
theorem to_sPar0 {i j : Nat} {a : MA} : (sPar i j a l st).To N R ↔ (a l st).To fun us s => ∃ u w, us = [u, w] ∧ N ((l.set i (some u)).set j (some w)) s := by
  unfold sPar
  rw [to_out]
  cases a l st with
  | ok us s =>
    simp only [to_ok]
    show (match us with | [u, w] => Out.nx ((l.set i (some u)).set j (some w)) s | _ => .no).To N R ↔ _
    split
    · rename_i u w
      exact ⟨fun z => ⟨u, w, rfl, z⟩, fun ⟨u', w', e, z⟩ => by cases e; exact z⟩
    · rename_i h
      constructor
      · exact fun z => z.elim
      · rintro ⟨u, w, rfl, _⟩; exact (h u w rfl).elim
  | _ => exact Iff.rfl
@[simp] theorem to_sPar {i j : Nat} {a b : ME} : (sPar i j (aCons a (aCons b aNil)) l st).To N R ↔ (a l st).To fun u s => (b l s).To fun w s => N ((l.set i (some u)).set j (some w)) s := by
  rw [to_sPar0, to_aCons]
  refine iff_of_eq (congrArg _ (funext fun u => funext fun s => propext ?_))
  rw [to_aCons]
  refine iff_of_eq (congrArg _ (funext fun w => funext fun s => propext ?_))
  rw [to_aNil]
  exact ⟨fun ⟨u', w', e, z⟩ => by cases e; exact z, fun z => ⟨u, w, rfl, z⟩⟩
@[simp] theorem to_sAsgG {m : ME} {t : MT} : (sAsgG m t l st).To N R ↔ (m l st).To fun u s => (t u l s).To N := by unfold sAsgG; simp
@[simp] theorem to_gName {i : Nat} {u : U} {P : Loc → Sto → Prop} : (gNameM i u l st).To P ↔ P (l.set i (some u)) st := Iff.rfl
@[simp] theorem to_gTup {n : Nat} {r : MTs} {xs : List PyData} {P : Loc → Sto → Prop} : (gTupM n r (.d (.tuple xs)) l st).To P ↔ xs.length = n ∧ (r xs l st).To P := by
  unfold gTupM; simp
@[simp] theorem to_gCons {t : MT} {r : MTs} {x : PyData} {xs : List PyData} {P : Loc → Sto → Prop} : (gConsM t r (x :: xs) l st).To P ↔ (t (.d x) l st).To fun l s => (r xs l s).To P := by unfold gConsM; simp
@[simp] theorem to_gNil {P : Loc → Sto → Prop} : (gNilM [] l st).To P ↔ P l st := Iff.rfl
@[simp] theorem to_gSubF {o i : ME} {x : Int} {P : Loc → Sto → Prop} : (gSubM o i (.d (.int x)) l st).To P ↔ (o l st).To fun ou s => (i l s).To fun iu s => (match ou, iu with
  | .flow, .d (.int j) => ∃ f f', s.fl = some f ∧ flPut f j x = some f' ∧ P l { s with fl := some f' }
  | .ref k, .d (.int j) => ∃ xs n, s.obs[k]? = some (.lst xs) ∧ idxN xs.length j = some n ∧ P l (s.put k (xs.set n (.int x)))
  | _, _ => False) := by
  unfold gSubM
  rw [to_bind]
  refine iff_of_eq (congrArg _ (funext fun ou => funext fun s => propext ?_))
  rw [to_bind]
  refine iff_of_eq (congrArg _ (funext fun iu => funext fun s => propext ?_))
  cases ou <;> cases iu <;> try exact Iff.rfl
  · rename_i k y
    cases y <;> try exact Iff.rfl
    rename_i j
    show (match s.obs[k]? with
      | some (.lst xs) => (match idxN xs.length j with
        | some n => Res.ok l (s.put k (xs.set n (.int x)))
        | none => .no)
      | _ => .no).To P ↔ _
    split
    · rename_i xs e
      split
      · rename_i n en; simp [e, en]
      · rename_i en; simp [e, en]
    · rename_i h
      constructor
      · exact fun z => z.elim
      · rintro ⟨xs, n, e, _⟩; exact (h xs e).elim
  · rename_i y
    cases y <;> try exact Iff.rfl
    rename_i j
    show (match s.fl with
      | some f => (match flPut f j x with
        | some f' => Res.ok l { s with fl := some f' }
        | none => .no)
      | none => .no).To P ↔ _
    cases s.fl with
    | none => simp
    | some f => cases e : flPut f j x <;> simp [e]
end
def retP (P : PyData → Prop) (u : U) (s : Sto) : Prop := match u with
  | .d x => P x
  | .ref i => ∃ xs, s.obs[i]? = some (Ob.lst xs) ∧ P (.list xs)
  | _ => False
def retF (P : PyData → Fl → Prop) (u : U) (s : Sto) : Prop := match u with
  | .d x => ∃ f, s.fl = some f ∧ P x f
  | .ref i => ∃ xs f, s.obs[i]? = some (Ob.lst xs) ∧ s.fl = some f ∧ P (.list xs) f
  | _ => False
section
variable {st : Sto} {P : PyData → Prop} {PF : PyData → Fl → Prop}
@[simp] theorem retP_d {x : PyData} : retP P (.d x) st ↔ P x := Iff.rfl
@[simp] theorem retP_ref {i : Nat} : retP P (.ref i) st ↔ ∃ xs, st.obs[i]? = some (Ob.lst xs) ∧ P (.list xs) := Iff.rfl
@[simp] theorem retF_d {x : PyData} : retF PF (.d x) st ↔ ∃ f, st.fl = some f ∧ PF x f := Iff.rfl
@[simp] theorem retF_ref {i : Nat} : retF PF (.ref i) st ↔ ∃ xs f, st.obs[i]? = some (Ob.lst xs) ∧ st.fl = some f ∧ PF (.list xs) f := Iff.rfl
theorem outP_to {o : Out} : (outP o).To P ↔ o.To (fun _ _ => P .none) (retP P) := by
  cases o with
  | rt u s =>
    cases u with
    | ref i =>
      show (match s.obs[i]? with | some (.lst xs) => Rp.ok (.list xs) true | _ => .no).To P ↔ ∃ xs, s.obs[i]? = some (Ob.lst xs) ∧ P (.list xs)
      split
      · rename_i xs e; simp [e, Rp.To]
      · rename_i h
        constructor
        · exact fun z => z.elim
        · rintro ⟨xs, e, _⟩; exact (h xs e).elim
    | _ => exact Iff.rfl
  | _ => exact Iff.rfl
theorem pure_to {n : Nat} {b : MS} {ds : List PyData} : (pureOf n b ds).To P ↔ (b (startL n (ds.map .d)) ⟨none, []⟩).To (fun _ _ => P .none) (retP P) := outP_to
theorem outF_to {o : Out} : (outF o).To PF ↔ o.To (fun _ s => ∃ f, s.fl = some f ∧ PF .none f) (retF PF) := by
  cases o with
  | rt u s =>
    cases u with
    | d x =>
      show (match s.fl with | some f => Rf.ok x false f | none => .no).To PF ↔ ∃ f, s.fl = some f ∧ PF x f
      cases s.fl <;> simp [Rf.To]
    | ref i =>
      show (match s.obs[i]?, s.fl with | some (.lst xs), some f => Rf.ok (.list xs) true f | _, _ => .no).To PF ↔ ∃ xs f, s.obs[i]? = some (Ob.lst xs) ∧ s.fl = some f ∧ PF (.list xs) f
      split
      · rename_i xs f e e2; simp [e, e2, Rf.To]
      · rename_i h
        constructor
        · exact fun z => z.elim
        · rintro ⟨xs, f, e, e2, _⟩; exact (h xs f e e2).elim
    | _ => exact Iff.rfl
  | nx l s =>
    show (match s.fl with | some f => Rf.ok .none false f | none => .no).To PF ↔ ∃ f, s.fl = some f ∧ PF .none f
    cases s.fl <;> simp [Rf.To]
  | ex e l s =>
    show (match s.fl with | some f => Rf.ex e f | none => .no).To PF ↔ False
    cases s.fl <;> exact Iff.rfl
  | _ => exact Iff.rfl
theorem flow_to {n : Nat} {b : MS} {ds : List PyData} {f : Fl} : (flowOf n b ds f).To PF ↔ (b (startL n (.flow :: ds.map .d)) ⟨some f, []⟩).To (fun _ s => ∃ f, s.fl = some f ∧ PF .none f) (retF PF) := outF_to
theorem Rp.To.mono {r : Rp} {P' : PyData → Prop} (h : r.To P) (k : ∀ d, P d → P' d) : r.To P' := by
  cases r with
  | ok a s => exact k a h
  | _ => exact h
theorem Rf.To.mono {r : Rf} {P' : PyData → Fl → Prop} (h : r.To PF) (k : ∀ d f, PF d f → P' d f) : r.To P' := by
  cases r with
  | ok a s f => exact k a f h
  | _ => exact h
theorem while_to {c : MB} {b : MS} {N : Loc → Sto → Prop} {R : U → Sto → Prop} {I : Nat → Loc → Sto → Prop}
    (step : ∀ n l st, I n l st → (c l st).To fun k s => if k = true then (b l s).To (fun l s => ∃ m, m < n ∧ I m l s) R else N l s) : ∀ (n : Nat) (l : Loc) (st : Sto), I n l st → (sWhile c b l st).To N R := by
  intro n l st h
  have key : ∀ (k n : Nat), n < k → ∀ l st, I n l st → (whileN c b k l st).To N R := by
    intro k
    induction k with
    | zero => intro n hn; omega
    | succ k ih =>
      intro n hn l st h
      rw [whileN, to_out]
      refine (step n l st h).mono fun q s hq => ?_
      rw [to_iteO]
      split
      · rename_i hq'
        rw [if_pos hq'] at hq
        cases e : b l s with
        | nx l' s' =>
          rw [e] at hq
          obtain ⟨m, hm, h'⟩ := hq
          exact ih m (by omega) l' s' h'
        | rt u s' => rw [e] at hq; exact hq
        | _ => rw [e] at hq; exact hq.elim
      · rename_i hq'
        rw [if_neg hq'] at hq
        exact hq
  have z := key (n + 1) n (Nat.lt_succ_self n) l st h
  have hne : whileN c b (n + 1) l st ≠ .no := by
    intro e; rw [e] at z; exact z
  rw [sWhile_of (n + 1) rfl hne]
  exact z
theorem for_to {d : ItD} {t : MT} {b : MS} {N : Loc → Sto → Prop} {R : U → Sto → Prop} {I : List PyData → Loc → Sto → Prop} (hk : ∀ xs l st, I xs l st → d.chk st)
    (step : ∀ x xs l st, I (x :: xs) l st → (t (.d x) l st).To fun l s => (b l s).To (I xs) R) (fin : ∀ l st, I [] l st → N l st) : ∀ (xs : List PyData) (l : Loc) (st : Sto), I xs l st → (forM d t b xs l st).To N R
  | [], l, st, h => by
    rw [forM, if_pos (hk _ _ _ h)]; exact fin l st h
  | x :: xs, l, st, h => by
    rw [forM, if_pos (hk _ _ _ h), to_out]
    refine (step x xs l st h).mono fun l1 s1 h1 => ?_
    cases e : b l1 s1 with
    | nx l2 s2 => rw [e] at h1; exact for_to hk step fin xs l2 s2 h1
    | rt u s2 => rw [e] at h1; exact h1
    | _ => rw [e] at h1; exact h1.elim
theorem chk_nil {xs : List PyData} : (ItD.mk xs []).chk st := fun p h => by cases h
@[simp] theorem to_sFor {mi : MI} {t : MT} {b : MS} {l : Loc} {N : Loc → Sto → Prop} {R : U → Sto → Prop} : (sFor mi t b l st).To N R ↔ (mi l st).To fun d s => (forM d t b d.items l s).To N R := by unfold sFor; simp
@[simp] theorem to_mR1 {a : MA} {l : Loc} {Q : ItD → Sto → Prop} : (mR1 a l st).To Q ↔ (a l st).To fun us s => ∃ j, us = [.d (.int j)] ∧ rOk j = true ∧ Q ⟨rangeD 0 1 j.toNat, []⟩ s := by
  unfold mR1
  rw [to_bind]
  cases a l st with
  | ok us s =>
    simp only [to_ok]
    split
    · rename_i j; simp
    · rename_i h
      constructor
      · exact fun z => z.elim
      · rintro ⟨j, rfl, _⟩; exact (h j rfl).elim
  | _ => exact Iff.rfl
@[simp] theorem to_mR2 {a : MA} {l : Loc} {Q : ItD → Sto → Prop} : (mR2 a l st).To Q ↔ (a l st).To fun us s => ∃ i j, us = [.d (.int i), .d (.int j)] ∧ (rOk i = true ∧ rOk j = true) ∧ Q ⟨rangeD i 1 (j - i).toNat, []⟩ s := by
  unfold mR2
  rw [to_bind]
  cases a l st with
  | ok us s =>
    simp only [to_ok]
    split
    · rename_i i j
      rw [to_ite]
      constructor
      · intro z
        split at z
        · rename_i h; exact ⟨i, j, rfl, (Bool.and_eq_true _ _).mp h, z⟩
        · exact z.elim
      · rintro ⟨i', j', e, h, z⟩
        cases e
        rw [if_pos ((Bool.and_eq_true _ _).mpr h)]; exact z
    · rename_i h
      constructor
      · exact fun z => z.elim
      · rintro ⟨i, j, rfl, _⟩; exact (h i j rfl).elim
  | _ => exact Iff.rfl
@[simp] theorem to_mAny {m : ME} {l : Loc} {Q : ItD → Sto → Prop} : (mAny m l st).To Q ↔ (m l st).To fun u s => ∃ xs own, srcOf s u = some (xs, own) ∧ Q ⟨xs, own⟩ s := by
  unfold mAny
  rw [to_bind]
  cases m l st with
  | ok u s =>
    simp only [to_ok]
    cases e : srcOf s u with
    | none => simp
    | some p => exact ⟨fun z => ⟨p.1, p.2, rfl, z⟩, fun ⟨xs, own, e, z⟩ => by cases e; exact z⟩
  | _ => exact Iff.rfl
@[simp] theorem to_mRev {m : ME} {l : Loc} {Q : ItD → Sto → Prop} : (mRev m l st).To Q ↔ (m l st).To fun u s => ∃ xs own, srcOf s u = some (xs, own) ∧ Q ⟨xs.reverse, own⟩ s := by
  unfold mRev
  rw [to_bind]
  cases m l st with
  | ok u s =>
    simp only [to_ok]
    cases e : srcOf s u with
    | none => simp
    | some p => exact ⟨fun z => ⟨p.1, p.2, rfl, z⟩, fun ⟨xs, own, e, z⟩ => by cases e; exact z⟩
  | _ => exact Iff.rfl
@[simp] theorem srcOf_list {xs : List PyData} : srcOf st (.d (.list xs)) = some (xs, []) := rfl
@[simp] theorem srcOf_tuple {xs : List PyData} : srcOf st (.d (.tuple xs)) = some (xs, []) := rfl
theorem lc_to {d : ItD} {vs : List Nat} {t : MT} {c : MB} {m : ME} {l : Loc} {P : List PyData → Sto → Prop} {I : List PyData → List PyData → Sto → Prop} (hk : ∀ xs acc st, I xs acc st → d.chk st)
    (step : ∀ x xs acc st, I (x :: xs) acc st → (t (.d x) (wipeL l vs) st).To fun l1 s => (c l1 s).To fun b s => if b = true then (m l1 s).To fun u s => ∃ y, u = .d y ∧ I xs (acc ++ [y]) s else I xs acc s)
    (fin : ∀ acc st, I [] acc st → P acc st) : ∀ (xs acc : List PyData) (st : Sto), I xs acc st → (lcM d vs t c m l xs st).To fun ys s => P (acc ++ ys) s
  | [], acc, st, h => by
    rw [lcM, if_pos (hk _ _ _ h)]
    show P (acc ++ []) st
    rw [List.append_nil]; exact fin acc st h
  | x :: xs, acc, st, h => by
    rw [lcM, if_pos (hk _ _ _ h)]
    have h1 := step x xs acc st h
    cases e1 : t (.d x) (wipeL l vs) st with
    | ok l1 s1 =>
      rw [e1] at h1
      show ((c l1 s1).noX.bind _).To _
      have h2 : (c l1 s1).To _ := h1
      cases e2 : c l1 s1 with
      | ok b s2 =>
        rw [e2] at h2
        have h3 : if b = true then (m l1 s2).To fun u s => ∃ y, u = .d y ∧ I xs (acc ++ [y]) s else I xs acc s2 := h2
        show (if b = true then _ else _ : Res (List PyData)).To _
        rw [to_ite]
        cases b with
        | true =>
          rw [if_pos rfl] at h3 ⊢
          cases e3 : m l1 s2 with
          | ok u s3 =>
            rw [e3] at h3
            obtain ⟨y, rfl, h4⟩ := h3
            show ((lcM d vs t c m l xs s3).bind fun ys st => .ok (y :: ys) st).To _
            rw [to_bind]
            refine (lc_to hk step fin xs (acc ++ [y]) s3 h4).mono fun ys s h5 => ?_
            rw [List.append_assoc] at h5
            exact h5
          | ex e s3 => rw [e3] at h3; exact h3.elim
          | no => rw [e3] at h3; exact h3.elim
        | false =>
          rw [if_neg Bool.false_ne_true] at h3 ⊢
          exact lc_to hk step fin xs acc s2 h3
      | ex e s2 => rw [e2] at h2; exact h2.elim
      | no => rw [e2] at h2; exact h2.elim
    | ex e s1 => rw [e1] at h1; exact h1.elim
    | no => rw [e1] at h1; exact h1.elim
@[simp] theorem to_lLc {mi : MI} {vs : List Nat} {t : MT} {c : MB} {m : ME} {l : Loc} {P : List PyData → Sto → Prop} : (lLc mi vs t c m l st).To P ↔ (mi l st).To fun d s => d.items.length ≤ 16777216 ∧ (lcM d vs t c m l d.items s).To P := by
  unfold lLc
  rw [to_bind]
  cases mi l st with
  | ok d s => simp
  | _ => exact Iff.rfl
end
end NW
namespace NW
open PySem PySem.Spec PyProof.Rows L2
section
variable {l : Loc} {st : Sto} {Q : U → Sto → Prop} {P : Option Int → Sto → Prop}
@[simp] theorem to_oNone : (oNone l st).To P ↔ P none st := Iff.rfl
@[simp] theorem to_oSome {m : ME} : (oSome m l st).To P ↔ (m l st).To fun u s => ∃ i, u = .d (.int i) ∧ P (some i) s := by
  unfold oSome
  rw [to_bind]
  cases m l st with
  | ok u s =>
    simp only [to_ok]
    split
    · rename_i i; simp
    · rename_i h
      simp only [to_no, false_iff]
      rintro ⟨i, rfl, _⟩; exact h i rfl
  | _ => exact Iff.rfl
@[simp] theorem to_eSlAny {m : ME} {lo hi : MO} : (eSlAny m lo hi l st).To Q ↔ (m l st).To fun u s => (lo l s).To fun a s => (hi l s).To fun b s => (fSl u a b s).To Q := by unfold eSlAny; simp
@[simp] theorem to_slT {xs : List PyData} {a b : Option Int} : (fSl (.d (.tuple xs)) a b st).To Q ↔ Q (.d (.tuple (cutD xs a b))) st := Iff.rfl
@[simp] theorem to_slL {xs : List PyData} {a b : Option Int} : (fSl (.d (.list xs)) a b st).To Q ↔ Q (.d (.list (cutD xs a b))) st := Iff.rfl
@[simp] theorem to_addL {xs ys : List PyData} : (fAddA (.d (.list xs)) (.d (.list ys)) st).To Q ↔ xs.length + ys.length ≤ 16777216 ∧ Q (.d (.list (xs ++ ys))) st := by
  show (if lenOk (xs.length + ys.length) = true then Res.ok (U.d (.list (xs ++ ys))) st else .no).To Q ↔ _
  rw [to_ite]; simp only [lenOk_small, to_ok, to_no]; split
  · rename_i h; exact ⟨fun z => ⟨h, z⟩, fun z => z.2⟩
  · rename_i h; exact ⟨fun z => z.elim, fun z => h z.1⟩
@[simp] theorem to_addT {xs ys : List PyData} : (fAddA (.d (.tuple xs)) (.d (.tuple ys)) st).To Q ↔ xs.length + ys.length ≤ 16777216 ∧ Q (.d (.tuple (xs ++ ys))) st := by
  show (if lenOk (xs.length + ys.length) = true then Res.ok (U.d (.tuple (xs ++ ys))) st else .no).To Q ↔ _
  rw [to_ite]; simp only [lenOk_small, to_ok, to_no]; split
  · rename_i h; exact ⟨fun z => ⟨h, z⟩, fun z => z.2⟩
  · rename_i h; exact ⟨fun z => z.elim, fun z => h z.1⟩
end
theorem rt_true {o : Out} (h : o.To (fun _ _ => False) fun u _ => u = .d (.bool true)) : ∃ st', o = .rt (.d (.bool true)) st' := by
  cases o with
  | rt u s => cases (show u = _ from h); exact ⟨s, rfl⟩
  | nx l s => exact h.elim
  | _ => exact h.elim
end NW
namespace NW
open PySem PySem.Spec PyProof.Rows L2
section
variable {P : Program} {w : World} {K : PySem.W.Frag} {mg : Str → Option Value} {base : Heap} {N ps : List Str} {x : Str} {st : Stmt} {k n : Nat}
theorem calP0 (D : DefIn K mg x st ps) (S : FnScope N ps (defScope st)) : Cal P w K mg base k x ps (spP K n fun _ => .no) := by
  obtain ⟨f, fd, F, hm, hb'⟩ := D.ex
  refine ⟨f, fd, ⟨fun vs H Q E h => ?_, fun A outer s H args us vs Q E hr he hb hv h => ?_⟩, hm, F.kp, hb'⟩
  · obtain ⟨O0, ds, d, fr, _, _, _, e, _⟩ := h; cases e
  · obtain ⟨O0, ds, d, fr, _, _, _, e, _⟩ := h; cases e
end
end NW
namespace NW
open PySem PySem.Spec PyProof.Rows L2
@[simp] theorem put_mk {f : Option Fl} {o : List Ob} {i : Nat} {xs : List PyData} : Sto.put ⟨f, o⟩ i xs = ⟨f, o.set i (.lst xs)⟩ := rfl
@[simp] theorem add_mk {f : Option Fl} {o : List Ob} {xs : List PyData} : Sto.add ⟨f, o⟩ xs = ⟨f, o ++ [.lst xs]⟩ := rfl
section
variable {l : Loc} {st : Sto} {Q : U → Sto → Prop}
@[simp] theorem listOf_ref {i : Nat} {xs : List PyData} : listOf st (.ref i) = some xs ↔ st.obs[i]? = some (.lst xs) := by
  show (match st.obs[i]? with | some (.lst xs) => some xs | _ => none) = some xs ↔ _
  split
  · rename_i ys e; simp [e]
  · rename_i h
    exact ⟨fun w => by simp at w, fun w => (h _ w).elim⟩
@[simp] theorem toTree_ref {i : Nat} {x : PyData} : toTree st (.ref i) = some x ↔ ∃ xs, st.obs[i]? = some (.lst xs) ∧ x = .list xs := by
  show (match st.obs[i]? with | some (.lst xs) => some (PyData.list xs) | _ => none) = some x ↔ _
  split
  · rename_i ys e; simp [e, eq_comm]
  · rename_i h
    exact ⟨fun w => by simp at w, fun ⟨ys, w, _⟩ => (h _ w).elim⟩
theorem seqOf_ref {i : Nat} : seqOf st (.ref i) = listOf st (.ref i) := by
  unfold seqOf
  cases listOf st (.ref i) <;> rfl
@[simp] theorem isLst_ref {i : Nat} : isLst st (.ref i) = true ↔ ∃ xs, st.obs[i]? = some (.lst xs) := by
  unfold isLst
  rw [Option.isSome_iff_exists]
  exact exists_congr fun xs => listOf_ref
@[simp] theorem isLst_list {xs : List PyData} : isLst st (.d (.list xs)) = true := rfl
@[simp] theorem to_ixR {k : Nat} {i : Int} : (fIx (.ref k) (.d (.int i)) st).To Q ↔ ∃ xs x, st.obs[k]? = some (.lst xs) ∧ ((idxN xs.length i).bind fun j => xs[j]?) = some x ∧ Q (.d x) st := by
  show (match seqOf st (.ref k) with
      | some xs => (match (idxN xs.length i).bind fun j => xs[j]? with
        | some x => Res.ok (U.d x) st
        | none => .no)
      | none => .no).To Q ↔ _
  rw [seqOf_ref]
  cases e : listOf st (.ref k) with
  | none =>
    refine ⟨fun w => w.elim, fun ⟨xs, x, h, _⟩ => ?_⟩
    rw [listOf_ref.mpr h] at e; cases e
  | some ys =>
    have e' := listOf_ref.mp e
    show (match (idxN ys.length i).bind fun j => ys[j]? with
        | some x => Res.ok (U.d x) st
        | none => .no).To Q ↔ _
    cases h : (idxN ys.length i).bind fun j => ys[j]? with
    | none =>
      refine ⟨fun w => w.elim, fun ⟨xs, x, h1, h2, _⟩ => ?_⟩
      rw [e'] at h1; cases h1; rw [h] at h2; cases h2
    | some x =>
      refine ⟨fun w => ⟨ys, x, e', h, w⟩, fun ⟨xs, x, h1, h2, h3⟩ => ?_⟩
      rw [e'] at h1; cases h1; rw [h] at h2; cases h2; exact h3
@[simp] theorem to_eMethL {f : U → List U → Sto → Res U} {o : ME} {a : MA} : (eMethL f o a l st).To Q ↔ (o l st).To fun x s => isLst s x = true ∧ (a l s).To fun us s => (f x us s).To Q := by
  unfold eMethL
  rw [to_bind]
  refine iff_of_eq (congrArg _ (funext fun x => funext fun s => propext ?_))
  rw [to_ite]
  split
  · rename_i h; simp [h]
  · rename_i h; simp [h]
@[simp] theorem ownL_ref {i j : Nat} {xs : List PyData} : ownL st (.ref i) = some (j, xs) ↔ st.obs[i]? = some (.lst xs) ∧ j = i := by
  show (match st.obs[i]? with | some (.lst xs) => some (i, xs) | _ => none) = some (j, xs) ↔ _
  split
  · rename_i ys e; simp [e, eq_comm, and_comm]
  · rename_i h
    exact ⟨fun w => by simp at w, fun ⟨w, _⟩ => (h _ w).elim⟩
@[simp] theorem to_append {k : Nat} {y : PyData} : (mAppend (.ref k) [.d y] st).To Q ↔ ∃ xs, st.obs[k]? = some (.lst xs) ∧ xs.length < 16777216 ∧ Q (.d .none) (st.put k (xs ++ [y])) := by
  unfold mAppend
  cases e : ownL st (.ref k) with
  | none =>
    refine ⟨fun w => w.elim, fun ⟨xs, h, _⟩ => ?_⟩
    rw [ownL_ref.mpr ⟨h, rfl⟩] at e; cases e
  | some p =>
    obtain ⟨j, ys⟩ := p
    obtain ⟨e1, rfl⟩ := ownL_ref.mp e
    show (if decide (ys.length < sizeLine) = true then Res.ok (U.d .none) (st.put j (ys ++ [y])) else .no).To Q ↔ _
    rw [to_ite]
    simp only [decide_eq_true_eq, sizeLine_eq]
    split
    · rename_i h
      exact ⟨fun w => ⟨ys, e1, h, w⟩, fun ⟨xs, h1, _, w⟩ => by rw [e1] at h1; cases h1; exact w⟩
    · rename_i h
      exact ⟨fun w => w.elim, fun ⟨xs, h1, h2, w⟩ => by rw [e1] at h1; cases h1; exact (h h2).elim⟩
@[simp] theorem srcOf_ref {i : Nat} {xs : List PyData} {own : List (Nat × List PyData)} : srcOf st (.ref i) = some (xs, own) ↔ st.obs[i]? = some (.lst xs) ∧ own = [(i, xs)] := by
  show (match st.obs[i]? with | some (.lst xs) => some (xs, [(i, xs)]) | _ => none) = some (xs, own) ↔ _
  split
  · rename_i ys e
    rw [e]
    constructor
    · intro h; cases h; exact ⟨rfl, rfl⟩
    · rintro ⟨h, rfl⟩; cases h; rfl
  · rename_i h
    exact ⟨fun w => by simp at w, fun ⟨w, _⟩ => (h _ w).elim⟩
theorem chk_one {xs ys : List PyData} {i : Nat} (h : st.obs[i]? = some (.lst ys)) : (ItD.mk xs [(i, ys)]).chk st := fun p hp => by
  have : p = (i, ys) := by simpa using hp
  subst this; exact h
end
end NW
namespace NW
open PySem PySem.Spec PyProof.Rows L2
def Sto.die (st : Sto) (i : Nat) : Sto := { st with obs := st.obs.set i .dead }
@[simp] theorem die_mk {f : Option Fl} {o : List Ob} {i : Nat} : Sto.die ⟨f, o⟩ i = ⟨f, o.set i .dead⟩ := rfl
section
variable {G : Gx} {β : List Addr} {st : Sto} {H : Hp} {v : V} {i : Nat} {p : Addr} {xs : List PyData}
theorem Own.die {q : Addr} (h : Own G β (st.die i) q) : Own G β st q := by
  rcases h with h | ⟨j, ys, h1, nd, h2⟩
  · exact .inl h
  · by_cases e : j = i
    · subst e
      simp only [Sto.die] at h1
      by_cases hj : j < st.obs.length
      · rw [List.getElem?_set_self hj] at h1; cases h1; exact absurd rfl nd
      · rw [List.getElem?_eq_none (by simp; omega)] at h1; cases h1
    · exact .inr ⟨j, ys, by simpa [Sto.die, List.getElem?_set_ne (Ne.symm e)] using h1, nd, h2⟩
def eDie (m : ME) : ME := fun l st => (m l st).bind fun u st => match u with
  | .ref i => (match st.obs[i]? with
    | some (.lst xs) => .ok (.d (.list xs)) (st.die i)
    | _ => .no)
  | u => .ok u st
end
section
variable {l : Loc} {st : Sto} {Q : U → Sto → Prop}
@[simp] theorem to_eDie {m : ME} : (eDie m l st).To Q ↔ (m l st).To fun u s => match u with
    | .ref i => ∃ xs, s.obs[i]? = some (Ob.lst xs) ∧ Q (.d (.list xs)) (s.die i)
    | u => Q u s := by
  unfold eDie
  rw [to_bind]
  refine iff_of_eq (congrArg _ (funext fun u => funext fun s => propext ?_))
  cases u with
  | ref i =>
    show (match s.obs[i]? with
      | some (.lst xs) => Res.ok (U.d (.list xs)) (s.die i)
      | _ => .no).To Q ↔ _
    split
    · rename_i xs e; simp [e]
    · rename_i h
      constructor
      · exact fun z => z.elim
      · rintro ⟨xs, e, _⟩; exact (h xs e).elim
  | _ => exact Iff.rfl
end
end NW
namespace NW
open PySem PySem.Spec PyProof.Rows L2
section
variable {l : Loc} {st : Sto} {Q : U → Sto → Prop}
theorem to_eqG {a b : U} {neg : Bool} : (opEq neg a b st).To Q ↔ ∃ x y, (toTree st a = some x ∧ toTree st b = some y) ∧ (SeqAt.shaped x = true ∧ SeqAt.shaped y = true) ∧ Q (.d (.bool (if neg then !PyData.eqv x y else PyData.eqv x y))) st := by
  unfold opEq
  cases e1 : toTree st a with
  | none => simp
  | some x =>
    cases e2 : toTree st b with
    | none => simp
    | some y =>
      simp
      exact ⟨fun h => ⟨x, y, ⟨rfl, rfl⟩, h⟩, fun ⟨_, _, ⟨h1, h2⟩, h⟩ => by cases h1; cases h2; exact h⟩
@[simp] theorem to_eqRD {i : Nat} {y : PyData} {neg : Bool} : (opEq neg (.ref i) (.d y) st).To Q ↔ ∃ xs, st.obs[i]? = some (Ob.lst xs) ∧ (SeqAt.shaped (.list xs) = true ∧ SeqAt.shaped y = true) ∧ Q (.d (.bool (if neg then !PyData.eqv (.list xs) y else PyData.eqv (.list xs) y))) st := by
  rw [to_eqG]
  constructor
  · rintro ⟨x, z, ⟨h1, h2⟩, h3, h4⟩
    obtain ⟨xs, h5, rfl⟩ := toTree_ref.mp h1
    cases h2
    exact ⟨xs, h5, h3, h4⟩
  · rintro ⟨xs, h1, h2, h3⟩
    exact ⟨_, _, ⟨toTree_ref.mpr ⟨xs, h1, rfl⟩, rfl⟩, h2, h3⟩
@[simp] theorem to_eqDR {i : Nat} {y : PyData} {neg : Bool} : (opEq neg (.d y) (.ref i) st).To Q ↔ ∃ xs, st.obs[i]? = some (Ob.lst xs) ∧ (SeqAt.shaped y = true ∧ SeqAt.shaped (.list xs) = true) ∧ Q (.d (.bool (if neg then !PyData.eqv y (.list xs) else PyData.eqv y (.list xs)))) st := by
  rw [to_eqG]
  constructor
  · rintro ⟨x, z, ⟨h1, h2⟩, h3, h4⟩
    obtain ⟨xs, h5, rfl⟩ := toTree_ref.mp h2
    cases h1
    exact ⟨xs, h5, h3, h4⟩
  · rintro ⟨xs, h1, h2, h3⟩
    exact ⟨_, _, ⟨rfl, toTree_ref.mpr ⟨xs, h1, rfl⟩⟩, h2, h3⟩
@[simp] theorem to_eqRR {i j : Nat} {neg : Bool} : (opEq neg (.ref i) (.ref j) st).To Q ↔ ∃ xs ys, (st.obs[i]? = some (Ob.lst xs) ∧ st.obs[j]? = some (Ob.lst ys)) ∧ (SeqAt.shaped (.list xs) = true ∧ SeqAt.shaped (.list ys) = true) ∧ Q (.d (.bool (if neg then !PyData.eqv (.list xs) (.list ys) else PyData.eqv (.list xs) (.list ys)))) st := by
  rw [to_eqG]
  constructor
  · rintro ⟨x, z, ⟨h1, h2⟩, h3, h4⟩
    obtain ⟨xs, h5, rfl⟩ := toTree_ref.mp h1
    obtain ⟨ys, h6, rfl⟩ := toTree_ref.mp h2
    exact ⟨xs, ys, ⟨h5, h6⟩, h3, h4⟩
  · rintro ⟨xs, ys, ⟨h1, h1'⟩, h2, h3⟩
    exact ⟨_, _, ⟨toTree_ref.mpr ⟨xs, h1, rfl⟩, toTree_ref.mpr ⟨ys, h1', rfl⟩⟩, h2, h3⟩
theorem addG {a b : U} (ha : ∀ xs, a = .d xs → ∃ ys, xs = .list ys) (hb : (∃ i, a = .ref i) ∨ ∃ j, b = .ref j) : (fAddA a b st).To Q ↔ ∃ xs ys, (listOf st a = some xs ∧ listOf st b = some ys) ∧ xs.length + ys.length ≤ 16777216 ∧ Q (.d (.list (xs ++ ys))) st := by
  have e : fAddA a b st = (match listOf st a, listOf st b with
    | some xs, some ys => if lenOk (xs.length + ys.length) = true then .ok (.d (.list (xs ++ ys))) st else .no
    | _, _ => .no) := by
    unfold fAddA
    split
    · rename_i i j
      obtain ⟨ys, e⟩ := ha _ rfl; cases e
    · obtain ⟨ys, e⟩ := ha _ rfl; cases e
    · obtain ⟨ys, e⟩ := ha _ rfl; cases e
    · rfl
  rw [e]
  cases e1 : listOf st a with
  | none => simp
  | some x =>
    cases e2 : listOf st b with
    | none => simp
    | some y =>
      show (if lenOk (x.length + y.length) = true then Res.ok (U.d (.list (x ++ y))) st else .no).To Q ↔ _
      rw [to_ite]
      simp only [lenOk_small]
      split
      · rename_i h; exact ⟨fun w => ⟨x, y, ⟨rfl, rfl⟩, h, w⟩, fun ⟨_, _, ⟨w1, w2⟩, _, w⟩ => by cases w1; cases w2; exact w⟩
      · rename_i h; exact ⟨fun w => w.elim, fun ⟨_, _, ⟨w1, w2⟩, w3, w⟩ => by cases w1; cases w2; exact (h w3).elim⟩
@[simp] theorem to_addRL {i : Nat} {ys : List PyData} : (fAddA (.ref i) (.d (.list ys)) st).To Q ↔ ∃ xs, st.obs[i]? = some (Ob.lst xs) ∧ xs.length + ys.length ≤ 16777216 ∧ Q (.d (.list (xs ++ ys))) st := by
  rw [addG (fun xs e => by cases e) (.inl ⟨i, rfl⟩)]
  constructor
  · rintro ⟨xs, zs, ⟨h1, h2⟩, h3, h4⟩
    cases h2
    exact ⟨xs, listOf_ref.mp h1, h3, h4⟩
  · rintro ⟨xs, h1, h3, h4⟩
    exact ⟨xs, ys, ⟨listOf_ref.mpr h1, rfl⟩, h3, h4⟩
@[simp] theorem to_addLR {i : Nat} {ys : List PyData} : (fAddA (.d (.list ys)) (.ref i) st).To Q ↔ ∃ xs, st.obs[i]? = some (Ob.lst xs) ∧ ys.length + xs.length ≤ 16777216 ∧ Q (.d (.list (ys ++ xs))) st := by
  rw [addG (fun xs e => by cases e; exact ⟨_, rfl⟩) (.inr ⟨i, rfl⟩)]
  constructor
  · rintro ⟨xs, zs, ⟨h1, h2⟩, h3, h4⟩
    cases h1
    exact ⟨zs, listOf_ref.mp h2, h3, h4⟩
  · rintro ⟨xs, h1, h3, h4⟩
    exact ⟨ys, xs, ⟨rfl, listOf_ref.mpr h1⟩, h3, h4⟩
@[simp] theorem to_addRR {i j : Nat} : (fAddA (.ref i) (.ref j) st).To Q ↔ ∃ xs ys, (st.obs[i]? = some (Ob.lst xs) ∧ st.obs[j]? = some (Ob.lst ys)) ∧ xs.length + ys.length ≤ 16777216 ∧ Q (.d (.list (xs ++ ys))) st := by
  rw [addG (fun xs e => by cases e) (.inl ⟨i, rfl⟩)]
  simp only [listOf_ref]
@[simp] theorem to_slR {i : Nat} {a b : Option Int} : (fSl (.ref i) a b st).To Q ↔ ∃ xs, st.obs[i]? = some (Ob.lst xs) ∧ Q (.d (.list (cutD xs a b))) st := by
  show (match listOf st (.ref i) with
    | some xs => Res.ok (U.d (.list (cutD xs a b))) st
    | none => .no).To Q ↔ _
  cases e : listOf st (.ref i) with
  | none => exact ⟨fun w => w.elim, fun ⟨xs, h, _⟩ => by rw [listOf_ref.mpr h] at e; cases e⟩
  | some xs =>
    have e' := listOf_ref.mp e
    exact ⟨fun w => ⟨xs, e', w⟩, fun ⟨ys, h, w⟩ => by rw [e'] at h; cases h; exact w⟩
theorem refL {α : Type} {i : Nat} {k : List PyData → Res α} {P : α → Sto → Prop} : (match seqOf st (.ref i) with | some xs => k xs | none => Res.no).To P ↔ ∃ xs, st.obs[i]? = some (Ob.lst xs) ∧ (k xs).To P := by
  rw [seqOf_ref]
  cases e : listOf st (.ref i) with
  | none => exact ⟨fun w => w.elim, fun ⟨xs, h, _⟩ => by rw [listOf_ref.mpr h] at e; cases e⟩
  | some xs =>
    have e' := listOf_ref.mp e
    exact ⟨fun w => ⟨xs, e', w⟩, fun ⟨ys, h, w⟩ => by rw [e'] at h; cases h; exact w⟩
@[simp] theorem to_lenR {i : Nat} : (cLen [.ref i] st).To Q ↔ ∃ xs, st.obs[i]? = some (Ob.lst xs) ∧ Q (.d (.int xs.length)) st := refL (k := fun xs => Res.ok (U.d (.int xs.length)) st)
@[simp] theorem to_listOfR {i : Nat} {P : List PyData → Sto → Prop} : (cListOf [.ref i] st).To P ↔ ∃ xs, st.obs[i]? = some (Ob.lst xs) ∧ P xs st := refL (k := fun xs => Res.ok xs st)
@[simp] theorem to_listOfL {xs : List PyData} {P : List PyData → Sto → Prop} : (cListOf [.d (.list xs)] st).To P ↔ P xs st := Iff.rfl
@[simp] theorem to_listOfT {xs : List PyData} {P : List PyData → Sto → Prop} : (cListOf [.d (.tuple xs)] st).To P ↔ P xs st := Iff.rfl
@[simp] theorem to_tupR {i : Nat} : (cTupOf [.ref i] st).To Q ↔ ∃ xs, st.obs[i]? = some (Ob.lst xs) ∧ Q (.d (.tuple xs)) st := by
  show (match listOf st (.ref i) with
    | some xs => Res.ok (U.d (.tuple xs)) st
    | none => .no).To Q ↔ _
  rw [← seqOf_ref]
  exact refL (k := fun xs => Res.ok (U.d (.tuple xs)) st)
theorem to_gSubG {o i : ME} {y : PyData} {P : Loc → Sto → Prop} (hy : ∀ x, y ≠ .int x) : (gSubM o i (.d y) l st).To P ↔ (o l st).To fun ou s => (i l s).To fun iu s => (match ou, iu with
  | .ref k, .d (.int j) => ∃ xs n, s.obs[k]? = some (.lst xs) ∧ idxN xs.length j = some n ∧ P l (s.put k (xs.set n y))
  | _, _ => False) := by
  unfold gSubM
  rw [to_bind]
  refine iff_of_eq (congrArg _ (funext fun ou => funext fun s => propext ?_))
  rw [to_bind]
  refine iff_of_eq (congrArg _ (funext fun iu => funext fun s => propext ?_))
  cases ou with
  | ref k =>
    cases iu with
    | d z =>
      cases z with
      | int j =>
        show (match s.obs[k]? with
          | some (.lst xs) => (match idxN xs.length j with
            | some n => Res.ok l (s.put k (xs.set n y))
            | none => .no)
          | _ => .no).To P ↔ _
        split
        · rename_i xs e
          split
          · rename_i n en; simp [e, en]
          · rename_i en; simp [e, en]
        · rename_i h
          constructor
          · exact fun z => z.elim
          · rintro ⟨xs, n, e, _⟩; exact (h xs e).elim
      | _ => exact Iff.rfl
    | _ => exact Iff.rfl
  | flow =>
    cases iu with
    | d z =>
      cases z with
      | int j =>
        cases y with
        | int x => exact absurd rfl (hy x)
        | _ => exact Iff.rfl
      | _ => exact Iff.rfl
    | _ => exact Iff.rfl
  | _ => exact Iff.rfl
@[simp] theorem to_gSubT {o i : ME} {ys : List PyData} {P : Loc → Sto → Prop} : (gSubM o i (.d (.tuple ys)) l st).To P ↔ (o l st).To fun ou s => (i l s).To fun iu s => (match ou, iu with
  | .ref k, .d (.int j) => ∃ xs n, s.obs[k]? = some (.lst xs) ∧ idxN xs.length j = some n ∧ P l (s.put k (xs.set n (.tuple ys)))
  | _, _ => False) := to_gSubG (fun x h => by cases h)
@[simp] theorem to_gSubL {o i : ME} {ys : List PyData} {P : Loc → Sto → Prop} : (gSubM o i (.d (.list ys)) l st).To P ↔ (o l st).To fun ou s => (i l s).To fun iu s => (match ou, iu with
  | .ref k, .d (.int j) => ∃ xs n, s.obs[k]? = some (.lst xs) ∧ idxN xs.length j = some n ∧ P l (s.put k (xs.set n (.list ys)))
  | _, _ => False) := to_gSubG (fun x h => by cases h)
@[simp] theorem to_maxL {ns : List Int} : (cMaxL [.d (.list (ns.map .int))] st).To Q ↔ ∃ m, maxI ns = some m ∧ Q (.d (.int m)) st := by
  unfold cMaxL cInts
  show (match intsOf (ns.map PyData.int) with | some ns => (match (maxI ns).map PyData.int with | some x => Res.ok (U.d x) st | none => .no) | none => .no).To Q ↔ _
  rw [intsOf_map]
  show (match (maxI ns).map PyData.int with | some x => Res.ok (U.d x) st | none => .no).To Q ↔ _
  cases maxI ns <;> simp
@[simp] theorem to_minL {ns : List Int} : (cMinL [.d (.list (ns.map .int))] st).To Q ↔ ∃ m, minI ns = some m ∧ Q (.d (.int m)) st := by
  unfold cMinL cInts
  show (match intsOf (ns.map PyData.int) with | some ns => (match (minI ns).map PyData.int with | some x => Res.ok (U.d x) st | none => .no) | none => .no).To Q ↔ _
  rw [intsOf_map]
  show (match (minI ns).map PyData.int with | some x => Res.ok (U.d x) st | none => .no).To Q ↔ _
  cases minI ns <;> simp
@[simp] theorem to_sumL {ns : List Int} : (cSum [.d (.list (ns.map .int))] st).To Q ↔ Q (.d (.int ns.sum)) st := by
  unfold cSum cInts
  show (match intsOf (ns.map PyData.int) with | some ns => Res.ok (U.d (.int ns.sum)) st | none => .no).To Q ↔ _
  rw [intsOf_map]
  exact Iff.rfl
end
theorem lc_mapA {α : Type} {f g : α → PyData} {d : ItD} {vs : List Nat} {t : MT} {c : MB} {m : ME} {l : Loc} {st : Sto} {P : List PyData → Sto → Prop} {as : List α} (hk : d.chk st)
    (h : ∀ a, a ∈ as → (t (.d (f a)) (wipeL l vs) st).To fun l1 s => (c l1 s).To fun b s => b = true ∧ (m l1 s).To fun u s => u = .d (g a) ∧ s = st) (fin : P (as.map g) st) : (lcM d vs t c m l (as.map f) st).To P := by
  refine (lc_to (I := fun ys acc s => s = st ∧ ∃ zs ws, as = zs ++ ws ∧ ys = ws.map f ∧ acc = zs.map g) (P := fun ys s => ys = as.map g ∧ s = st) (fun _ _ _ z => z.1 ▸ hk) ?_ ?_ (as.map f) [] st ⟨rfl, [], as, rfl, rfl, rfl⟩).mono ?_
  · rintro x ys acc s ⟨rfl, zs, ws, e1, e2, rfl⟩
    cases ws with
    | nil => cases e2
    | cons a ws =>
      cases e2
      refine (h a (by rw [e1]; simp)).mono ?_
      rintro l1 s1 h1
      refine h1.mono ?_
      rintro b s2 ⟨rfl, h2⟩
      rw [if_pos rfl]
      refine h2.mono ?_
      rintro u s3 ⟨rfl, rfl⟩
      exact ⟨_, rfl, rfl, zs ++ [a], ws, by rw [e1]; simp, rfl, by simp⟩
  · rintro acc s ⟨rfl, zs, ws, e1, e2, rfl⟩
    have : ws = [] := by cases ws with | nil => rfl | cons c bs => cases e2
    subst this
    simp [e1]
  · rintro ys s ⟨rfl, rfl⟩
    exact fin
theorem lc_filtA {α : Type} {f g : α → PyData} {p : α → Bool} {d : ItD} {vs : List Nat} {t : MT} {c : MB} {m : ME} {l : Loc} {st : Sto} {P : List PyData → Sto → Prop} {as : List α} (hk : d.chk st)
    (h : ∀ a, a ∈ as → (t (.d (f a)) (wipeL l vs) st).To fun l1 s => (c l1 s).To fun b s => b = p a ∧ if p a = true then (m l1 s).To fun u s => u = .d (g a) ∧ s = st else s = st) (fin : P ((as.filter p).map g) st) : (lcM d vs t c m l (as.map f) st).To P := by
  refine (lc_to (I := fun ys acc s => s = st ∧ ∃ zs ws, as = zs ++ ws ∧ ys = ws.map f ∧ acc = (zs.filter p).map g) (P := fun ys s => ys = (as.filter p).map g ∧ s = st) (fun _ _ _ z => z.1 ▸ hk) ?_ ?_ (as.map f) [] st ⟨rfl, [], as, rfl, rfl, rfl⟩).mono ?_
  · rintro x ys acc s ⟨rfl, zs, ws, e1, e2, rfl⟩
    cases ws with
    | nil => cases e2
    | cons a ws =>
      cases e2
      refine (h a (by rw [e1]; simp)).mono ?_
      rintro l1 s1 h1
      refine h1.mono ?_
      rintro b s2 ⟨rfl, h2⟩
      split
      · rename_i hp
        rw [if_pos hp] at h2
        refine h2.mono ?_
        rintro u s3 ⟨rfl, rfl⟩
        exact ⟨_, rfl, rfl, zs ++ [a], ws, by rw [e1]; simp, rfl, by simp [hp]⟩
      · rename_i hp
        rw [if_neg hp] at h2
        subst h2
        exact ⟨rfl, zs ++ [a], ws, by rw [e1]; simp, rfl, by simp [hp]⟩
  · rintro acc s ⟨rfl, zs, ws, e1, e2, rfl⟩
    have : ws = [] := by cases ws with | nil => rfl | cons c bs => cases e2
    subst this
    simp [e1]
  · rintro ys s ⟨rfl, rfl⟩
    exact fin
end NW
namespace NW
open PySem PySem.Spec PyProof.Rows L2
theorem meets_enumerate_newB {v : Value} {o : Obj} {H : Heap → Prop} (B : Begins v o H) :
    Meets (Builtin.«enumerate.__new__» ⟨[.type "enumerate", v], []⟩) (fun _ R s => H s.heap ∧
      R (.ok (.ret (.ref (s.heap.push o).objs.size)))
        { s with heap := (s.heap.push o).push { cls := .type "enumerate", data := .fields #[.none, .bool false, .ref s.heap.objs.size, rawInt 0, .none, .none] } }) :=
  .of_wp fun prog w A R s h => by
    obtain ⟨hp, g, d, tk, os⟩ := s; obtain ⟨h1, h⟩ := h
    have hsub := sub_enumerate
    have q1 : ∀ {A' : Around} {E : Value → Shared → Prop} {Q : Value → Shared → Prop}, Q (.ref hp.objs.size) ⟨(hp.push o), g, d, tk, os⟩ → wpAny (model prog w) A' (pyIter v) Q E ⟨hp, g, d, tk, os⟩ :=
      fun q => B.iter prog w _ _ ⟨hp, g, d, tk, os⟩ _ (B.keeps _ _ h1 fun b o' e => e) q
    wp_walk
    refine wpAny_stack_any fun st => wpAny_pure ?_
    split
    · rename_i c _ _ _ _ _
      cases (c == Value.type "enumerate")
      · wp_walk using q1
        exact ⟨_, rfl, h⟩
      · wp_walk using q1
        exact ⟨_, rfl, h⟩
    · wp_walk using q1
      exact ⟨_, rfl, h⟩
section
variable {prog : Program} {w : World} {A : Around} {E : Value → Shared → Prop} {s : Shared}
theorem call_enumerate_tuple {l : Addr} {items : Array Value} {Q : Value → Shared → Prop} (hL : s.heap.IsTuple l items)
    (h : ∀ h', IsEnum h' (s.heap.objs.size + 1) s.heap.objs.size 0 .none → h'.IsTupleIter s.heap.objs.size l 0 → h'.objs.size = s.heap.objs.size + 2 →
      (∀ b o, s.heap.get? b = some o → h'.get? b = some o) → Q (.ref (s.heap.objs.size + 1)) { s with heap := h' }) :
    wpAny (model prog w) A (call (.type "enumerate") [.ref l]) Q E s := by
  refine callType_new F.called_enumerate (by decide) (F.typeCall_enumerate_1 _) (F.newCall_enumerate_1 _) (fun obj => F.args_object_init_2 obj _) F.entry_enumerate_new
    (meets_enumerate_newB (begins_tuple l items)) ⟨hL, ?_⟩
  have hz : (s.heap.push { cls := .type "tuple_iterator", data := .fields #[.ref l, .int 0 0] }).objs.size = s.heap.objs.size + 1 := Heap.size_push ..
  show _ ∧ _
  rw [hz]
  have he : IsEnum ((s.heap.push { cls := .type "tuple_iterator", data := .fields #[.ref l, .int 0 0] }).push
      { cls := .type "enumerate", data := .fields #[.none, .bool false, .ref s.heap.objs.size, rawInt 0, .none, .none] }) (s.heap.objs.size + 1) s.heap.objs.size 0 .none := by
    have := Heap.get?_push_size (s.heap.push { cls := .type "tuple_iterator", data := .fields #[.ref l, .int 0 0] })
      (o := { cls := .type "enumerate", data := .fields #[.none, .bool false, .ref s.heap.objs.size, rawInt 0, .none, .none] }) rfl
    rw [hz] at this; exact this
  refine ⟨⟨_, he, rfl⟩, h _ he ⟨_, Heap.get?_push_of_some _ (Heap.get?_push_size _ rfl), rfl, rfl⟩ (by rw [Heap.size_push, hz]) fun b o x => Heap.get?_push_of_some _ (Heap.get?_push_of_some _ x)⟩
end
theorem Draws.tupEnd {prog : Program} {w : World} {A : Around} (hh : A.handled = none) (it t : Addr) (hne : t ≠ it) (items : Array Value) (n : Nat) (hn : items[n]? = none) :
    Draws prog w A it [it, t] n (fun _ _ => False) (fun i h => i = n ∧ h.IsTupleIter it t n ∧ h.IsTuple t items) where
  live := fun _ _ st => let ⟨o, ho, _⟩ := st.2.1; ⟨o, ho⟩
  frame := fun _ _ _ st hk => ⟨st.1, st.2.1.at fun o e => hk it (by simp) o e, st.2.2.at fun o e => hk t (by simp) o e⟩
  item := fun i s Q E hi st hQ => by have := st.1; omega
  done := fun s Q E st hE => wpAny_nextOf_tuple_end hh st.2.1 st.2.2 hn hE
def IteT (K : PySem.W.Frag) (a : Addr) : It :=
  ⟨fun i H => ∃ (xs : List V) (x : V), SqT K H a xs ∧ xs[i]? = some x, fun i H v H' => ∃ T x, v = .ref T ∧ H T = none ∧ H' = upd H T (.tup [.int (i : Nat), x]) ∧ ∀ xs, SqT K H a xs → xs[i]? = some x, fun i H => ∃ xs : List V, SqT K H a xs ∧ xs.length ≤ i⟩
theorem turn_enumT {P : Program} {w : World} {K : PySem.W.Frag} {elts : List Expr} {kk : Nat} {tpos : Pos} (a e it : Addr) (ha : a ≠ it) (ha2 : a ≠ e) :
    Turn P w K (.Tuple elts kk tpos) (IteT K a) [e, it] e (fun i h => (∃ old, IsEnum h e it ((i : Nat) : Int) old) ∧ h.IsTupleIter it a i ∧ e ≠ it) where
  mem := by simp
  obj := fun i h st b hb => by
    obtain ⟨⟨old, he⟩, ⟨o, ho, hc, hd⟩, _⟩ := st
    have e' : b = e ∨ b = it := by simpa using hb
    rcases e' with z | z
    · rw [z]; exact ⟨_, he, fun v q => nomatch q⟩
    · rw [z]; exact ⟨o, ho, fun v q => by rw [hd] at q; cases q⟩
  keep := fun i h h' st k => let ⟨⟨old, he⟩, hi, hne⟩ := st; ⟨⟨old, k e (by simp) _ he⟩, hi.at fun o q => k it (by simp) o q, hne⟩
  item := by
    intro X hP hw hK hc i pins s σ H E I hf st hg
    subst hP hw hK
    obtain ⟨⟨old, he⟩, hit, hne⟩ := st
    obtain ⟨xs, x, hq, hx⟩ := hg
    obtain ⟨its, rv, p, hz⟩ := I.tuple hq
    obtain ⟨u, hu, ru⟩ := rv.get hx
    have hel : e < s.heap.objs.size := Heap.lt_size he
    have hil : it < s.heap.objs.size := by obtain ⟨_, q, _⟩ := hit; exact Heap.lt_size q
    have hu' : its.toArray[i]? = some u := by simpa using hu
    have hlt : i < its.toArray.size := by
      have := (List.getElem?_eq_some_iff.mp hu).1
      simpa using this
    refine wpAny_pyNext_enum_itemD (Draws.tuple (A := X.A.in1) (show X.A.in1.handled = none from I.ok.hd hc) it a ha its.toArray) he ⟨hit, (show s.heap.IsTuple a its.toArray from p)⟩ hlt hne (by simp [hne, Ne.symm ha2]) fun x' h' tk hx' ho hst hT hsz hk => ?_
    have ex : x' = u := Option.some.inj (hx'.symm.trans hu')
    subst ex
    refine ⟨_, rfl, wpAny_letOwnedTupleGo_enum (s := { s with heap := h', toks := tk + 1 }) ho fun h'' he' sb => ?_⟩
    have hT2 : h''.get? s.heap.objs.size = some { cls := .type "tuple", data := .seq #[.int i tk, x'] } := (sb.2 _ (Nat.ne_of_gt hel)).trans hT
    have new : ObjOk X.prog X.w (upd H s.heap.objs.size (.tup [.int (i : Nat), x])) h'' s.heap.objs.size (.tup [.int (i : Nat), x]) :=
      ⟨by show 2 ≤ sizeLine; decide, [.int i tk, x'], .cons ⟨_, rfl⟩ (.cons ru .nil), ⟨_, hT2, rfl, _, rfl⟩⟩
    have I1 : Inv X pins σ (upd H s.heap.objs.size (.tup [.int (i : Nat), x])) { s with heap := h'', toks := tk + 1 } :=
      I.turnedNew (ch := [e, it]) (fun b ob hb q => (sb.2 b (fun z => hb (by simp [z]))).trans (hk b ob (fun z => hb (by simp [z])) (fun z => hb (by simp [z])) q)) hf (Nat.le_refl _) new
    refine ⟨.ref s.heap.objs.size, _, I1, rfl, ⟨_, x, rfl, I.hok.fresh (Nat.le_refl _), rfl, fun ys hy => by rw [I.tuple_inj hy hq]; exact hx⟩, ⟨⟨x', ?_⟩, hst.1.at fun o q => (sb.2 it (Ne.symm hne)).trans q, hne⟩, fun b hb => ?_⟩
    · have e1 : ((i + 1 : Nat) : Int) = (i : Int) + 1 := by omega
      rw [e1]; exact he'
    · have hb' : b < s.heap.objs.size := by
        have e' : b = e ∨ b = it := by simpa using hb
        rcases e' with z | z
        · rw [z]; exact hel
        · rw [z]; exact hil
      rw [upd_ne (Nat.ne_of_lt hb')]
      exact (hf b hb).1
  done := by
    intro X hP hw hK hc i pins s σ H E I hf st hg
    subst hP hw hK
    obtain ⟨⟨old, he⟩, hit, hne⟩ := st
    obtain ⟨xs, hq, hx⟩ := hg
    obtain ⟨its, rv, p, hz⟩ := I.tuple hq
    obtain ⟨f0, f1, f2, f3, f4, f5⟩ := hf it (by simp)
    have hl := rv.length
    have hn : its.toArray[i]? = none := by simp; omega
    refine wpAny_pyNext_enum_endD (Draws.tupEnd (A := X.A.in1) (show X.A.in1.handled = none from I.ok.hd hc) it a ha its.toArray i hn) he ⟨rfl, hit, (show s.heap.IsTuple a its.toArray from p)⟩ fun h' eb => ?_
    exact ⟨rfl, I.turned (t' := s.toks) (fun b o hb q => eb b o hb q) f0 f1 f3 f4 f5⟩
  self := fun A i s Q E st h => let ⟨⟨_, he⟩, _⟩ := st; wpAny_pyIter_enum he h
def iEnumA (K : PySem.W.Frag) (ta : TA) : TI := fun σ H R => ta σ H fun vs H1 => ∃ a, vs = [.ref a] ∧ (((∃ xs, SqL K H1 a xs) ∧ R (Ite K a) H1) ∨ ((∃ xs, SqT K H1 a xs) ∧ R (IteT K a) H1))
theorem pi_enumA {X : Cx} {e : Expr} {ta : TA} {p pos tpos : Pos} {elts : List Expr} {kk : Nat} (hg : Gl X "enumerate") (hm : X.mg "enumerate" = none) (ha : PA X [e] ta) (hs : starEach [e] X.env = [(false, eval e X.env)] := by rfl) :
    PI X (.Tuple elts kk tpos) (.Call (.Name "enumerate" p) [e] [] pos) (iEnumA X.K ta) := by
  refine ⟨fun pins s σ H R I h => ?_⟩
  refine Call_ (ld_blt I hg hm boot_enumerate (PyProof.Rows.callWith_type1 (thn (ha.run pos pins s σ H _ I h) fun us s1 ⟨vs, H1, I1, r1, q1⟩ => ?_) hs rfl))
  obtain ⟨a, ex, q⟩ := q1
  subst ex
  cases r1 with
  | cons r rr =>
    cases rr
    cases r
    rcases q with ⟨⟨xs, hq⟩, q⟩ | ⟨⟨xs, hq⟩, q⟩
    · obtain ⟨its, rv, p', hz⟩ := I1.list hq
      refine call_enumerate_list p'.isList fun h' he hit hsz hk => wpAny_pyIter_enum he ?_
      have I2 : Inv X pins σ H1 { s1 with heap := h' } := I1.kept (t' := s1.toks) hk
      refine ⟨s1.heap.objs.size + 1, [s1.heap.objs.size + 1, s1.heap.objs.size], _, _, H1, rfl, I2, turn_enum a (s1.heap.objs.size + 1) s1.heap.objs.size, ⟨⟨.none, he⟩, hit, Nat.succ_ne_self _⟩, fun b hb => ?_, q⟩
      have e' : b = s1.heap.objs.size + 1 ∨ b = s1.heap.objs.size := by simpa using hb
      have hle : s1.heap.objs.size ≤ b := by
        rcases e' with z | z
        · rw [z]; exact Nat.le_add_right _ _
        · rw [z]; exact Nat.le_refl _
      exact I1.fpOk hle (I1.hok.fresh hle)
    · obtain ⟨its, rv, p', hz⟩ := I1.tuple hq
      have pt : s1.heap.IsTuple a its.toArray := p'
      have hal : a < s1.heap.objs.size := by obtain ⟨_, q, _⟩ := pt; exact Heap.lt_size q
      refine call_enumerate_tuple pt fun h' he hit hsz hk => wpAny_pyIter_enum he ?_
      have I2 : Inv X pins σ H1 { s1 with heap := h' } := I1.kept (t' := s1.toks) hk
      refine ⟨s1.heap.objs.size + 1, [s1.heap.objs.size + 1, s1.heap.objs.size], _, _, H1, rfl, I2, turn_enumT a (s1.heap.objs.size + 1) s1.heap.objs.size (Nat.ne_of_lt hal) (Nat.ne_of_lt (Nat.lt_succ_of_lt hal)), ⟨⟨.none, he⟩, hit, Nat.succ_ne_self _⟩, fun b hb => ?_, q⟩
      have e' : b = s1.heap.objs.size + 1 ∨ b = s1.heap.objs.size := by simpa using hb
      have hle : s1.heap.objs.size ≤ b := by
        rcases e' with z | z
        · rw [z]; exact Nat.le_add_right _ _
        · rw [z]; exact Nat.le_refl _
      exact I1.fpOk hle (I1.hok.fresh hle)
def enumD (xs : List PyData) : List PyData := xs.zipIdx.map fun p => .tuple [.int (p.2 : Nat), p.1]
theorem enumD_get {xs : List PyData} {i : Nat} {y : PyData} (h : (enumD xs)[i]? = some y) : ∃ x, xs[i]? = some x ∧ y = .tuple [.int (i : Nat), x] := by
  unfold enumD at h
  rw [List.getElem?_map, List.getElem?_zipIdx] at h
  cases e : xs[i]? with
  | none => rw [e] at h; cases h
  | some x => rw [e] at h; simp at h; exact ⟨x, rfl, h.symm⟩
@[simp] theorem enumD_len {xs : List PyData} : (enumD xs).length = xs.length := by simp [enumD]
section
variable {G : Gx} {β : List Addr} {st : Sto} {H : Hp}
theorem pair_rt {G : Gx} {β : List Addr} {st : Sto} {H : Hp} {T : Addr} {i : Nat} {x : V} {y : PyData} (rl : Rl G β H st) (hT : H T = none) (r : RT G.K (Ban G β st) H x y) :
    RT G.K (Ban G β st) (upd H T (.tup [.int (i : Nat), x])) (.ref T) (.tuple [.int (i : Nat), y]) := by
  have f : Fut G β st H β st (upd H T (.tup [.int (i : Nat), x])) := Fut.new hT
  exact .tup (.inl ⟨.inl upd_same, rl.notBan hT⟩) (.cons (.int _) (.cons (f.rt r) .nil))
theorem ite_r {p : Addr} {own : List (Nat × List PyData)} {xs : List PyData} (s : SrcL G β st H p own xs) : ItR G β st H (Ite G.K p) ⟨enumD xs, own⟩ := fun O1 hO β1 H1 st1 f rl1 hk i => by
  obtain ⟨vs, sq, r⟩ := s O1 hO β1 H1 st1 f rl1 hk
  refine ⟨fun y hy => ?_, fun hi => ⟨vs, sq, by rw [r.len]; simpa using hi⟩⟩
  obtain ⟨y, hy2, rfl⟩ := enumD_get hy
  obtain ⟨w, hw, rw'⟩ := r.get hy2
  refine ⟨⟨vs, w, sq, hw⟩, fun x H' hyl => ?_⟩
  obtain ⟨T, x', rfl, hT, rfl, hx⟩ := hyl
  have e : w = x' := Option.some.inj (hw.symm.trans (hx vs sq))
  subst e
  exact ⟨.inr ⟨T, _, hT, rfl⟩, pair_rt rl1 hT rw'⟩
theorem iteT_r {p : Addr} {xs : List PyData} (s : SrcT G β st H p xs) : ItR G β st H (IteT G.K p) ⟨enumD xs, []⟩ := fun O1 hO β1 H1 st1 f rl1 hk i => by
  obtain ⟨vs, sq, r⟩ := s O1 hO β1 H1 st1 f rl1
  refine ⟨fun y hy => ?_, fun hi => ⟨vs, sq, by rw [r.len]; simpa using hi⟩⟩
  obtain ⟨y, hy2, rfl⟩ := enumD_get hy
  obtain ⟨w, hw, rw'⟩ := r.get hy2
  refine ⟨⟨vs, w, sq, hw⟩, fun x H' hyl => ?_⟩
  obtain ⟨T, x', rfl, hT, rfl, hx⟩ := hyl
  have e : w = x' := Option.some.inj (hw.symm.trans (hx vs sq))
  subst e
  exact ⟨.inr ⟨T, _, hT, rfl⟩, pair_rt rl1 hT rw'⟩
def mEnum (a : MA) : MI := fun l st => (a l st).bind fun us st => match us with
  | [u] => (match srcOf st u with
    | some (xs, own) => .ok ⟨enumD xs, own⟩ st
    | none => .no)
  | _ => .no
theorem i_enumA {ta : TA} {a : MA} (h : SimA G ta a) : SimI G (iEnumA G.K ta) (mEnum a) := fun β H σ l st re R q => by
  refine h β H σ l st re _ (wpR_bind q fun vs us H1 β1 st1 f1 rl1 p1 h1 => ?_)
  split at h1
  · rename_i u
    split at h1
    · rename_i xs own e
      obtain ⟨v, rfl, r⟩ := one_u p1
      obtain ⟨p, rfl, ⟨s, vs, sq, _⟩ | ⟨rfl, s, vs, sq, _⟩⟩ := src_q rl1 r e
      · exact ⟨p, rfl, .inl ⟨⟨vs, sq⟩, h1 _ H1 β1 Fut.refl rl1 (ite_r s)⟩⟩
      · exact ⟨p, rfl, .inr ⟨⟨vs, sq⟩, h1 _ H1 β1 Fut.refl rl1 (iteT_r s)⟩⟩
    · exact h1.elim
  · exact h1.elim
end
theorem qi_enum {X : Cx} {e : Expr} {tA : TA} {mA : MA} {p pos tpos : Pos} {elts : List Expr} {kk : Nat} (hm : X.mg "enumerate" = none) (h : QA X [e] tA mA) (hg : Gl X "enumerate" := by rfl) (hs : starEach [e] X.env = [(false, eval e X.env)] := by rfl) :
    QI X (.Tuple elts kk tpos) (.Call (.Name "enumerate" p) [e] [] pos) (iEnumA X.K tA) (mEnum mA) := ⟨pi_enumA hg hm h.pa hs, fun G hG => hG ▸ i_enumA (h.sim G hG)⟩
section
variable {l : Loc} {st : Sto}
@[simp] theorem to_mEnum {a : MA} {Q : ItD → Sto → Prop} : (mEnum a l st).To Q ↔ (a l st).To fun us s => ∃ u xs own, us = [u] ∧ srcOf s u = some (xs, own) ∧ Q ⟨enumD xs, own⟩ s := by
  unfold mEnum
  rw [to_bind]
  cases a l st with
  | ok us s =>
    simp only [to_ok]
    split
    · rename_i u
      cases e : srcOf s u with
      | none =>
        refine ⟨fun z => z.elim, ?_⟩
        rintro ⟨u', xs, own, e1, e2, _⟩
        cases e1; rw [e] at e2; cases e2
      | some p =>
        refine ⟨fun z => ⟨u, p.1, p.2, rfl, e, z⟩, ?_⟩
        rintro ⟨u', xs, own, e1, e2, z⟩
        cases e1; rw [e] at e2; cases e2; exact z
    · rename_i h
      refine ⟨fun z => z.elim, ?_⟩
      rintro ⟨u, xs, own, e1, _⟩
      exact (h u e1).elim
  | _ => exact Iff.rfl
end
end NW
namespace NW
open PySem PySem.Spec PyProof.Rows L2
section
variable {l : Loc} {st : Sto} {Q : U → Sto → Prop}
theorem fCallP_G {k : Nat} {m : List PyData → Rp} {us : List U} {ds : List PyData} (h : ctrees st us = some ds) (hk : ds.length = k) : (fCallP k m us st).To Q ↔ (m ds).To fun d => (us.any isRef = true → noLst d = true) ∧ Q (.d d) st := by
  unfold fCallP
  rw [h]
  simp only [hk, if_true]
  cases m ds with
  | ok d fr =>
    show (if (!us.any isRef || noLst d) = true then Res.ok (U.d d) st else .no).To Q ↔ _
    rw [to_ite]
    show _ ↔ ((us.any isRef = true → noLst d = true) ∧ Q (U.d d) st)
    cases us.any isRef <;> cases noLst d <;> simp
  | _ => exact Iff.rfl
theorem ctrees_none {us : List U} (h : ctrees st us = none) {k : Nat} {m : List PyData → Rp} : ¬ (fCallP k m us st).To Q := by
  unfold fCallP; rw [h]; exact id
theorem toTree_refN {i : Nat} (h : ∀ xs, st.obs[i]? ≠ some (Ob.lst xs)) : toTree st (.ref i) = none := by
  cases e : toTree st (.ref i) with
  | none => rfl
  | some x => obtain ⟨xs, h1, _⟩ := toTree_ref.mp e; exact absurd h1 (h xs)
@[simp] theorem callP_R {i : Nat} {m : List PyData → Rp} : (fCallP 1 m [.ref i] st).To Q ↔ ∃ xs, st.obs[i]? = some (Ob.lst xs) ∧ (m [.list xs]).To fun d => noLst d = true ∧ Q (.d d) st := by
  by_cases hx : ∃ xs, st.obs[i]? = some (Ob.lst xs)
  · obtain ⟨xs, hx⟩ := hx
    have e : ctrees st [.ref i] = some [.list xs] := by rw [ctrees, toTree_ref.mpr ⟨xs, hx, rfl⟩]; rfl
    refine (fCallP_G e rfl).trans ?_
    simp [hx, isRef]
  · have hx' : ∀ xs, st.obs[i]? ≠ some (Ob.lst xs) := fun xs h => hx ⟨xs, h⟩
    have e : ctrees st [.ref i] = none := by rw [ctrees, toTree_refN hx']
    exact ⟨fun h => (ctrees_none e h).elim, fun ⟨xs, h, _⟩ => (hx' xs h).elim⟩
@[simp] theorem callP_RD {i : Nat} {y : PyData} {m : List PyData → Rp} : (fCallP 2 m [.ref i, .d y] st).To Q ↔ ∃ xs, st.obs[i]? = some (Ob.lst xs) ∧ (m [.list xs, y]).To fun d => noLst d = true ∧ Q (.d d) st := by
  by_cases hx : ∃ xs, st.obs[i]? = some (Ob.lst xs)
  · obtain ⟨xs, hx⟩ := hx
    have e : ctrees st [.ref i, .d y] = some [.list xs, y] := by rw [ctrees, toTree_ref.mpr ⟨xs, hx, rfl⟩]; rfl
    refine (fCallP_G e rfl).trans ?_
    simp [hx, isRef]
  · have hx' : ∀ xs, st.obs[i]? ≠ some (Ob.lst xs) := fun xs h => hx ⟨xs, h⟩
    have e : ctrees st [.ref i, .d y] = none := by rw [ctrees, toTree_refN hx']
    exact ⟨fun h => (ctrees_none e h).elim, fun ⟨xs, h, _⟩ => (hx' xs h).elim⟩
@[simp] theorem callP_DR {i : Nat} {y : PyData} {m : List PyData → Rp} : (fCallP 2 m [.d y, .ref i] st).To Q ↔ ∃ xs, st.obs[i]? = some (Ob.lst xs) ∧ (m [y, .list xs]).To fun d => noLst d = true ∧ Q (.d d) st := by
  by_cases hx : ∃ xs, st.obs[i]? = some (Ob.lst xs)
  · obtain ⟨xs, hx⟩ := hx
    have e : ctrees st [.d y, .ref i] = some [y, .list xs] := by rw [ctrees, ctrees, toTree_ref.mpr ⟨xs, hx, rfl⟩]; rfl
    refine (fCallP_G e rfl).trans ?_
    simp [hx, isRef]
  · have hx' : ∀ xs, st.obs[i]? ≠ some (Ob.lst xs) := fun xs h => hx ⟨xs, h⟩
    have e : ctrees st [.d y, .ref i] = none := by rw [ctrees, ctrees, toTree_refN hx']; rfl
    exact ⟨fun h => (ctrees_none e h).elim, fun ⟨xs, h, _⟩ => (hx' xs h).elim⟩
@[simp] theorem to_max2 {i j : Int} : (cMax2 [.d (.int i), .d (.int j)] st).To Q ↔ Q (.d (.int (if j > i then j else i))) st := Iff.rfl
@[simp] theorem to_min2 {i j : Int} : (cMin2 [.d (.int i), .d (.int j)] st).To Q ↔ Q (.d (.int (if j < i then j else i))) st := Iff.rfl
end
theorem rel_int (i : Int) (t : Tok) : L2.RelV (.int i) (Value.int i t) := ⟨t, rfl⟩
theorem rel_str (x : Str) (t : Tok) : L2.RelV (.str x) (Value.str x t) := ⟨t, rfl⟩
end NW
namespace NW
open PySem PySem.Spec PyProof.Rows L2
def gSeqM (n : Nat) (r : MTs) : MT := fun u l st => match seqOf st u with
  | some xs => if xs.length = n then r xs l st else .no
  | none => .no
section
variable {l : Loc} {st : Sto}
@[simp] theorem to_gSeqT {n : Nat} {r : MTs} {xs : List PyData} {P : Loc → Sto → Prop} : (gSeqM n r (.d (.tuple xs)) l st).To P ↔ xs.length = n ∧ (r xs l st).To P := by
  show (if xs.length = n then r xs l st else .no).To P ↔ _
  rw [to_ite]; split <;> simp [*]
@[simp] theorem to_gSeqL {n : Nat} {r : MTs} {xs : List PyData} {P : Loc → Sto → Prop} : (gSeqM n r (.d (.list xs)) l st).To P ↔ xs.length = n ∧ (r xs l st).To P := by
  show (if xs.length = n then r xs l st else .no).To P ↔ _
  rw [to_ite]; split <;> simp [*]
end
end NW
namespace NW
open PySem PySem.Spec PyProof.Rows L2
section
variable {G : Gx} {β : List Addr} {st : Sto} {H H' : Hp}
end
def fCallO (k : Nat) (m : List PyData → Rp) (us : List U) (st : Sto) : Res U := match ctrees st us with
  | some ds => if ds.length = k then (match m ds with
    | .ok (.list ys) true => if noLsts ys = true then .ok (.ref st.obs.length) (st.add ys) else .no
    | _ => .no) else .no
  | none => .no
def eCallO (k : Nat) (m : List PyData → Rp) (a : MA) : ME := fun l st => (a l st).bind (fCallO k m)
section
variable {G : Gx}
end
section
variable {X : Cx} {e : Expr} {es : List Expr} {pos p : Pos} {tA : TA} {mA : MA}
end
def Rp.ToF (r : Rp) (P : List PyData → Prop) : Prop := match r with
  | .ok (.list ys) true => P ys
  | _ => False
theorem Rp.ToF.to {r : Rp} {P : List PyData → Prop} {Q : PyData → Prop} (h : r.ToF P) (k : ∀ ys, P ys → Q (.list ys)) : r.To Q := by
  unfold Rp.ToF at h
  split at h
  · exact k _ h
  · exact h.elim
theorem Rp.ToF.mono {r : Rp} {P P' : List PyData → Prop} (h : r.ToF P) (k : ∀ ys, P ys → P' ys) : r.ToF P' := by
  unfold Rp.ToF at h ⊢
  split at h
  · exact k _ h
  · exact h.elim
def retO (P : List PyData → Prop) (u : U) (s : Sto) : Prop := match u with
  | .ref i => ∃ xs, s.obs[i]? = some (Ob.lst xs) ∧ P xs
  | _ => False
@[simp] theorem retO_ref {P : List PyData → Prop} {s : Sto} {i : Nat} : retO P (.ref i) s ↔ ∃ xs, s.obs[i]? = some (Ob.lst xs) ∧ P xs := Iff.rfl
section
variable {l : Loc} {st : Sto} {Q : U → Sto → Prop}
@[simp] theorem to_eCallO {k : Nat} {m : List PyData → Rp} {a : MA} : (eCallO k m a l st).To Q ↔ (a l st).To fun us s => (fCallO k m us s).To Q := by unfold eCallO; simp
end
def eTupRev (m : ME) : ME := fun l st => (m l st).bind fun u st => match listOf st u with
  | some xs => .ok (.d (.tuple xs.reverse)) st
  | none => .no
section
variable {l : Loc} {st : Sto} {Q : U → Sto → Prop}
@[simp] theorem to_eTupRev {m : ME} : (eTupRev m l st).To Q ↔ (m l st).To fun u s => ∃ xs, listOf s u = some xs ∧ Q (.d (.tuple xs.reverse)) s := by
  unfold eTupRev
  rw [to_bind]
  refine iff_of_eq (congrArg _ (funext fun u => funext fun s => propext ?_))
  cases listOf s u <;> simp
@[simp] theorem listOf_l {xs ys : List PyData} : listOf st (.d (.list xs)) = some ys ↔ xs = ys := by
  show some xs = some ys ↔ _
  simp
end
end NW
namespace NW
open PySem PySem.Spec PyProof.Rows L2
abbrev More (K K' : PySem.W.Frag) : Prop := ∀ (b : Addr) (o : Obj), K.lookup b = some o → K'.lookup b = some o
theorem lookup_app : ∀ {K L : List (Addr × Obj)} {b : Addr}, (K ++ L).lookup b = match K.lookup b with | some o => some o | none => L.lookup b
  | [], _, _ => rfl
  | (c, o) :: K, L, b => by
    rw [List.cons_append, List.lookup_cons, List.lookup_cons]
    cases b == c with
    | true => rfl
    | false => exact lookup_app
theorem more_app {K L : PySem.W.Frag} : More K (K ++ L) := fun b o e => by
  show List.lookup b (K ++ L) = some o
  rw [lookup_app, e]
theorem mem_lookup : ∀ {L : List (Addr × Obj)} {b : Addr} {o : Obj}, L.lookup b = some o → (b, o) ∈ L
  | [], _, _, e => by cases e
  | (c, u) :: L, b, o, e => by
    rw [List.lookup_cons] at e
    cases q : b == c with
    | true =>
      rw [q] at e
      have : b = c := by simpa using q
      cases e; subst this; simp
    | false =>
      rw [q] at e
      exact List.mem_cons_of_mem _ (mem_lookup e)
theorem lookup_mem : ∀ {L : List (Addr × Obj)} {b : Addr} {o : Obj}, (b, o) ∈ L → ∃ u, L.lookup b = some u
  | [], _, _, e => by cases e
  | (c, u) :: L, b, o, e => by
    rw [List.lookup_cons]
    cases q : b == c with
    | true => exact ⟨u, rfl⟩
    | false =>
      rcases List.mem_cons.mp e with e | e
      · cases e; simp at q
      · exact lookup_mem e
theorem in_app {K L : PySem.W.Frag} {h : Heap} (kx : K.In h) (lx : ∀ p ∈ L, h.get? p.1 = some p.2) : PySem.W.Frag.In (K ++ L) h := fun b o e => by
  have e' : List.lookup b (K ++ L) = some o := e
  rw [lookup_app] at e'
  cases q : List.lookup b K with
  | some u => rw [q] at e'; cases e'; exact kx b _ q
  | none => rw [q] at e'; exact lx _ (mem_lookup e')
theorem app_in {K L : PySem.W.Frag} {h base : Heap} (kx : K.In h) (lx : ∀ p ∈ L, h.get? p.1 = some p.2) (kb : PySem.W.Frag.In (K ++ L) base) {b : Addr} {o : Obj} (m : (b, o) ∈ L) : base.get? b = some o := by
  have key : List.lookup b (K ++ L) = some o := by
    rw [lookup_app]
    have h0 := lx _ m
    cases q : List.lookup b K with
    | some u =>
      have := kx b u q
      rw [h0] at this; cases this; rfl
    | none =>
      obtain ⟨u, hu⟩ := lookup_mem m
      have := lx _ (mem_lookup hu)
      rw [h0] at this; cases this
      exact hu
  exact kb b o key
theorem More.ns {K K' : PySem.W.Frag} (m : More K K') {g : Addr} {x : Str} {r : Option Value} (e : PySem.W.nsIn K g x = some r) : PySem.W.nsIn K' g x = some r := by
  unfold PySem.W.nsIn at e ⊢
  cases q : List.lookup g K with
  | none => rw [q] at e; cases e
  | some o => rw [m g o q]; rw [q] at e; exact e
theorem More.code {K K' : PySem.W.Frag} (m : More K K') {c : Value} {x : Str} (e : PySem.W.codeIn K c x = true) : PySem.W.codeIn K' c x = true := by
  unfold PySem.W.codeIn at e ⊢
  cases c with
  | ref b =>
    cases q : List.lookup b K with
    | none => simp [q] at e
    | some o => simp only [q] at e; simp only [m b o q]; exact e
  | _ => exact e
theorem keep_fn {K : PySem.W.Frag} {f : Addr} {oc : Value} {od : Option Addr} {fd : FuncData} {sl : Array (Option Value)} (e : K.lookup f = some ⟨oc, od, .func fd, sl⟩) : PySem.W.keepIn K (.ref f) = true := by
  unfold PySem.W.keepIn
  simp only [e]
theorem walk2 {l : PySem.W.OpenLaw} {n k : Nat} {q : Program} {loose : List Str} {XP : (Str → Option Value) → Heap → Prop} {YP : World → Heap → Prop} {d : DefRec} {K : Params → PySem.W.Frag} {sp : PySem.W.Frag → Sp} {x : Str}
    (h1 : l.most = some n) (h2 : n ≤ sizeLine) (h3 : d.params.defaults = []) (h4 : Room k callerA) (h5 : importsNone q = true) (h6 : ∀ (w : World) (h : Heap), YP w h → (K w.params).In h)
    (F : ∀ (w : World) (mg : Str → Option Value) (fa : Addr) (h : Heap) (K' : PySem.W.Frag), More (K w.params) K' → K'.In h → h.Ns mainGlobals mg → mg d.name = some (.ref fa) →
      ∃ fd : FuncData, (∀ (s : Shared) (v : Value), BindsTo s fd ⟨[v], []⟩ [(x, v)]) ∧ ∀ base : Heap, K'.In base → base.Ns mainGlobals mg → base.NoSeer → FnOk l.prog w K' mg base CX0 k fa fd [x] (sp K'))
    (h7 : ∀ (K : PySem.W.Frag) (H : Hp) (a : Addr) (ns : List Int), ns.length ≤ n → Only H → SqL K H a (ns.map V.int) → sp K [.ref a] H (fun v _ => v = .bl true) fun _ _ _ => False) :
    PySem.W.WalkO q loose XP YP l.row.toRowW d [] (fun f vs => PySem.call f vs) := by
  refine Att.attach_call h1 h3 fun w sA sB mg mb fa o pm cd doc a vs ns gr yy _ _ _ hmg hobj hints hlen hgen => ?_
  have kx := h6 w _ yy
  have seer := gr.T.seer h5
  obtain ⟨mc, ⟨oc, ec, pc, c1, c1', c1''⟩, c2⟩ := seer.statics
  obtain ⟨mm, ⟨om, em, pm', m1, m1', m1''⟩, m2⟩ := seer.mods
  obtain ⟨mi, ⟨oi, ei, pi, i1, i1', i1''⟩, i2⟩ := seer.imp
  obtain ⟨ma, bm, ob, ⟨oa, ea, pa, a1, a1', a1''⟩, a2, a3, a4, a5⟩ := seer.main
  have lx : ∀ p ∈ [(cStatics, oc), (sysModules, om), (builtinsNs, oi), (mainGlobals, oa), (bm, ob)], sB.heap.get? p.1 = some p.2 := by
    intro p hp
    simp only [List.mem_cons, List.not_mem_nil, or_false] at hp
    rcases hp with rfl | rfl | rfl | rfl | rfl <;> assumption
  obtain ⟨fd, hb, hF⟩ := F w mg fa _ (K w.params ++ [(cStatics, oc), (sysModules, om), (builtinsNs, oi), (mainGlobals, oa), (bm, ob)]) more_app (in_app kx lx) gr.T.g hmg
  refine law_call (in_app kx lx) gr.T.g gr.T.b gr.T.builtins gr.T.nolimit hgen hobj hints (Nat.le_trans hlen h2) h4 (fun base kb nb => hF base kb nb ?_) hb (fun H hO hS => h7 _ H a ns hlen hO hS) (fun _ _ _ z => z)
  refine ⟨⟨mc, ⟨oc, ec, pc, app_in kx lx kb (by simp), c1', c1''⟩, c2⟩, ⟨mm, ⟨om, em, pm', app_in kx lx kb (by simp), m1', m1''⟩, m2⟩, ⟨mi, ⟨oi, ei, pi, app_in kx lx kb (by simp), i1', i1''⟩, i2⟩, ⟨ma, bm, ob, ⟨oa, ea, pa, app_in kx lx kb (by simp), a1', a1''⟩, a2, app_in kx lx kb (by simp), a4, a5⟩⟩
theorem seX {P : Program} {base : Heap} {A : Around} {fr : List Env} {j : Nat} (h : base.NoSeer ∧ P.given.tree = none) (hr : Room j A) (hj : 32 ≤ j) (hf : ∃ (e1 : Env) (rest : List Env), fr = e1 :: rest ∧ e1.scope.isGenerator = false ∧ e1.scope.isCoroutine = false ∧ e1.builtins = builtinsNs ∧ e1.globals = mainGlobals) : SeX P base A fr :=
  ⟨h.1, h.2, by have := hr.dp; show A.depth + 100 < _; omega, hf⟩
end NW
namespace NW
open PySem PySem.Spec PyProof.Rows L2
section
variable {prog : Program} {w : World} {A : Around} {E : Value → Shared → Prop} {s : Shared} {l : Addr} {its : List Value} {ns : List Int} {Q : Value → Shared → Prop}
end
def cSumA : List U → Sto → Res U := fun us st => match us with
  | [u] => (match (seqOf st u).bind intsOf with
    | some ns => .ok (.d (.int ns.sum)) st
    | none => .no)
  | _ => .no
section
variable {X : Cx} {e : Expr} {pos p : Pos} {tA : TA} {mA : MA}
end
section
variable {st : Sto} {Q : U → Sto → Prop}
@[simp] theorem to_sumAL {ns : List Int} : (cSumA [.d (.list (ns.map .int))] st).To Q ↔ Q (.d (.int ns.sum)) st := by
  show (match intsOf (ns.map PyData.int) with | some ns => Res.ok (U.d (.int ns.sum)) st | none => .no).To Q ↔ _
  rw [intsOf_map]
  exact Iff.rfl
@[simp] theorem to_sumAT {ns : List Int} : (cSumA [.d (.tuple (ns.map .int))] st).To Q ↔ Q (.d (.int ns.sum)) st := by
  show (match intsOf (ns.map PyData.int) with | some ns => Res.ok (U.d (.int ns.sum)) st | none => .no).To Q ↔ _
  rw [intsOf_map]
  exact Iff.rfl
theorem to_inT {neg : Bool} {x : PyData} {xs : List PyData} : (fIn neg (.d x) (.d (.tuple xs)) st).To Q ↔ (flatD x = true ∧ ∀ y, y ∈ xs → flatD y = true) ∧ Q (.d (.bool (if neg then !(xs.any fun y => PyData.eqv y x) else xs.any fun y => PyData.eqv y x))) st := by
  show (if (flatD x && xs.all flatD) = true then Res.ok (U.d (.bool (if neg then !(xs.any fun y => PyData.eqv y x) else xs.any fun y => PyData.eqv y x))) st else .no).To Q ↔ _
  rw [to_ite]
  simp only [Bool.and_eq_true, List.all_eq_true]
  split
  · rename_i h; exact ⟨fun z => ⟨h, z⟩, fun z => z.2⟩
  · rename_i h; exact ⟨fun z => z.elim, fun z => h z.1⟩
@[simp] theorem flatD_int {i : Int} : flatD (.int i) = true := rfl
end
theorem qi_r3 {X : Cx} {a b c tg : Expr} {pos p : Pos} {tA : TA} {mA : MA} (hm : X.mg "range" = none) (h : QA X [a, b, c] tA mA) (hg : Gl X "range" := by rfl) (hs : starEach [a, b, c] X.env = (false, eval a X.env) :: starEach [b, c] X.env := by rfl) (hpl : (backTo pos (starEach [b, c] X.env)).any (·.1) = false := by rfl) : QI X tg (.Call (.Name "range" p) [a, b, c] [] pos) (iRng3 tA) (mR3 mA) := ⟨pi_range3 hg hm h.pa hs hpl, fun G hG => i_r3 (h.sim G hG)⟩
end NW
namespace NW
open PySem PySem.Spec PyProof.Rows L2 _root_.RT
section
variable {prog : Program} {w : World} {A : Around} {E : Value → Shared → Prop} {s : Shared}
end
def lRev (m : ME) : ML := fun l st => (m l st).bind fun u st => match listOf st u with
  | some xs => .ok xs.reverse st
  | none => .no
section
variable {l : Loc} {st : Sto} {P : List PyData → Sto → Prop}
@[simp] theorem to_lRev {m : ME} : (lRev m l st).To P ↔ (m l st).To fun u s => ∃ xs, listOf s u = some xs ∧ P xs.reverse s := by
  unfold lRev
  rw [to_bind]
  refine iff_of_eq (congrArg _ (funext fun u => funext fun s => propext ?_))
  cases listOf s u <;> simp
end
end NW
namespace NW
open PySem PySem.Spec PyProof.Rows L2
section
variable {G : Gx}
open PySem.W (dataLe AllAlike Sortable EachIs)
def sortOk (ds : List PyData) : Bool := (ds.all fun d => ds.all fun e => PySem.W.alike d e) && ((ds.all fun d => match d with | .tuple (_ :: _) => true | _ => false) || (ds.all fun d => match d with | .none => false | .tuple _ => false | _ => true)) && ds.all fun d => decide (d.depth ≤ 60)
noncomputable def cSortD : List U → Sto → Res (List PyData) := fun us st => match us with
  | [u] => (match listOf st u with
    | some xs => if sortOk xs = true then .ok (xs.mergeSort (dataLe false id)) st else .no
    | none => .no)
  | _ => .no
end
section
variable {X : Cx} {e o : Expr} {pos p : Pos} {tA : TA} {mA : MA} {to : TE} {mo : ME}
end
theorem Res.noEx_b {α γ : Type} {r : Res α} {k : α → Sto → Res γ} (h : r.noEx) (h2 : ∀ a s, (k a s).noEx) : (r.bind k).noEx := by
  cases r with
  | ok a s => exact h2 a s
  | ex e s => exact h.elim
  | no => trivial
def ME.nx (m : ME) : Prop := ∀ l st, (m l st).noEx
theorem var_nx (i : Nat) : (eVar i).nx := fun l st => by unfold eVar; split <;> trivial
theorem gSub_noEx {o i : ME} (ho : o.nx) (hi : i.nx) (u : U) (l : Loc) (st : Sto) : (gSubM o i u l st).noEx := by
  unfold gSubM
  refine Res.noEx_b (ho l st) fun x s => Res.noEx_b (hi l s) fun y s => ?_
  repeat' split
  all_goals trivial
section
variable {st : Sto} {Q : U → Sto → Prop}
@[simp] theorem to_cSortD {u : U} {P : List PyData → Sto → Prop} : (cSortD [u] st).To P ↔ ∃ xs, listOf st u = some xs ∧ sortOk xs = true ∧ P (xs.mergeSort (PySem.W.dataLe false id)) st := by
  show (match listOf st u with | some xs => if sortOk xs = true then Res.ok (xs.mergeSort (PySem.W.dataLe false id)) st else .no | none => .no).To P ↔ _
  cases e : listOf st u with
  | none => simp
  | some xs => by_cases h : sortOk xs = true <;> simp [h]
end
end NW
namespace NW
open PySem PySem.Spec PyProof.Rows L2
section
variable {X : Cx} {a b : Expr} {ta tb : TE} {ma mb : ME} {pos : Pos}
end
section
variable {st : Sto} {Q : U → Sto → Prop}
end
end NW
namespace NW
open PySem PySem.Spec PyProof.Rows L2
def fIsB (neg : Bool) : U → U → Sto → Res U := fun a b st => match a, b with
  | .d (.bool x), .d (.bool y) => .ok (.d (.bool (if neg then !decide (x = y) else decide (x = y)))) st
  | _, _ => .no
section
variable {X : Cx} {a b : Expr} {ta tb : TE} {ma mb : ME} {pos : Pos}
end
@[simp] theorem to_isB {st : Sto} {Q : U → Sto → Prop} {x y neg : Bool} : (fIsB neg (.d (.bool x)) (.d (.bool y)) st).To Q ↔ Q (.d (.bool (if neg then !decide (x = y) else decide (x = y)))) st := Iff.rfl
end NW
namespace NW
open PySem PySem.Spec PyProof.Rows L2
def keyD : PyData → Option Key
  | .int k => some (.inl k)
  | .str k => some (.inr k)
  | _ => none
def lookI (es : List (Key × PyData)) (k : Key) : Option PyData := (es.find? fun e => decide (e.1 = k)).map (·.2)
def kD : Key → PyData
  | .inl k => .int k
  | .inr k => .str k
@[simp] theorem keyD_int {k : Int} : keyD (.int k) = some (.inl k) := rfl
@[simp] theorem keyD_str {k : Str} : keyD (.str k) = some (.inr k) := rfl
@[simp] theorem kD_int {k : Int} : kD (.inl k) = .int k := rfl
@[simp] theorem kD_str {k : Str} : kD (.inr k) = .str k := rfl
def fDGet : U → U → Sto → Res U := fun a b st => match a, b with
  | .dct es, .d z => (match (keyD z).bind (lookI es) with
    | some d => .ok (.d d) st
    | none => .no)
  | _, _ => .no
section
variable {X : Cx} {a b e : Expr} {ta tb : TE} {ma mb : ME} {pos p : Pos} {tA : TA} {mA : MA}
end
section
variable {st : Sto} {Q : U → Sto → Prop}
theorem to_dgetK {es : List (Key × PyData)} {z : PyData} {k : Key} (e : keyD z = some k) : (fDGet (.dct es) (.d z) st).To Q ↔ ∃ d, lookI es k = some d ∧ Q (.d d) st := by
  show (match (keyD z).bind (lookI es) with
    | some d => Res.ok (U.d d) st
    | none => .no).To Q ↔ _
  rw [e, Option.bind_some]
  cases lookI es k <;> simp
@[simp] theorem to_dget {es : List (Key × PyData)} {k : Int} : (fDGet (.dct es) (.d (.int k)) st).To Q ↔ ∃ d, lookI es (.inl k) = some d ∧ Q (.d d) st := to_dgetK rfl
@[simp] theorem to_dgetS {es : List (Key × PyData)} {k : Str} : (fDGet (.dct es) (.d (.str k)) st).To Q ↔ ∃ d, lookI es (.inr k) = some d ∧ Q (.d d) st := to_dgetK rfl
end
end NW
namespace NW
open PySem PySem.Spec PyProof.Rows L2
def SqK (K : PySem.W.Frag) (b : Bool) (H : Hp) (a : Addr) (xs : List V) : Prop := match b with | true => SqL K H a xs | false => SqT K H a xs
def ItK (b : Bool) (h : Heap) (it l : Addr) (i : Nat) : Prop := match b with | true => h.IsListIter it l i | false => h.IsTupleIter it l i
def itObj (b : Bool) (l : Addr) : Obj := match b with | true => { cls := .type "list_iterator", data := .fields #[.ref l, .int 0 0] } | false => { cls := .type "tuple_iterator", data := .fields #[.ref l, .int 0 0] }
theorem ItK.at {b : Bool} {h h' : Heap} {it l : Addr} {i : Nat} (x : ItK b h it l i) (k : ∀ o, h.get? it = some o → h'.get? it = some o) : ItK b h' it l i := by
  cases b
  · exact Heap.IsTupleIter.at (show h.IsTupleIter it l i from x) k
  · exact Heap.IsListIter.at (show h.IsListIter it l i from x) k
theorem ItK.obj {b : Bool} {h : Heap} {it l : Addr} {i : Nat} (x : ItK b h it l i) : ∃ o vs, h.get? it = some o ∧ o.data = .fields vs := by
  cases b
  · obtain ⟨o, e, _, d⟩ := x; exact ⟨o, _, e, d⟩
  · obtain ⟨o, e, _, d⟩ := x; exact ⟨o, _, e, d⟩
theorem ItK.first {b : Bool} {h : Heap} {it l : Addr} (e : h.get? it = some (itObj b l)) : ItK b h it l 0 := by
  cases b
  · exact ⟨_, e, rfl, rfl⟩
  · exact ⟨_, e, rfl, rfl⟩
def zipD (xs ys : List PyData) : List PyData := (xs.zip ys).map fun p => .tuple [p.1, p.2]
@[simp] theorem zipD_len {xs ys : List PyData} : (zipD xs ys).length = min xs.length ys.length := by simp [zipD]
section
variable {G : Gx} {β : List Addr} {st : Sto} {H : Hp}
def SrcK (G : Gx) (β : List Addr) (st : Sto) (H : Hp) (b : Bool) (p : Addr) (own : List (Nat × List PyData)) (xs : List PyData) : Prop := match b with
  | true => SrcL G β st H p own xs
  | false => own = [] ∧ SrcT G β st H p xs
theorem SrcK.go {b : Bool} {p : Addr} {own : List (Nat × List PyData)} {xs : List PyData} (s : SrcK G β st H b p own xs) {O1 : Addr → Prop} (hO : ∀ p, O1 p → G.O0 p ∨ H p = none) {β1 : List Addr} {H1 : Hp} {st1 : Sto} (f : Fut G β st H β1 st1 H1) (rl : Rl (G.o O1) β1 H1 st1)
    (hk : ∀ q ∈ own, st1.obs[q.1]? = some (Ob.lst q.2)) : ∃ vs, SqK G.K b H1 p vs ∧ RTs G.K (Ban (G.o O1) β1 st1) H1 vs xs := by
  cases b
  · exact s.2 O1 hO β1 H1 st1 f rl
  · exact (show SrcL G β st H p own xs from s) O1 hO β1 H1 st1 f rl hk
def mZip (a : MA) : MI := fun l st => (a l st).bind fun us st => match us with
  | [u, v] => (match srcOf st u, srcOf st v with
    | some (xs, own), some (ys, own2) => .ok ⟨zipD xs ys, own ++ own2⟩ st
    | _, _ => .no)
  | _ => .no
end
section
variable {l : Loc} {st : Sto}
@[simp] theorem to_mZip {a : MA} {Q : ItD → Sto → Prop} : (mZip a l st).To Q ↔ (a l st).To fun us s => ∃ u v xs own ys own2, us = [u, v] ∧ srcOf s u = some (xs, own) ∧ srcOf s v = some (ys, own2) ∧ Q ⟨zipD xs ys, own ++ own2⟩ s := by
  unfold mZip
  rw [to_bind]
  cases a l st with
  | ok us s =>
    simp only [to_ok]
    constructor
    · intro h
      split at h
      · rename_i u v
        split at h
        · rename_i xs own ys own2 e e2
          exact ⟨u, v, xs, own, ys, own2, rfl, e, e2, h⟩
        · exact h.elim
      · exact h.elim
    · rintro ⟨u, v, xs, own, ys, own2, rfl, e, e2, z⟩
      simp only [e, e2]
      exact z
  | _ => exact Iff.rfl
end
def fShl : U → U → Sto → Res U := oI (fun i j => decide (0 ≤ j ∧ j ≤ 1000000 ∧ i.natAbs < 2 ^ 64)) fun i j => .int (i * 2 ^ j.toNat)
@[simp] theorem to_shlI {i j : Int} {st : Sto} {Q : U → Sto → Prop} : (fShl (.d (.int i)) (.d (.int j)) st).To Q ↔ (0 ≤ j ∧ j ≤ 1000000 ∧ i.natAbs < 2 ^ 64) ∧ Q (.d (.int (i * 2 ^ j.toNat))) st := by unfold fShl oI; simp
end NW
namespace PySem.W
open PySem PySem.Calls PyProof.Rows
section
variable {prog : Program} {w : World} {A : Around} {E : Value → Shared → Prop} {s : Shared} {a kS : Addr} {vs : List Value} {e1 : Nat} {P : PySem.Fin → Shared → Prop} {kz : List PyData}
theorem freed_at (h : Heap) (k : Addr) : ∃ g : Heap, g.get? k = none ∧ Heap.SameBut k h g := by
  refine ⟨h.update k fun o => { o with data := .freed }, ?_, Heap.SameBut.update ..⟩
  cases h with
  | mk objs l =>
    show (match (objs.modify k fun o => { o with data := .freed })[k]? with | some ⟨_, _, .freed, _⟩ => none | o => o) = none
    rw [Array.getElem?_modify]
    simp only [if_true]
    cases objs[k]? <;> rfl
theorem keyJ_rest {f : Value} (J : Nat → Shared → List Value → Prop) (nk : s.heap.get? kS = some (seqObj "list" #[] 0)) (na : s.heap.get? a = some (seqObj "list" #[] e1)) (hka : kS ≠ a)
    (hlen : kz.length = vs.length) (hZ : vs.length ≤ sizeLine) (hal : AllAlike kz) (hsk : Sortable kz) (hu : ∀ d, d ∈ kz → A.units + d.depth < cLine) (j0 : J 0 s [])
    (turn : ∀ (i : Nat) (v : Value) (s1 : Shared) (kA : Array Value) (e : Nat), vs[i]? = some v → J i s1 kA.toList → s1.heap.get? kS = some (seqObj "list" kA e) → s1.heap.get? a = some (seqObj "list" #[] e1) →
      wpAny (model prog w) A (call f [v]) (fun u s2 => s2.heap.get? kS = some (seqObj "list" kA e) ∧ s2.heap.get? a = some (seqObj "list" #[] e1) ∧ ∀ h3, Heap.SameBut kS s2.heap h3 → J (i + 1) { s2 with heap := h3 } (kA.toList ++ [u])) (fun _ _ => False) s1)
    (fin : ∀ (s1 : Shared) (ks : List Value), J vs.length s1 ks → EachIs (fun v k => ∃ as, Reads s1.heap v k as) ks kz)
    (h : ∀ (s1 : Shared) (ks : List Value) (h' : Heap) (tk : Nat) (out : List Value) (c : Nat), J vs.length s1 ks → (∀ b o, b ≠ a → b ≠ kS → s1.heap.get? b = some o → h'.get? b = some o) → h'.get? a = some (seqObj "list" out.toArray c) → KeyedOut false kz vs out → P (.done (.ret .none)) { s1 with heap := h', toks := tk }) :
    wpAny (model prog w) A (ksk_rest a f false vs.toArray e1 (.ref kS)) P E s := by
  unfold ksk_rest
  refine wpAny_bind (wpAny_rule ?_)
  first
    | rw [List.forIn_toArray]
    | (rw [← Array.forIn_toList]; simp only [List.toList_toArray])
    | rw [← Array.forIn_toList]
  refine wpAny_bind (ksk_fold (fun i s' => ∃ kA e, s'.heap.get? kS = some (seqObj "list" kA e) ∧ s'.heap.get? a = some (seqObj "list" #[] e1) ∧ kA.size = i ∧ J i s' kA.toList) vs 0 s
    ⟨#[], 0, nk, na, rfl, j0⟩ ?step ?done)
  case step =>
    rintro j x s' hx ⟨kA, e, nk', na', hsz, hJ⟩
    simp only [Nat.zero_add] at hJ hsz ⊢
    have hj : j < vs.length := (List.getElem?_eq_some_iff.mp hx).1
    have hz : kA.size ≤ vs.length := by omega
    refine wpAny_bind (wpAny_attempt (wpAny_mono (turn j x s' kA e hx hJ nk' na') (fun v s'' he => ?_) fun _ _ hF => hF.elim))
    obtain ⟨nk2, na2, hn⟩ := he
    try dsimp only
    have s1 := Heap.SameBut.update s''.heap kS (Obj.mapSeq (·.push v))
    obtain ⟨c2, hc2⟩ : ∃ c2, (s''.heap.update kS (Obj.mapSeq (·.push v))).get? kS = some (seqObj "list" (kA.push v) c2) := ⟨_, get?_update_seq nk2 (·.push v)⟩
    refine wpAny_bind (listUpdate_at nk2 rfl ?_ (Nat.le_trans hz hZ) (Nat.le_trans (Nat.le_of_eq (Array.size_push ..)) (Nat.succ_le_succ (Nat.le_trans hz hZ))))
    have ea : (kA.push v).toList = kA.toList ++ [v] := by simp
    refine wpAny_pure ⟨rfl, kA.push v, c2, hc2, (s1.2 a hka.symm).trans na2, by rw [Array.size_push]; omega, ?_⟩
    rw [ea]
    exact hn _ s1
  case done =>
    rintro s' ⟨kA, e, nk', na', hsz, hJ⟩
    rw [Nat.zero_add] at hsz hJ
    have hk' := fin s' kA.toList hJ
    try dsimp only
    refine wpAny_bind (listItems_at nk' rfl ?_)
    obtain ⟨h₁, hn, sb⟩ := freed_at s'.heap kS
    have kp : KeepsBut a h₁ s'.heap := fun b o hb q => by
      by_cases hbk : b = kS
      · rw [hbk, hn] at q; cases q
      · exact (sb.2 b hbk).symm.trans q
    exact keyH_end (κ := dataKind s'.heap kz) (h₁ := h₁) kp hn nk' na' hka (SortsAt.data (s := s') hk' hal hsk hu) hsz hZ fun h3 tk3 c k3 n3 =>
      h s' kA.toList h3 tk3 _ c hJ (fun b o hb hbk q => k3 b o hb ((sb.2 b hbk).trans q)) n3 ⟨s'.heap, kA.toList, hal, rfl, hk'⟩
theorem sorted_J {l f : Addr} {Q : Value → Shared → Prop} (J : Addr → Nat → Shared → List Value → Prop) (hl : s.heap.IsList l vs.toArray)
    (hlen : kz.length = vs.length) (hZ : vs.length ≤ sizeLine) (hal : AllAlike kz) (hsk : Sortable kz) (hu : ∀ d, d ∈ kz → A.units + 2 + d.depth < cLine)
    (j0 : ∀ (kS : Addr) (h : Heap), s.heap.objs.size ≤ kS → (∀ b o, s.heap.get? b = some o → h.get? b = some o) → J kS 0 { s with heap := h } [])
    (turn : ∀ (kS : Addr) (e1 i : Nat) (v : Value) (s1 : Shared) (kA : Array Value) (e : Nat), kS ≠ s.heap.objs.size + 1 → vs[i]? = some v → J kS i s1 kA.toList → s1.heap.get? kS = some (seqObj "list" kA e) → s1.heap.get? (s.heap.objs.size + 1) = some (seqObj "list" #[] e1) →
      wpAny (model prog w) A.in1.in1 (call (.ref f) [v]) (fun u s2 => s2.heap.get? kS = some (seqObj "list" kA e) ∧ s2.heap.get? (s.heap.objs.size + 1) = some (seqObj "list" #[] e1) ∧ ∀ h3, Heap.SameBut kS s2.heap h3 → J kS (i + 1) { s2 with heap := h3 } (kA.toList ++ [u])) (fun _ _ => False) s1)
    (fin : ∀ (kS : Addr) (s1 : Shared) (ks : List Value), J kS vs.length s1 ks → EachIs (fun v k => ∃ as, Reads s1.heap v k as) ks kz)
    (h : ∀ (kS : Addr) (s1 : Shared) (ks : List Value) (h' : Heap) (tk : Nat) (out : List Value) (c : Nat), kS ≠ s.heap.objs.size + 1 → J kS vs.length s1 ks → (∀ b o, b ≠ s.heap.objs.size + 1 → b ≠ kS → s1.heap.get? b = some o → h'.get? b = some o) → h'.get? (s.heap.objs.size + 1) = some (seqObj "list" out.toArray c) → KeyedOut false kz vs out →
      Q (.ref (s.heap.objs.size + 1)) { s1 with heap := h', toks := tk }) :
    wpAny (model prog w) A (call (.builtin "sorted") [.ref l] [(Str.ofString "key", .ref f)]) Q E s := by
  refine sorted_of_sort hl hZ (ksk_s1 _ _) (fun _ => ksk_l1 _ _) fun E' => ?_
  rw [ksk_t1]
  have ho := copyHeap_at s.heap vs
  have ha : s.heap.objs.size + 1 < (copyHeap s.heap vs).objs.size := Heap.lt_size ho
  obtain ⟨e1, ho1⟩ : ∃ e1, ((copyHeap s.heap vs).update (s.heap.objs.size + 1) (Obj.mapSeq fun _ => (#[] : Array Value))).get? (s.heap.objs.size + 1) = some (seqObj "list" #[] e1) := ⟨_, get?_update_seq ho fun _ => #[]⟩
  have hkS : (((copyHeap s.heap vs).update (s.heap.objs.size + 1) (Obj.mapSeq fun _ => (#[] : Array Value))).push (seqObj "tuple" vs.toArray 0)).objs.size = (copyHeap s.heap vs).objs.size + 1 := by rw [size_push', Heap.size_update]
  unfold ksk_tree
  refine wpAny_bind (listItems_at ho rfl ?_)
  refine wpAny_bind (listUpdate_at ho rfl ?_ (by rw [List.size_toArray]; exact hZ) (Nat.zero_le _))
  refine wpAny_bind (seqEpoch_at ho1 rfl ?_)
  refine wpAny_bind (wpAny_newTuple ?_ (by show vs.length ≤ _; exact hZ))
  refine wpAny_bind (wpAny_newList ?_ (Nat.zero_le _))
  refine wpAny_holding ?_
  have up : ∀ b o, s.heap.get? b = some o → (sortingHeap (copyHeap s.heap vs) (s.heap.objs.size + 1) vs).get? b = some o := fun b o q =>
    sortingHeap_old (Nat.ne_of_lt (Nat.lt_succ_of_lt (Heap.lt_size q))) (copyHeap_old q)
  have hge : s.heap.objs.size ≤ (((copyHeap s.heap vs).update (s.heap.objs.size + 1) (Obj.mapSeq fun _ => (#[] : Array Value))).push (seqObj "tuple" vs.toArray 0)).objs.size := by rw [hkS]; omega
  have hne : (((copyHeap s.heap vs).update (s.heap.objs.size + 1) (Obj.mapSeq fun _ => (#[] : Array Value))).push (seqObj "tuple" vs.toArray 0)).objs.size ≠ s.heap.objs.size + 1 := by rw [hkS]; exact Nat.ne_of_gt (Nat.lt_succ_of_lt ha)
  exact keyJ_rest (A := A.in1.in1) (kz := kz) (s := { s with heap := (((copyHeap s.heap vs).update (s.heap.objs.size + 1) (Obj.mapSeq fun _ => (#[] : Array Value))).push (seqObj "tuple" vs.toArray 0)).push (seqObj "list" #[] 0) })
    (kS := (((copyHeap s.heap vs).update (s.heap.objs.size + 1) (Obj.mapSeq fun _ => (#[] : Array Value))).push (seqObj "tuple" vs.toArray 0)).objs.size) (J _)
    (Heap.get?_push_size _ rfl) (Heap.get?_push_of_some _ (Heap.get?_push_of_some _ ho1)) hne hlen hZ hal hsk hu (j0 _ _ hge up)
    (fun i v s1 kA e => turn _ e1 i v s1 kA e hne) (fun s1 ks => fin _ s1 ks) fun s1 ks h' tk out c hJ k2 n2 ko => ⟨rfl, h _ s1 ks h' tk out c hne hJ k2 n2 ko⟩
end
end PySem.W
namespace NW
open PySem PySem.Spec PyProof.Rows L2
open PySem.W (dataLe AllAlike Sortable EachIs sorted_J keyedOut_each)
def keysOf (m : List PyData → Rp) : List PyData → Option (List PyData)
  | [] => some []
  | x :: xs => match m [x], keysOf m xs with
    | .ok k _, some ks => some (k :: ks)
    | _, _ => none
theorem Vals.snoc {xs : List V} {us : List Value} {x : V} {u : Value} (h : Vals xs us) (r : RelV x u) : Vals (xs ++ [x]) (us ++ [u]) := h.append (.cons r .nil)
theorem RTs.snoc {K : PySem.W.Frag} {B : Addr → Prop} {H : Hp} {v : V} {d : PyData} : ∀ {ds : List PyData} {vs : List V}, RTs K B H vs ds → RT K B H v d → RTs K B H (vs ++ [v]) (ds ++ [d])
  | [], _, h, r => by cases h; exact .cons r .nil
  | x :: xs, _, h, r => by cases h with | cons h1 h2 => exact .cons h1 (RTs.snoc h2 r)
noncomputable def cSortK (m : List PyData → Rp) : List U → Sto → Res (List PyData) := fun us st => match us with
  | [u] => (match listOf st u with
    | some xs => (match keysOf m xs with
      | some ks => if sortOk ks = true then .ok (((xs.zip ks).mergeSort (dataLe false (·.2))).map (·.1)) st else .no
      | none => .no)
    | none => .no)
  | _ => .no
noncomputable def lSortK (m : List PyData → Rp) (a : MA) : ML := fun l st => (a l st).bind (cSortK m)
section
variable {l : Loc} {st : Sto}
@[simp] theorem to_lSortK {m : List PyData → Rp} {a : MA} {Q : List PyData → Sto → Prop} : (lSortK m a l st).To Q ↔ (a l st).To fun us s => ∃ u xs ks, us = [u] ∧ listOf s u = some xs ∧ keysOf m xs = some ks ∧ sortOk ks = true ∧ Q (((xs.zip ks).mergeSort (dataLe false (·.2))).map (·.1)) s := by
  unfold lSortK
  rw [to_bind]
  cases a l st with
  | ok us s =>
    simp only [to_ok]
    unfold cSortK
    constructor
    · intro h
      split at h
      · rename_i u
        split at h
        · rename_i xs e
          split at h
          · rename_i ks e2
            split at h
            · rename_i ok
              exact ⟨u, xs, ks, rfl, e, e2, ok, h⟩
            · exact h.elim
          · exact h.elim
        · exact h.elim
      · exact h.elim
    · rintro ⟨u, xs, ks, rfl, e, e2, ok, z⟩
      simp only [e, e2, ok, if_true]
      exact z
  | _ => exact Iff.rfl
end
end NW
namespace NW
open PySem PySem.Spec PyProof.Rows L2
section
variable {X : Cx} {o e : Expr} {to : TE} {mo : ME} {tA : TA} {mA : MA} {pos : Pos}
end
section
variable {st : Sto} {Q : U → Sto → Prop}
end
end NW
namespace NW
open PySem PySem.Spec PyProof.Rows L2
section
variable {G : Gx}
def eNewD : ME := fun _ st => .ok (.ref st.obs.length) (st.addO (.dct []))
def sDPutM (o i v : ME) : MS := fun l st => (v l st).out l fun uv st => (o l st).out l fun uo st => (i l st).out l fun ui st => match uv, uo, ui with
  | .d x, .ref k, .d z => (match keyD z, st.obs[k]? with
    | some n, some (.dct es) => if (es.all fun e => !decide (e.1 = n)) = true ∧ es.length ≤ 1000 then .nx l (st.putO k (.dct (es ++ [(n, x)]))) else .no
    | _, _ => .no)
  | _, _, _ => .no
end
section
variable {X : Cx} {o i e value : Expr} {to ti tv : TE} {mo mi mv : ME} {pos pos' : Pos}
end
inductive Rdc where
  | ok (es : List (Key × PyData)) | no
section
variable {P : Program} {w : World} {K : PySem.W.Frag} {mg : Str → Option Value} {base : Heap}
end
section
variable {K : PySem.W.Frag} {B : Addr → Prop} {H : Hp} {p : Addr} {kvs : List (Key × V)} {od : Obj}
theorem rd_lock {a : Addr} {xs : List V} (hp : H p = some (.dK kvs)) (h : Rd H a (.tup xs)) : Rd (upd H p (.frz od (.dK kvs))) a (.tup xs) := by
  have ne : a ≠ p := fun e => by
    subst e
    rcases h with h | ⟨o, h⟩ <;> · rw [hp] at h; cases h
  unfold Rd
  rw [upd_ne ne]
  exact h
mutual
theorem RT.lock (hp : H p = some (.dK kvs)) : ∀ (d : PyData) (v : V), RT K B H v d → RT K B (upd H p (.frz od (.dK kvs))) v d
  | .none, _, h => by cases h; exact .non
  | .bool b, _, h => by cases h; exact .bl b
  | .int i, _, h => by cases h; exact .int i
  | .str x, _, h => by cases h; exact .str x
  | .list ds, _, h => by
    cases h with
    | lst hs ha =>
      refine .lst ⟨?_, hs.2⟩ (RTs.lock hp ds _ ha)
      rw [upd_ne (fun e => by subst e; rw [hs.1] at hp; cases hp)]
      exact hs.1
  | .tuple ds, _, h => by
    cases h with
    | tup hs ha => exact .tup (hs.imp (fun z => ⟨rd_lock hp z.1, z.2⟩) id) (RTs.lock hp ds _ ha)
  | .dict _, _, h => by cases h
theorem RTs.lock (hp : H p = some (.dK kvs)) : ∀ (ds : List PyData) (vs : List V), RTs K B H vs ds → RTs K B (upd H p (.frz od (.dK kvs))) vs ds
  | [], _, h => by cases h; exact .nil
  | d :: ds, _, h => by
    cases h with
    | cons h1 h2 => exact .cons (RT.lock hp d _ h1) (RTs.lock hp ds _ h2)
end
end
def fCallDc (k : Nat) (m : List PyData → Rdc) (us : List U) (st : Sto) : Res U := match ctrees st us with
  | some ds => if ds.length = k ∧ us.any isRef = false then (match m ds with
    | .ok es => .ok (.dct es) st
    | .no => .no) else .no
  | none => .no
def eCallDc (k : Nat) (m : List PyData → Rdc) (a : MA) : ME := fun l st => (a l st).bind (fCallDc k m)
section
variable {G : Gx}
def cListDc : List U → Sto → Res (List PyData) := fun us st => match us with
  | [.dct es] => .ok (es.map fun e => kD e.1) st
  | _ => .no
end
section
variable {X : Cx} {e : Expr} {es : List Expr} {pos p : Pos} {tA : TA} {mA : MA}
end
def Rdc.To (r : Rdc) (P : List (Key × PyData) → Prop) : Prop := match r with
  | .ok es => P es
  | .no => False
theorem Rdc.To.mono {r : Rdc} {P Q : List (Key × PyData) → Prop} (h : r.To P) (k : ∀ es, P es → Q es) : r.To Q := by
  cases r with
  | ok es => exact k es h
  | no => exact h
def retDc (P : List (Key × PyData) → Prop) (u : U) (s : Sto) : Prop := match u with
  | .ref i => ∃ es, s.obs[i]? = some (Ob.dct es) ∧ P es
  | _ => False
@[simp] theorem retDc_ref {P : List (Key × PyData) → Prop} {s : Sto} {i : Nat} : retDc P (.ref i) s ↔ ∃ es, s.obs[i]? = some (Ob.dct es) ∧ P es := Iff.rfl
section
variable {st : Sto} {Q : U → Sto → Prop} {N : Loc → Sto → Prop} {R : U → Sto → Prop} {l : Loc}
theorem noRef_d : ∀ ds : List PyData, (ds.map U.d).any isRef = false
  | [] => rfl
  | d :: ds => by rw [List.map_cons, List.any_cons, noRef_d ds]; rfl
theorem fCallDc_d {k : Nat} {m : List PyData → Rdc} {ds : List PyData} (h : ds.length = k) : (fCallDc k m (ds.map U.d) st).To Q ↔ (m ds).To fun es => Q (.dct es) st := by
  unfold fCallDc
  rw [ctrees_d]
  dsimp only
  rw [if_pos ⟨h, noRef_d ds⟩]
  cases m ds with
  | ok es => exact Iff.rfl
  | no => exact Iff.rfl
@[simp] theorem callDc_1 {m : List PyData → Rdc} {x : PyData} : (fCallDc 1 m [.d x] st).To Q ↔ (m [x]).To fun es => Q (.dct es) st := fCallDc_d (ds := [x]) rfl
@[simp] theorem callDc_2 {m : List PyData → Rdc} {x y : PyData} : (fCallDc 2 m [.d x, .d y] st).To Q ↔ (m [x, y]).To fun es => Q (.dct es) st := fCallDc_d (ds := [x, y]) rfl
@[simp] theorem to_eCallDc {k : Nat} {m : List PyData → Rdc} {a : MA} : (eCallDc k m a l st).To Q ↔ (a l st).To fun us s => (fCallDc k m us s).To Q := by unfold eCallDc; simp
@[simp] theorem to_newD : (eNewD l st).To Q ↔ Q (.ref st.obs.length) (st.addO (.dct [])) := Iff.rfl
@[simp] theorem to_listDc {es : List (Key × PyData)} {P : List PyData → Sto → Prop} : (cListDc [.dct es] st).To P ↔ P (es.map fun e => kD e.1) st := Iff.rfl
@[simp] theorem to_sDPut {o i v : ME} : (sDPutM o i v l st).To N R ↔ (v l st).To fun uv st => (o l st).To fun uo st => (i l st).To fun ui st => ∃ (x : PyData) (k : Nat) (z : PyData) (n : Key) (es : List (Key × PyData)), uv = .d x ∧ uo = .ref k ∧ ui = .d z ∧ keyD z = some n ∧ st.obs[k]? = some (.dct es) ∧ ((es.all fun e => !decide (e.1 = n)) = true ∧ es.length ≤ 1000) ∧ N l (st.putO k (.dct (es ++ [(n, x)]))) := by
  unfold sDPutM
  simp only [to_out]
  have key : ∀ (uv uo ui : U) (st : Sto), (match uv, uo, ui with
    | .d x, .ref k, .d z => (match keyD z, st.obs[k]? with
      | some n, some (.dct es) => if (es.all fun e => !decide (e.1 = n)) = true ∧ es.length ≤ 1000 then Out.nx l (st.putO k (.dct (es ++ [(n, x)]))) else .no
      | _, _ => .no)
    | _, _, _ => .no).To N R ↔ ∃ (x : PyData) (k : Nat) (z : PyData) (n : Key) (es : List (Key × PyData)), uv = .d x ∧ uo = .ref k ∧ ui = .d z ∧ keyD z = some n ∧ st.obs[k]? = some (.dct es) ∧ ((es.all fun e => !decide (e.1 = n)) = true ∧ es.length ≤ 1000) ∧ N l (st.putO k (.dct (es ++ [(n, x)]))) := by
    intro uv uo ui st
    constructor
    · intro h
      split at h
      · rename_i x k z
        split at h
        · rename_i n es ek he
          split at h
          · rename_i hc
            exact ⟨x, k, z, n, es, rfl, rfl, rfl, ek, he, hc, h⟩
          · exact h.elim
        · exact h.elim
      · exact h.elim
    · rintro ⟨x, k, z, n, es, rfl, rfl, rfl, ek, he, hc, h⟩
      dsimp only
      rw [ek, he]
      dsimp only
      rw [if_pos hc]
      exact h
  refine ⟨fun h => ?_, fun h => ?_⟩
  · exact h.mono fun uv s h => h.mono fun uo s h => h.mono fun ui s h => (key uv uo ui s).mp h
  · exact h.mono fun uv s h => h.mono fun uo s h => h.mono fun ui s h => (key uv uo ui s).mpr h
end
end NW
namespace NW
open PySem PySem.Spec PyProof.Rows L2
section
variable {G : Gx} {β : List Addr} {H : Hp} {st : Sto}
def mDct (m : ME) : MI := fun l st => (m l st).bind fun u st => match u with
  | .dct es => .ok ⟨es.map fun e => kD e.1, []⟩ st
  | _ => .no
def fEqE : U → U → Sto → Res U := fun a b st => match a, b with
  | .dct es, .ref j => (match st.obs[j]? with
    | some (.dct []) => .ok (.d (.bool es.isEmpty)) st
    | _ => .no)
  | _, _ => .no
end
section
variable {X : Cx} {a b e tg : Expr} {ta tb te : TE} {ma mb me : ME} {pos : Pos}
end
section
variable {st : Sto} {Q : U → Sto → Prop} {l : Loc}
@[simp] theorem to_mDct {m : ME} {R : ItD → Sto → Prop} : (mDct m l st).To R ↔ (m l st).To fun u s => ∃ es, u = .dct es ∧ R ⟨es.map fun e => kD e.1, []⟩ s := by
  unfold mDct
  rw [to_bind]
  refine iff_of_eq (congrArg _ (funext fun u => funext fun s => propext ?_))
  cases u <;> simp
@[simp] theorem to_eqE {es : List (Key × PyData)} {j : Nat} : (fEqE (.dct es) (.ref j) st).To Q ↔ st.obs[j]? = some (.dct []) ∧ Q (.d (.bool es.isEmpty)) st := by
  show (match st.obs[j]? with
    | some (.dct []) => Res.ok (U.d (.bool es.isEmpty)) st
    | _ => .no).To Q ↔ _
  constructor
  · intro h
    split at h
    · rename_i he
      exact ⟨he, h⟩
    · exact h.elim
  · rintro ⟨he, h⟩
    rw [he]
    exact h
end
end NW
namespace NW
open PySem PySem.Spec PyProof.Rows L2
def lZip (a : MA) : ML := fun l st => (a l st).bind fun us st => match us with
  | [u, v] => (match listOf st u, listOf st v with
    | some xs, some ys => .ok (zipD xs ys) st
    | _, _ => .no)
  | _ => .no
section
variable {l : Loc} {st : Sto}
@[simp] theorem to_lZip {a : MA} {P : List PyData → Sto → Prop} : (lZip a l st).To P ↔ (a l st).To fun us s => ∃ u v xs ys, us = [u, v] ∧ listOf s u = some xs ∧ listOf s v = some ys ∧ P (zipD xs ys) s := by
  unfold lZip
  rw [to_bind]
  cases a l st with
  | ok us s =>
    simp only [to_ok]
    constructor
    · intro h
      split at h
      · rename_i u v
        split at h
        · rename_i xs ys e e2
          exact ⟨u, v, xs, ys, rfl, e, e2, h⟩
        · exact h.elim
      · exact h.elim
    · rintro ⟨u, v, xs, ys, rfl, e, e2, z⟩
      simp only [e, e2]
      exact z
  | _ => exact Iff.rfl
end
section
variable {prog : Program} {w : World} {A : Around} {E : Value → Shared → Prop} {s : Shared} {z TI TO i1 i2 l1 l2 d : Addr} {xs ys : Array Value}
structure ZOff (d z TI TO i1 i2 l1 l2 : Addr) : Prop where
  z : z ≠ d
  TI : TI ≠ d
  TO : TO ≠ d
  i1 : i1 ≠ d
  i2 : i2 ≠ d
  l1 : l1 ≠ d
  l2 : l2 ≠ d
end
section
variable {prog : Program} {w : World} {A : Around} {E : Value → Shared → Prop} {s : Shared} {z TI TO i1 i2 l1 l2 d : Addr} {xs ys : Array Value}
end
end NW
namespace NW
open PySem PySem.Spec PyProof.Rows L2 _root_.RT
section
variable {prog : Program} {w : World} {A : Around} {E : Value → Shared → Prop} {s : Shared}
end
def eTupRevT (m : ME) : ME := fun l st => (m l st).bind fun u st => match u with
  | .d (.tuple xs) => if xs.isEmpty = true then .no else .ok (.d (.tuple xs.reverse)) st
  | _ => .no
section
variable {l : Loc} {st : Sto} {Q : U → Sto → Prop}
@[simp] theorem to_eTupRevTV {i : Nat} : (eTupRevT (eVar i) l st).To Q ↔ ∃ xs, l[i]? = some (some (.d (.tuple xs))) ∧ xs ≠ [] ∧ Q (.d (.tuple xs.reverse)) st := by
  have key : (eTupRevT (eVar i) l st).To Q ↔ (eVar i l st).To fun u s => ∃ xs, u = .d (.tuple xs) ∧ xs ≠ [] ∧ Q (.d (.tuple xs.reverse)) s := by
    unfold eTupRevT
    rw [to_bind]
    refine iff_of_eq (congrArg _ (funext fun u => funext fun s => propext ?_))
    cases u with
    | d x =>
      cases x with
      | tuple xs =>
        show (if xs.isEmpty = true then Res.no else Res.ok (U.d (.tuple xs.reverse)) s).To Q ↔ _
        cases xs with
        | nil => simp
        | cons x xs => simp
      | _ => simp
    | _ => simp
  rw [key]
  simp
  constructor
  · rintro ⟨u, h1, xs, rfl, h2, h3⟩
    exact ⟨xs, h1, h2, h3⟩
  · rintro ⟨xs, h1, h2, h3⟩
    exact ⟨_, h1, xs, rfl, h2, h3⟩
end
end NW
namespace NW
open PySem PySem.Spec PyProof.Rows L2
def dctOf (st : Sto) : U → Option (List (Key × PyData))
  | .dct es => some es
  | .ref i => (match st.obs[i]? with
    | some (.dct es) => some es
    | _ => none)
  | _ => none
def fDIn (neg : Bool) : U → U → Sto → Res U := fun a b st => match a, dctOf st b with
  | .d z, some es => (match keyD z with
    | some k => .ok (.d (.bool (if neg then !(es.any fun e => decide (e.1 = k)) else es.any fun e => decide (e.1 = k)))) st
    | none => .no)
  | _, _ => .no
section
variable {X : Cx} {a b : Expr} {ta tb : TE} {ma mb : ME} {pos : Pos}
end
section
variable {G : Gx} {β β' : List Addr} {H H' : Hp} {σ : L2.St} {l : Loc} {st st' : Sto} {i j : Nat} {p : Addr} {es : List (Key × PyData)} {kvs : List (Key × V)} {od : Obj}
mutual
theorem RT.unlock {K : PySem.W.Frag} {B B' : Addr → Prop} (hp : H p = some (.frz od (.dK kvs))) (hB : ∀ a, B' a → B a ∨ a = p) : ∀ (d : PyData) (v : V), RT K B H v d → RT K B' (upd H p (.dK kvs)) v d
  | .none, _, h => by cases h; exact .non
  | .bool b, _, h => by cases h; exact .bl b
  | .int i, _, h => by cases h; exact .int i
  | .str x, _, h => by cases h; exact .str x
  | .list ds, _, h => by
    cases h with
    | lst hs ha =>
      have ne : ∀ {a xs}, H a = some (.lst xs) → a ≠ p := fun h1 e => by rw [e, hp] at h1; cases h1
      refine .lst ⟨by rw [upd_ne (ne hs.1)]; exact hs.1, fun w => (hB _ w).elim hs.2 (ne hs.1)⟩ (RTs.unlock hp hB ds _ ha)
  | .tuple ds, _, h => by
    cases h with
    | tup hs ha =>
      refine .tup (hs.imp (fun z => ?_) id) (RTs.unlock hp hB ds _ ha)
      have ne : ∀ {a xs}, Rd H a (.tup xs) → a ≠ p := fun h1 e => by
        rw [e] at h1
        rcases h1 with h1 | ⟨o, h1⟩ <;> · rw [hp] at h1; cases h1
      refine ⟨?_, fun w => (hB _ w).elim z.2 (ne z.1)⟩
      have := ne z.1
      unfold Rd
      rw [upd_ne this]
      exact z.1
  | .dict _, _, h => by cases h
theorem RTs.unlock {K : PySem.W.Frag} {B B' : Addr → Prop} (hp : H p = some (.frz od (.dK kvs))) (hB : ∀ a, B' a → B a ∨ a = p) : ∀ (ds : List PyData) (vs : List V), RTs K B H vs ds → RTs K B' (upd H p (.dK kvs)) vs ds
  | [], _, h => by cases h; exact .nil
  | d :: ds, _, h => by
    cases h with
    | cons h1 h2 => exact .cons (RT.unlock hp hB d _ h1) (RTs.unlock hp hB ds _ h2)
end
end
def isArg : U → Bool
  | .d _ => true
  | .dct _ => true
  | _ => false
section
variable {P : Program} {w : World} {K : PySem.W.Frag} {mg : Str → Option Value} {base : Heap}
end
def fCallU (k : Nat) (m : List U → Rp) (us : List U) (st : Sto) : Res U := if us.all isArg = true ∧ us.length = k then (match m us with
  | .ok d _ => .ok (.d d) st
  | _ => .no) else .no
def eCallU (k : Nat) (m : List U → Rp) (a : MA) : ME := fun l st => (a l st).bind (fCallU k m)
section
variable {X : Cx} {e : Expr} {es : List Expr} {pos p : Pos} {tA : TA} {mA : MA} {t : TE} {m : ME} {s : Stmt} {ts : TS} {ms : MS}
end
section
variable {G : Gx}
end
section
variable {X : Cx} {o e e2 : Expr} {to : TE} {mo : ME} {tA : TA} {mA : MA} {pos : Pos}
end
section
variable {st : Sto} {Q : U → Sto → Prop} {N : Loc → Sto → Prop} {R : U → Sto → Prop} {l : Loc}
@[simp] theorem to_dinD {neg : Bool} {es : List (Key × PyData)} {k : Int} : (fDIn neg (.d (.int k)) (.dct es) st).To Q ↔ Q (.d (.bool (if neg then !(es.any fun e => decide (e.1 = .inl k)) else es.any fun e => decide (e.1 = .inl k)))) st := Iff.rfl
@[simp] theorem to_dinDS {neg : Bool} {es : List (Key × PyData)} {k : Str} : (fDIn neg (.d (.str k)) (.dct es) st).To Q ↔ Q (.d (.bool (if neg then !(es.any fun e => decide (e.1 = .inr k)) else es.any fun e => decide (e.1 = .inr k)))) st := Iff.rfl
@[simp] theorem to_eCallU {k : Nat} {m : List U → Rp} {a : MA} : (eCallU k m a l st).To Q ↔ (a l st).To fun us s => (fCallU k m us s).To Q := by unfold eCallU; simp
end
end NW
namespace NW
open PySem PySem.Spec PyProof.Rows L2
def repS (x : Str) (n : Int) : Str := if n < 1 then Str.empty else if (n == 1 || x.length == 0) = true then x else ⟨(List.replicate n.toNat x.cps).foldl (· ++ ·) #[]⟩
def repOk (a : Str) (k : Int) : Bool := decide (-(2 ^ 62) ≤ k ∧ k ≤ 1000 ∧ a.length ≤ 1000 ∧ (repS a k).length ≤ sizeLine ∧ Builtin.Str.tooLong (a.length * k.toNat) = false)
def rRepStr : R2 := fun x y H Q => ∃ a k, x = .str a ∧ y = .int k ∧ repOk a k = true ∧ Q (.str (repS a k)) H
theorem op_repStr {X : Cx} : OpR X (binaryOp .Mult) rRepStr := by
  intro pins s σ H x y v u Q I rx ry h
  obtain ⟨a, k, rfl, rfl, hk, q⟩ := h
  obtain ⟨h1, h2, h3, h4, h5⟩ := of_decide_eq_true hk
  obtain ⟨t, rfl⟩ := rx
  obtain ⟨t', rfl⟩ := ry
  refine P.mul_str ?_ (fun h6 _ => ?_) (fun _ _ => h5) ?_
  · rw [decide_eq_false (by omega), decide_eq_false (by omega)]; rfl
  · have : (a.length : Int) ≤ (2 ^ 63 - 1) / k := by
      rw [Int.le_ediv_iff_mul_le (by omega)]
      have h7 : (a.length : Int) * k ≤ 1000 * 1000 := Int.mul_le_mul (by omega) h2 (by omega) (by omega)
      omega
    omega
  · unfold repS at q h4
    by_cases c : k < 1
    · rw [if_pos c] at q h4 ⊢
      exact ⟨h4, .str _, H, I.tok _, ⟨_, rfl⟩, q⟩
    · rw [if_neg c] at q h4 ⊢
      by_cases c2 : (k == 1 || a.length == 0) = true
      · rw [if_pos c2] at q h4 ⊢
        exact ⟨.str _, H, I, ⟨t, rfl⟩, q⟩
      · rw [if_neg c2] at q h4 ⊢
        exact ⟨h4, .str _, H, I.tok _, ⟨_, rfl⟩, q⟩
def rMulS (K : PySem.W.Frag) : R2 := fun x y H Q => rMulA K x y H Q ∨ rRepStr x y H Q
theorem op_mulS {X : Cx} : OpR X (binaryOp .Mult) (rMulS X.K) := op_mulA.or op_repStr
def fMulS : U → U → Sto → Res U := fun a b st => match a, b with
  | .d (.str x), .d (.int k) => if repOk x k = true then .ok (.d (.str (repS x k))) st else .no
  | a, b => fMulA a b st
theorem r_mulS {G : Gx} : SimR G (rMulS G.K) fMulS := fun β H σ l st re x y a b Q hx hy h => by
  unfold fMulS at h
  split at h
  · rename_i z k
    cases ru_str hx; cases ru_int hy
    split at h
    · rename_i q
      exact .inr ⟨z, k, rfl, rfl, q, wpR_d re.rl (.str _) h⟩
    · exact h.elim
  · exact .inl (r_mulA β H σ l st re x y a b Q hx hy h)
def SimTx (G : Gx) (r : V → List V → Hp → VK → Prop) (f : U → U → Sto → Res U) : Prop := ∀ β H σ l st, Re G β H σ l st → ∀ x y a b Q, RU G β (Ban G β st) H x a → RU G β (Ban G β st) H y b → wpR G β H σ st (PU G) (f a b st) Q → (∃ z, x = .str z) ∧ r x [y] H Q
def isStr : U → Bool
  | .d (.str _) => true
  | _ => false
def eMeth1 (f : U → U → Sto → Res U) (o a : ME) : ME := fun l st => (o l st).bind fun u st => if isStr u = true then (a l st).bind fun w st => f u w st else .no
theorem s_meth1 {G : Gx} {r : V → List V → Hp → VK → Prop} {f : U → U → Sto → Res U} {to te : TE} {o a : ME} (hr : SimTx G r f) (ho : SimE G to o) (ha : SimE G te a) : SimE G (tM1 r to te) (eMeth1 f o a) := fun β H σ l st re Q h => by
  refine ho β H σ l st re _ (wpR_bind h fun v u H1 β1 st1 f1 rl1 p1 h1 => ?_)
  split at h1
  · rename_i hu
    have re1 := f1.re rl1 re
    have hs : ∃ z, v = .str z := by
      unfold isStr at hu
      split at hu
      · exact ⟨_, ru_str p1⟩
      · cases hu
    refine ⟨hs, ha β1 H1 σ l st1 re1 _ (wpR_bind h1 fun w u2 H2 β2 st2 f2 rl2 p2 h2 => ?_)⟩
    exact (hr β2 H2 σ l st2 (f2.re rl2 re1) v w u u2 Q (f2.ru p1) p2 h2).2
  · exact h1.elim
def strsOf : List PyData → Option (List Str)
  | [] => some []
  | .str x :: r => (strsOf r).map (x :: ·)
  | _ => none
theorem strs_v {K : PySem.W.Frag} {B : Addr → Prop} {H : Hp} : ∀ {xs : List PyData} {vs : List V} {ys : List Str}, RTs K B H vs xs → strsOf xs = some ys → vs = ys.map V.str
  | [], _, _, h, e => by cases h; cases e; rfl
  | x :: xs, _, ys, h, e => by
    cases h with
    | cons h1 h2 =>
      unfold strsOf at e
      split at e
      · rename_i heq; cases heq
      · rename_i y r heq
        cases heq
        cases e2 : strsOf xs with
        | none => rw [e2] at e; cases e
        | some zs =>
          rw [e2] at e
          cases e
          cases h1
          rw [strs_v h2 e2]
          rfl
      · cases e
def joinOk (a : Str) (ys : List Str) : Bool := decide ((ys.map (·.length)).sum + ys.length * a.length ≤ 16777216)
def fJoin : U → U → Sto → Res U := fun a b st => match a, (seqOf st b).bind strsOf with
  | .d (.str x), some ys => if joinOk x ys = true then .ok (.d (.str (Txt.join x ys))) st else .no
  | _, _ => .no
def rJoin (K : PySem.W.Frag) : V → List V → Hp → VK → Prop := fun x xs H Q => ∃ a p, ∃ ys : List Str, x = .str a ∧ xs = [.ref p] ∧ (SqL K H p (ys.map V.str) ∨ SqT K H p (ys.map V.str)) ∧
      (ys.map (·.length)).sum + ys.length * a.length ≤ 16777216 ∧ Q (.str (Txt.join a ys)) H
theorem r_join {G : Gx} : SimTx G (rJoin G.K) fJoin := fun β H σ l st re x y a b Q hx hy h => by
  unfold fJoin at h
  split at h
  · rename_i z ys e
    cases ru_str hx
    split at h
    · rename_i q
      cases e1 : seqOf st b with
      | none => rw [e1] at e; cases e
      | some xs =>
        rw [e1] at e
        obtain ⟨p, vs, rfl, s, r⟩ := seq_q re.rl hy e1
        have ev := strs_v r e
        subst ev
        exact ⟨⟨z, rfl⟩, z, p, ys, rfl, rfl, s, of_decide_eq_true q, wpR_d re.rl (.str _) h⟩
    · exact h.elim
  · exact h.elim
section
variable {X : Cx} {o e a b : Expr} {to te ta tb : TE} {mo me ma mb : ME} {apos pos : Pos}
theorem q_mulS (ha : QE X a ta ma) (hb : QE X b tb mb) : QE X (.BinOp a .Mult b pos) (tOp (rMulS X.K) ta tb) (eOp fMulS ma mb) := ⟨pe_op op_mulS ha.pe hb.pe, fun G h => h ▸ s_op r_mulS (ha.sim G h) (hb.sim G h)⟩
theorem q_join (ho : QE X o to mo) (he : QE X e te me) (hs : starEach [e] X.env = [(false, eval e X.env)] := by rfl) (hbase : attributeBase o "join" X.env (eval o X.env) = eval o X.env := by rfl) (hline : (apos.endLine == pos.line) = true := by rfl) :
    QE X (.Call (.Attribute o "join" apos) [e] [] pos) (tM1 (rJoin X.K) to te) (eMeth1 fJoin mo me) := ⟨pe_join ho.pe he.pe hs hbase hline, fun G h => h ▸ s_meth1 r_join (ho.sim G h) (he.sim G h)⟩
end
section
variable {X : Cx} {a b : Expr} {ta tb : TE} {ma mb : ME} {pos : Pos}
end
section
variable {P : Program} {w : World} {K : PySem.W.Frag} {mg : Str → Option Value} {base : Heap} {N ps : List Str} {x : Str} {st : Stmt} {k n : Nat}
end
section
variable {st : Sto} {Q : U → Sto → Prop} {l : Loc}
@[simp] theorem to_mulS_int {i j : Int} : (fMulS (.d (.int i)) (.d (.int j)) st).To Q ↔ (fMulA (.d (.int i)) (.d (.int j)) st).To Q := Iff.rfl
@[simp] theorem to_mulS_str {x : Str} {k : Int} : (fMulS (.d (.str x)) (.d (.int k)) st).To Q ↔ repOk x k = true ∧ Q (.d (.str (repS x k))) st := by
  show (if repOk x k = true then Res.ok (U.d (.str (repS x k))) st else .no).To Q ↔ _
  by_cases h : repOk x k = true <;> simp [h]
@[simp] theorem to_eMeth1 {f : U → U → Sto → Res U} {o a : ME} : (eMeth1 f o a l st).To Q ↔ (o l st).To fun u s => isStr u = true ∧ (a l s).To fun w s => (f u w s).To Q := by
  unfold eMeth1
  rw [to_bind]
  refine iff_of_eq (congrArg _ (funext fun u => funext fun s => propext ?_))
  by_cases h : isStr u = true <;> simp [h]
@[simp] theorem isStr_str {x : Str} : isStr (.d (.str x)) = true := rfl
@[simp] theorem to_joinL {x : Str} {xs : List PyData} : (fJoin (.d (.str x)) (.d (.list xs)) st).To Q ↔ ∃ ys, strsOf xs = some ys ∧ joinOk x ys = true ∧ Q (.d (.str (Txt.join x ys))) st := by
  have e : seqOf st (U.d (.list xs)) = some xs := rfl
  unfold fJoin
  rw [e, Option.bind_some]
  cases strsOf xs with
  | none => simp
  | some ys => by_cases h : joinOk x ys = true <;> simp [h]
end
end NW
namespace NW
open PySem PySem.Spec PyProof.Rows L2 LiI
section
variable {G : Gx} {β : List Addr} {H H' : Hp} {st : Sto}
def cMax3 : List U → Sto → Res U := fun us st => match us with
  | [.d (.int i), .d (.int j), .d (.int k)] => .ok (.d (.int (max (max i j) k))) st
  | _ => .no
theorem rd_ban {K : PySem.W.Frag} {B : Addr → Prop} {p a : Addr} {kvs : List (Key × V)} {xs : List V} (hp : H p = some (.dK kvs)) (h : Rd H a (.tup xs)) : a ≠ p := fun e => by
  subst e
  rcases h with h | ⟨o, h⟩ <;> · rw [hp] at h; cases h
section
variable {K : PySem.W.Frag} {B : Addr → Prop} {p : Addr} {kvs : List (Key × V)}
mutual
theorem RT.banD (hp : H p = some (.dK kvs)) : ∀ (d : PyData) (v : V), RT K B H v d → RT K (fun q => B q ∨ q = p) H v d
  | .none, _, h => by cases h; exact .non
  | .bool b, _, h => by cases h; exact .bl b
  | .int i, _, h => by cases h; exact .int i
  | .str x, _, h => by cases h; exact .str x
  | .list ds, _, h => by
    cases h with
    | lst hs ha => exact .lst ⟨hs.1, fun w => w.elim hs.2 fun e => by rw [e] at hs; rw [hs.1] at hp; cases hp⟩ (RTs.banD hp ds _ ha)
  | .tuple ds, _, h => by
    cases h with
    | tup hs ha => exact .tup (hs.imp (fun z => ⟨z.1, fun w => w.elim z.2 fun e => rd_ban (K := K) (B := B) hp z.1 e⟩) id) (RTs.banD hp ds _ ha)
  | .dict _, _, h => by cases h
theorem RTs.banD (hp : H p = some (.dK kvs)) : ∀ (ds : List PyData) (vs : List V), RTs K B H vs ds → RTs K (fun q => B q ∨ q = p) H vs ds
  | [], _, h => by cases h; exact .nil
  | d :: ds, _, h => by
    cases h with
    | cons h1 h2 => exact .cons (RT.banD hp d _ h1) (RTs.banD hp ds _ h2)
end
end
def fCallDcO (k : Nat) (m : List PyData → Rdc) (us : List U) (st : Sto) : Res U := match ctrees st us with
  | some ds => if ds.length = k ∧ us.any isRef = false then (match m ds with
    | .ok es => .ok (.ref st.obs.length) (st.addO (.dct es))
    | .no => .no) else .no
  | none => .no
def eCallDcO (k : Nat) (m : List PyData → Rdc) (a : MA) : ME := fun l st => (a l st).bind (fCallDcO k m)
end
section
variable {X : Cx} {a b c e : Expr} {es : List Expr} {pos p : Pos} {ta tb te : TE} {ma mb me : ME} {tA : TA} {mA : MA}
end
section
variable {st : Sto} {Q : U → Sto → Prop} {l : Loc}
@[simp] theorem to_max3 {i j k : Int} : (cMax3 [.d (.int i), .d (.int j), .d (.int k)] st).To Q ↔ Q (.d (.int (max (max i j) k))) st := Iff.rfl
@[simp] theorem to_eCallDcO {k : Nat} {m : List PyData → Rdc} {a : MA} : (eCallDcO k m a l st).To Q ↔ (a l st).To fun us s => (fCallDcO k m us s).To Q := by unfold eCallDcO; simp
end
end NW
namespace NW
open PySem PySem.Spec PyProof.Rows L2
section
variable {K K' : PySem.W.Frag} (m : More K K')
include m
theorem More.own {name : Str} {c : Value} {r : Option Value} (e : PySem.W.ownIn K name c = some r) : PySem.W.ownIn K' name c = some r := by
  unfold PySem.W.ownIn at e ⊢
  cases c with
  | ref a =>
    cases q : List.lookup a K with
    | none => simp [q] at e
    | some o =>
      simp only [q] at e
      simp only [m a o q]
      split at e
      · exact m.ns e
      · cases e
  | _ => exact e
theorem More.along {name : Str} : ∀ {l : List Value} {r : Option Value}, PySem.W.alongIn K name l = some r → PySem.W.alongIn K' name l = some r
  | [], _, e => e
  | c :: l, r, e => by
    unfold PySem.W.alongIn at e ⊢
    split at e
    · rename_i v q; rw [m.own q]; exact e
    · rename_i q; rw [m.own q]; exact More.along e
    · cases e
theorem More.find {t : Value} {name : Str} {r : Option Value} (e : PySem.W.findIn K t name = some r) : PySem.W.findIn K' t name = some r := by
  unfold PySem.W.findIn at e ⊢
  cases t with
  | ref a =>
    cases q : List.lookup a K with
    | none => simp [q] at e
    | some o =>
      simp only [q] at e
      simp only [m a o q]
      split at e
      · exact m.along e
      · cases e
  | _ => exact e
theorem More.typ {v t : Value} (e : PySem.W.typeIn K v = some t) : PySem.W.typeIn K' v = some t := by
  unfold PySem.W.typeIn at e ⊢
  cases v with
  | ref a =>
    obtain ⟨o, ho, h⟩ := Option.map_eq_some_iff.mp e
    show (List.lookup a K').map _ = _
    rw [m a o ho]
    exact congrArg some h
  | _ => exact e
theorem More.special {v : Value} {name : Str} {r : Option Value} (e : PySem.W.specialIn K v name = some r) : PySem.W.specialIn K' v name = some r := by
  unfold PySem.W.specialIn at e ⊢
  obtain ⟨t, a, b⟩ := Option.bind_eq_some_iff.mp e
  rw [m.typ a]
  exact m.find b
theorem More.takes {v : Value} {r : Bool} (e : PySem.W.takesIn K v = some r) : PySem.W.takesIn K' v = some r := by
  unfold PySem.W.takesIn at e ⊢
  split at e
  · rename_i q; rw [m.special q]; exact e
  · rename_i q
    rw [m.special q]
    obtain ⟨y, hy, h⟩ := Option.map_eq_some_iff.mp e
    show (PySem.W.specialIn K' v "__delete__").map _ = _
    rw [m.special hy]
    exact congrArg some h
  · cases e
theorem More.cls {C : Addr} {cd : ClassData} (e : PySem.W.clsIn K C = some cd) : PySem.W.clsIn K' C = some cd := by
  unfold PySem.W.clsIn at e ⊢
  cases q : List.lookup C K with
  | none => simp [q] at e
  | some o => simp only [q] at e; simp only [m C o q]; exact e
theorem More.mro {C : Addr} {b : Value} {r : Bool} (e : PySem.W.mroIn K C b = some r) : PySem.W.mroIn K' C b = some r := by
  unfold PySem.W.mroIn at e ⊢
  obtain ⟨cd, a, h⟩ := Option.bind_eq_some_iff.mp e
  rw [m.cls a]
  exact h
theorem More.sub {t b : Value} {r : Bool} (e : PySem.W.subIn K t b = some r) : PySem.W.subIn K' t b = some r := by
  unfold PySem.W.subIn at e ⊢
  cases t with
  | ref C => exact m.mro e
  | _ => exact e
theorem More.dict {C : Addr} (e : PySem.W.hasDictIn K C = true) : PySem.W.hasDictIn K' C = true := by
  unfold PySem.W.hasDictIn at e ⊢
  obtain ⟨cd, a, h⟩ := PySem.W.any_some e
  rw [m.cls a]
  exact h
theorem More.keep {v : Value} (e : PySem.W.keepIn K v = true) : PySem.W.keepIn K' v = true := by
  unfold PySem.W.keepIn at e ⊢
  cases v with
  | ref a =>
    cases q : List.lookup a K with
    | none => simp [q] at e
    | some o =>
      simp only [q] at e
      simp only [m a o q]
      split at e
      · rfl
      · have h := eq_of_beq e
        simp only [m.special h]
        exact beq_self_eq_true _
      · cases e
  | _ => exact e
end
def clsOf (mg : Str → Option Value) : Str → Option Addr := fun x => match mg x with
  | some (.ref a) => some a
  | _ => none
theorem clsOf_of {mg : Str → Option Value} {x : Str} {C : Addr} (h : mg x = some (.ref C)) : clsOf mg x = some C := by unfold clsOf; rw [h]
def ExK (K : PySem.W.Frag) (cls : Str → Option Addr) (B : Addr → Prop) (H : Hp) (e : Exc) (cv : Value) (dx : Option Addr) : Prop :=
  ∃ C, cls e.cls = some C ∧ cv = .ref C ∧ (match e.fs with
    | [] => dx = none
    | fs => ∃ d vs, dx = some d ∧ H d = some (.xd vs) ∧ ¬ B d ∧ vs.map (·.1) = fs.map (·.1) ∧ RTs K B H (vs.map (·.2)) (fs.map (·.2)))
theorem exR_K {G : Gx} {B : Addr → Prop} {H : Hp} {e : Exc} {cv : Value} {dx : Option Addr} : ExR G B H e cv dx ↔ ExK G.K G.cls B H e cv dx := Iff.rfl
theorem ExK.weak {K : PySem.W.Frag} {cls : Str → Option Addr} {B B' : Addr → Prop} {H : Hp} {e : Exc} {cv : Value} {dx : Option Addr} (k : ∀ a, B' a → B a) (h : ExK K cls B H e cv dx) : ExK K cls B' H e cv dx := by
  obtain ⟨C, h1, h2, h3⟩ := h
  refine ⟨C, h1, h2, ?_⟩
  split at h3
  · exact h3
  · obtain ⟨d, vs, e1, e2, e3, e4, e5⟩ := h3
    exact ⟨d, vs, e1, e2, fun w => e3 (k _ w), e4, RTs.weak k _ _ e5⟩
def spX (K : PySem.W.Frag) (mg : Str → Option Value) (k : Nat) (m : List PyData → Rp) : Sp := fun vs H Q E => ∃ (O0 : Addr → Prop) (ds : List PyData), NoTup H O0 ∧ RTs K O0 H vs ds ∧ ds.length = k ∧ (match m ds with
  | .ok d fr => ∀ v H', (∀ b o, H b = some o → H' b = some o) → RT K O0 H' v d → (fr = true → Fresh K O0 H H' v d) → Q v H'
  | .ex e => ∀ cv dx H', (∀ b o, H b = some o → H' b = some o) → ExK K (clsOf mg) O0 H' e cv dx → E cv dx H'
  | .no => False)
structure CalX (P : Program) (w : World) (K : PySem.W.Frag) (mg : Str → Option Value) (base : Heap) (k : Nat) (x : Str) (ps : List Str) (sp : Sp) : Prop where
  ex : ∃ f fd, FnOk P w K mg base (L2.CX P w) k f fd ps sp ∧ mg x = some (.ref f) ∧ PySem.W.keepIn K (.ref f) = true ∧ Binds K fd ps []
abbrev WEx (E : XK) : WX := fun cls d _ H => E cls d H
section
variable {P : Program} {w : World} {K : PySem.W.Frag} {mg : Str → Option Value} {base : Heap}
theorem rx_end {G : Gx} {H : Hp} {o : Out} {Q : VK} {E : XK} (hG : G.K = K) (hc : G.cls = clsOf mg) (hW : G.W = WEx E)
    (q : match outP o with
      | .ok d fr => ∀ v H', (∀ b o, H b = some o → H' b = some o) → RT K G.O0 H' v d → (fr = true → Fresh K G.O0 H H' v d) → Q v H'
      | .ex e => ∀ cv dx H', (∀ b o, H b = some o → H' b = some o) → ExK K (clsOf mg) G.O0 H' e cv dx → E cv dx H'
      | .no => False) : wpS G [] H ⟨none, []⟩ o { nx := fun _ H' => Q .non H', rt := Q } := by
  cases e : outP o with
  | ok d fr => rw [e] at q; exact rp_end hG e q
  | no => rw [e] at q; exact q.elim
  | ex x =>
    rw [e] at q
    unfold outP at e
    split at e
    · cases e
    · split at e <;> cases e
    · cases e
    · cases e
      have own0 : ∀ b, ¬ Own G [] ⟨none, []⟩ b := fun b h => by
        rcases h with ⟨h, _⟩ | ⟨i, xs, h, _⟩
        · cases h
        · simp at h
      intro cv dx σ' H' β' f re' x'
      rw [hW]
      refine q cv dx H' (fun b o h => (f.stay b o h (own0 b)).1) ?_
      rw [exR_K, hG, hc] at x'
      exact x'.weak fun a h => .inl h
    · cases e
theorem okX {x qual : Str} {st : Stmt} {f : Addr} {fd : FuncData} {N ps : List Str} {k : Nat} {b : MS} (F : Fun K x qual st f fd) (S : FnScope N ps (defScope st)) (hN : ps.length ≤ N.length)
    (hb : ∀ (cdv : Value) (A : Around) (outer : List Env) (s : Shared) (H : Hp) (E : XK), Room k (A.deeper (envOfC qual (defScope st) s.heap.objs.size f cdv)) →
      ∃ t, PSs (cxOf (L2.CX P w) P w K mg base N qual (defScope st) f cdv A outer s H E) (defBody st) t ∧ ∀ G : Gx, G.K = K → G.cls = clsOf mg → G.W = WEx E → SimS G t b) :
    FnOk P w K mg base (L2.CX P w) (k + 1) f fd ps (spX K mg ps.length (pureOf N.length b)) := by
  refine F.okX S (fun vs H Q E h => ?_) (fun cdv A outer s H vs Q E hr h => ?_)
  · obtain ⟨O0, ds, _, r, hl, _⟩ := h
    rw [r.len, hl]
  · obtain ⟨O0, ds, hO, r, hl, q⟩ := h
    obtain ⟨t, ht, hs⟩ := hb cdv A outer s H E hr
    refine ⟨t, ht, ?_⟩
    have own0 : ∀ b, ¬ Own ⟨K, 0, 0, O0, clsOf mg, WEx E⟩ [] ⟨none, []⟩ b := fun b h => by
      rcases h with ⟨h, _⟩ | ⟨i, xs, h, _⟩
      · cases h
      · simp at h
    have re : Re ⟨K, 0, 0, O0, clsOf mg, WEx E⟩ [] H (L2.start N vs) (startL N.length (ds.map .d)) ⟨none, []⟩ := by
      refine ⟨⟨rfl, .nil, fun p hp => by simp at hp, fun i xs h => by simp at h, fun f h => (by cases h), fun p hp => ⟨(hO p hp).1, own0 p, (hO p hp).2⟩⟩, ⟨start_len N (by rw [r.len]; simp) (by simp; omega), fun i u e => ?_⟩⟩
      have e1 := start_get N (vs := vs) e
      rw [List.getElem?_map] at e1
      cases e2 : ds[i]? with
      | none => rw [e2] at e1; cases e1
      | some y =>
        rw [e2] at e1; cases e1
        obtain ⟨v, h1, h2⟩ := r.get e2
        exact ⟨v, start_getV N h1, RT.weak (fun a h => h.elim id fun z => (own0 a z).elim) _ _ h2⟩
    exact hs ⟨K, 0, 0, O0, clsOf mg, WEx E⟩ rfl rfl rfl [] H _ _ _ re _ (rx_end (K := K) (mg := mg) rfl rfl rfl q)
end
structure QEx (X : Cx) (W : WX) (e : Expr) (t : TE) (m : ME) : Prop where
  pe : PE X e t
  sim : ∀ G : Gx, G.K = X.K → G.cls = clsOf X.mg → G.W = W → SimE G t m
structure QAx (X : Cx) (W : WX) (es : List Expr) (t : TA) (m : MA) : Prop where
  pa : PA X es t
  sim : ∀ G : Gx, G.K = X.K → G.cls = clsOf X.mg → G.W = W → SimA G t m
structure QSx (X : Cx) (W : WX) (s : Stmt) (t : TS) (m : MS) : Prop where
  ps : PS X s t
  sim : ∀ G : Gx, G.K = X.K → G.cls = clsOf X.mg → G.W = W → SimS G t m
structure QSsx (X : Cx) (W : WX) (s : List Stmt) (t : TS) (m : MS) : Prop where
  pss : PSs X s t
  sim : ∀ G : Gx, G.K = X.K → G.cls = clsOf X.mg → G.W = W → SimS G t m
section
variable {X : Cx} {W : WX}
theorem QE.x {e : Expr} {t : TE} {m : ME} (h : QE X e t m) : QEx X W e t m := ⟨h.pe, fun G hG _ _ => h.sim G hG⟩
theorem QA.x {e : List Expr} {t : TA} {m : MA} (h : QA X e t m) : QAx X W e t m := ⟨h.pa, fun G hG _ _ => h.sim G hG⟩
theorem QS.x {s : Stmt} {t : TS} {m : MS} (h : QS X s t m) : QSx X W s t m := ⟨h.ps, fun G hG _ _ => h.sim G hG⟩
theorem QSs.x {s : List Stmt} {t : TS} {m : MS} (h : QSs X s t m) : QSsx X W s t m := ⟨h.pss, fun G hG _ _ => h.sim G hG⟩
end
theorem calX {P : Program} {w : World} {K : PySem.W.Frag} {mg : Str → Option Value} {base : Heap} {N ps : List Str} {x : Str} {st : Stmt} {k : Nat} {b : MS} (D : DefIn K mg x st ps) (S : FnScope N ps (defScope st)) (hN : ps.length ≤ N.length)
    (hb : ∀ (f : Addr) (cdv : Value) (A : Around) (outer : List Env) (s : Shared) (H : Hp) (E : XK), Room k (A.deeper (envOfC x (defScope st) s.heap.objs.size f cdv)) →
      ∃ t, QSsx (cxOf (L2.CX P w) P w K mg base N x (defScope st) f cdv A outer s H E) (WEx E) (defBody st) t b) : CalX P w K mg base (k + 1) x ps (spX K mg ps.length (pureOf N.length b)) := by
  obtain ⟨f, fd, F, hm, hb'⟩ := D.ex
  refine ⟨f, fd, okX F S hN (fun cdv A outer s H E hr => ?_), hm, F.kp, hb'⟩
  obtain ⟨t, h⟩ := hb f cdv A outer s H E hr
  exact ⟨t, h.pss, fun G hG hc hW => h.sim G hG hc hW⟩
def fCallX (k : Nat) (m : List PyData → Rp) (us : List U) (st : Sto) : Res U := match ctrees st us with
  | some ds => if ds.length = k ∧ us.any isRef = false then (match m ds with
    | .ok d _ => .ok (.d d) st
    | .ex e => .ex e st
    | .no => .no) else .no
  | none => .no
def eCallX (k : Nat) (m : List PyData → Rp) (a : MA) : ME := fun l st => (a l st).bind (fCallX k m)
def fCallX0 (k : Nat) (m : List PyData → Rp) (us : List U) (st : Sto) : Res U := match ctrees st us with
  | some ds => if ds.length = k ∧ us.any isRef = false then (match m ds with
    | .ok d _ => .ok (.d d) st
    | _ => .no) else .no
  | none => .no
def eCallX0 (k : Nat) (m : List PyData → Rp) (a : MA) : ME := fun l st => (a l st).bind (fCallX0 k m)
theorem ExK.fut {G : Gx} {β : List Addr} {st : Sto} {H : Hp} {cls : Str → Option Addr} {e : Exc} {cv : Value} {dx : Option Addr} (h : ExK G.K cls (Ban G β st) H e cv dx) : ExK G.K cls (Ban G β st) H e cv dx := h
theorem s_callX {G : Gx} {mg : Str → Option Value} {k : Nat} {m : List PyData → Rp} {ta : TA} {a : MA} {W : WX} (hc : G.cls = clsOf mg) (hW : G.W = W) (ha : SimA G ta a) : SimE G (tCallS (spX G.K mg k m) (WE W) ta) (eCallX k m a) := fun β H σ l st re Q h => by
  refine ha β H σ l st re _ (wpR_bind h fun vs us H1 β1 st1 f1 rl1 p1 h1 => ?_)
  show spX G.K mg k m vs H1 Q (WE W σ)
  unfold fCallX at h1
  split at h1
  · rename_i ds e
    split at h1
    · rename_i hk
      refine ⟨Ban G β1 st1, ds, rl1.noTupB, ctrees_r p1 e hk.2, hk.1, ?_⟩
      cases e2 : m ds with
      | ok d fr =>
        rw [e2] at h1
        intro v H' kk rt _
        obtain ⟨f2, rl2⟩ := rl1.grown kk
        exact h1 v H' β1 f2 rl2 rt
      | ex x =>
        rw [e2] at h1
        intro cv dx H' kk hx
        obtain ⟨f2, rl2⟩ := rl1.grown kk
        have := h1 cv dx H' β1 f2 rl2 (by rw [exR_K, hc]; exact hx)
        rw [hW] at this
        exact this
      | no => rw [e2] at h1; exact h1.elim
    · exact h1.elim
  · exact h1.elim
theorem s_callX0 {G : Gx} {mg : Str → Option Value} {k : Nat} {m : List PyData → Rp} {ta : TA} {a : MA} (ha : SimA G ta a) : SimE G (tCall (spX G.K mg k m) [] E0 ta) (eCallX0 k m a) := fun β H σ l st re Q h => by
  refine ha β H σ l st re _ (wpR_bind h fun vs us H1 β1 st1 f1 rl1 p1 h1 => ?_)
  show spX G.K mg k m (vs ++ []) H1 Q E0
  rw [List.append_nil]
  unfold fCallX0 at h1
  split at h1
  · rename_i ds e
    split at h1
    · rename_i hk
      refine ⟨Ban G β1 st1, ds, rl1.noTupB, ctrees_r p1 e hk.2, hk.1, ?_⟩
      cases e2 : m ds with
      | ok d fr =>
        rw [e2] at h1
        intro v H' kk rt _
        obtain ⟨f2, rl2⟩ := rl1.grown kk
        exact h1 v H' β1 f2 rl2 rt
      | ex x => rw [e2] at h1; exact h1.elim
      | no => rw [e2] at h1; exact h1.elim
    · exact h1.elim
  · exact h1.elim
section
variable {X : Cx} {W : WX} {e c : Expr} {es : List Expr} {pos p : Pos} {tA : TA} {mA : MA} {te : TE} {me : ME} {s : Stmt} {rest x y body : List Stmt} {ts us : TS} {m n : MS}
theorem qx_cal {k j n : Nat} {ps : List Str} {m : List PyData → Rp} {x : Str} (C : CalX X.prog X.w X.K X.mg X.base k x ps (spX X.K X.mg n m)) (tk : Takes X W) (hr : Room j X.A) (hkj : k ≤ j) (ha : QA X (e :: es) tA mA) (hg : Gl X x := by rfl) (hdb : (x == ("__debug__" : Str)) = false := by decide)
    (he : starEach (e :: es) X.env = (false, eval e X.env) :: starEach es X.env := by rfl) (hpl : (backTo pos (starEach es X.env)).any (·.1) = false := by rfl) :
    QEx X W (.Call (.Name x p) (e :: es) [] pos) (tCallS (spX X.K X.mg n m) (WE W) tA) (eCallX n m mA) := by
  obtain ⟨f, fd, F, hm, hk, hb⟩ := C.ex
  exact ⟨pe_callS F (hr.mono hkj) hg hm hk hb (fun σ => passAt tk σ) ha.pa hdb he hpl, fun G hG hc hW => hG ▸ s_callX hc hW (ha.sim G hG)⟩
theorem q_calX0 {k j n : Nat} {ps : List Str} {m : List PyData → Rp} {x : Str} (C : CalX X.prog X.w X.K X.mg X.base k x ps (spX X.K X.mg n m)) (hr : Room j X.A) (hkj : k ≤ j) (ha : QA X (e :: es) tA mA) (hg : Gl X x := by rfl) (hdb : (x == ("__debug__" : Str)) = false := by decide)
    (he : starEach (e :: es) X.env = (false, eval e X.env) :: starEach es X.env := by rfl) (hpl : (backTo pos (starEach es X.env)).any (·.1) = false := by rfl) :
    QE X (.Call (.Name x p) (e :: es) [] pos) (tCall (spX X.K X.mg n m) [] E0 tA) (eCallX0 n m mA) := by
  obtain ⟨f, fd, F, hm, hk, hb⟩ := C.ex
  exact ⟨pe_call F (hr.mono hkj) hg hm hk hb .nil passL ha.pa hdb he hpl, fun G hG => hG ▸ s_callX0 (ha.sim G hG)⟩
end
end NW
namespace NW
open PySem PySem.Spec PyProof.Rows L2
section
variable {X : Cx} {W : WX} {e c tg : Expr} {es : List Expr} {pos p p2 : Pos} {tA : TA} {mA : MA} {te : TE} {me : ME} {s : Stmt} {rest x y body : List Stmt} {ts us : TS} {m n : MS}
theorem qssx_nil : QSsx X W [] tNext sNext := qss_nil.x
theorem qssx_cons (h1 : QSx X W s ts m) (h2 : QSsx X W rest us n) : QSsx X W (s :: rest) (tSeq ts us) (sSeq m n) := ⟨pss_cons h1.ps h2.pss, fun G h hc hW => t_seq (h1.sim G h hc hW) (h2.sim G h hc hW)⟩
theorem qssx_one (h1 : QSx X W s ts m) : QSsx X W [s] ts m := ⟨pss_one h1.ps, h1.sim⟩
theorem qsx_if {ct : TT} {cm : MB} (hc : QT X c ct cm) (ha : QSsx X W x ts m) (hb : QSsx X W y us n) : QSx X W (.If c x y pos) (tIfS ct ts us) (sIf cm m n) := ⟨ps_if hc.pt ha.pss hb.pss, fun G h hk hW => t_if (hc.sim G h) (ha.sim G h hk hW) (hb.sim G h hk hW)⟩
theorem qsx_for {wi : TI} {im : MI} {vs : List Nat} {g : TG} {gm : MT} (hp : PassesOwn (model X.prog X.w) X.A X.env X.xe) (hc : X.calm = true) (hi : QI X tg e wi im) (hg : QG X vs tg g gm) (hb : QSsx X W body ts m) (hs : ∀ x, foldedSetIterable e X.env x = pure x := by intro _; rfl) :
    QSx X W (.For tg e body [] pos) (tFor wi g ts) (sFor im gm m) := ⟨ps_for hp hc hi.pi hg.pg hb.pss hs, fun G h hk hW => t_for (hi.sim G h) (hg.sim G h) (hb.sim G h hk hW)⟩
theorem qsx_asg {vs : List Nat} {g : TG} {mg' : MT} (he : QEx X W e te me) (hg : QG X vs tg g mg') (hs : swapsWithSole [tg] e pos.line X.env = pure false := by rfl) (hw : swappedStores [tg] e X.env = pure none := by rfl) (h1 : (assignEach [tg] X.env).map (·.2) = [assign tg X.env] := by rfl) :
    QSx X W (.Assign [tg] e pos) (tAsg te g) (sAsgG me mg') := ⟨ps_asg he.pe hg.pg hs hw h1, fun G h hk hW => t_asgG (he.sim G h hk hW) (hg.sim G h)⟩
theorem qsx_ret (he : QEx X W e te me) : QSx X W (.Return (some e) pos) (tRet te) (sRet me) := ⟨ps_ret he.pe, fun G h hk hW => t_ret (he.sim G h hk hW)⟩
theorem qax_cons (ha : QEx X W e te me) (hr : QAx X W es tA mA) (hs : starEach (e :: es) X.env = (false, eval e X.env) :: starEach es X.env := by rfl) : QAx X W (e :: es) (tCons te tA) (aCons me mA) := ⟨pa_cons ha.pe hr.pa hs, fun G h hk hW => s_cons (ha.sim G h hk hW) (hr.sim G h hk hW)⟩
theorem qax_nil : QAx X W [] tNil aNil := qa_nil.x
theorem qex_tup {x1} (h : QAx X W es tA mA) : QEx X W (.Tuple es x1 pos) (tTup tA) (eTup mA) := ⟨pe_tup h.pa, fun G hG hk hW => s_tup (h.sim G hG hk hW)⟩
end
def sRaise1 (x f : Str) (me : ME) : MS := fun l st => (me l st).out l fun u st => match u with
  | .d d => .ex ⟨x, [(f, d)]⟩ l st
  | _ => .no
def spInit (K : PySem.W.Frag) (C : Addr) (f : Str) : Sp := fun vs H Q _ => ∃ (a : Addr) (y : V), vs = [.ref a, y] ∧ H a = some (exo a C none) ∧ ∀ dx, H dx = none → dx ≠ a → Q .non (upd (upd H dx (exd dx [(f, y)])) a (exo a C (some dx)))
theorem initT {K : PySem.W.Frag} {C : Addr} {f n1 n2 : Str} {vs : List V} {H : Hp} {Q : VK} {E : XK} (T : OexC K C) (hno : PySem.W.findIn K (.ref C) f = some none) (h : spInit K C f vs H Q E) : tOst K f (tVar 0) (tVar 1) { nx := fun _ H' => Q .non H', rt := Q } (L2.start [n1, n2] vs) H := by
  obtain ⟨a, y, rfl, ha, q⟩ := h
  exact ⟨_, rfl, _, rfl, a, C, rfl, T, hno, .inl ⟨ha, fun dx hd hn => q dx hd hn⟩⟩
structure Cls1 (P : Program) (w : World) (K : PySem.W.Frag) (mg : Str → Option Value) (base : Heap) (x f : Str) : Prop where
  ex : ∃ (C fI : Addr) (fd : FuncData) (ps : List Str), mg x = some (.ref C) ∧ OexC K C ∧ PySem.W.findIn K (.ref C) "__init__" = some (some (.ref fI)) ∧ PySem.W.typeIn K (.ref fI) = some (.type "function") ∧ FnOk P w K mg base CX0 1 fI fd ps (spInit K C f) ∧ Binds K fd ps []
def cA (mg : Str → Option Value) (x : Str) : Addr := (clsOf mg x).getD 0
theorem cA_of {mg : Str → Option Value} {x : Str} {C : Addr} (h : mg x = some (.ref C)) : cA mg x = C := by unfold cA; rw [clsOf_of h]; rfl
def tMk1 (K : PySem.W.Frag) (mg : Str → Option Value) (x f : Str) (te : TE) : L2.St → Hp → XK → Prop := tMkO (cA mg x) (spInit K (cA mg x) f) [] (tCons te tNil)
def tRaise1 (K : PySem.W.Frag) (mg : Str → Option Value) (W : WX) (x f : Str) (te : TE) : TS := fun _ σ H => tMk1 K mg x f te σ H fun cls d H' => W cls d σ H'
theorem del_end {H1 : Hp} {a d C : Addr} {f : Str} {y : V} (ha : H1 a = none) (hd : upd H1 a (exo a C none) d = none) (hn : d ≠ a) :
    upd (del (upd (upd (upd H1 a (exo a C none)) d (exd d [(f, y)])) a (exo a C (some d))) a) d (.xd [(f, y)]) = upd H1 d (.xd [(f, y)]) := by
  funext b
  by_cases hb : b = d
  · subst hb; rw [upd_same, upd_same]
  · rw [upd_ne hb, upd_ne hb]
    by_cases hc : b = a
    · subst hc; rw [del_same, ha]
    · rw [del_ne hc, upd_ne hc, upd_ne hb, upd_ne hc]
section
variable {X : Cx} {W : WX} {e : Expr} {pos p p2 : Pos} {te : TE} {me : ME} {x f : Str}
theorem pmk_1 {j : Nat} (C : Cls1 X.prog X.w X.K X.mg X.base x f) (hr : Room j X.A) (hj : 2 ≤ j) (he : PE X e te) (hg : Gl X x := by rfl) (hdb : (x == ("__debug__" : Str)) = false := by decide)
    (hs : starEach (e :: []) X.env = (false, eval e X.env) :: starEach [] X.env := by rfl) (hpl : (backTo p2 (starEach [] X.env)).any (·.1) = false := by rfl) :
    PMk X (.Call (.Name x p) [e] [] p2) (tMk1 X.K X.mg x f te) := by
  obtain ⟨C, fI, fd, ps, hm, T, iC, tI, F, hb⟩ := C.ex
  unfold tMk1
  rw [cA_of hm]
  exact pmk_oex (CX := CX0) (k := 1) T iC tI F (hr.mono hj) hb .nil pass0 hg hm (pa_cons he pa_nil hs) hdb hs hpl
theorem mk1_end {G : Gx} {β : List Addr} {st : Sto} {H1 : Hp} {σ : L2.St} {l : Loc} {C : Addr} {d : PyData} {y : V} {D : Ends} (hm : G.cls x = some C) (rl : Rl G β H1 st) (lo : RLoc G β (Ban G β st) H1 σ l) (r : RT G.K (Ban G β st) H1 y d)
    (h : wpS G β H1 st (.ex ⟨x, [(f, d)]⟩ l st) D) : ∀ dd, H1 dd = none → G.W (.ref C) (some dd) σ (upd H1 dd (.xd [(f, y)])) := fun dd hd => by
  have fu : Fut G β st H1 β st (upd H1 dd (.xd [(f, y)])) := Fut.new hd
  refine h (.ref C) (some dd) σ _ β fu ⟨rl.new hd, fu.rloc lo⟩ ⟨C, hm, rfl, dd, [(f, y)], rfl, upd_same, rl.notBan hd, rfl, ?_⟩
  exact .cons (fu.rt r) .nil
theorem qsx_raise1 {j : Nat} (C : Cls1 X.prog X.w X.K X.mg X.base x f) (hcalm : X.calm = true) (tk : Takes X W) (hr : Room j X.A) (hj : 2 ≤ j) (he : QE X e te me) (hg : Gl X x := by rfl) (hdb : (x == ("__debug__" : Str)) = false := by decide)
    (hs : starEach (e :: []) X.env = (false, eval e X.env) :: starEach [] X.env := by rfl) (hpl : (backTo p2 (starEach [] X.env)).any (·.1) = false := by rfl) :
    QSx X W (.Raise (some (.Call (.Name x p) [e] [] p2)) none pos) (tRaise1 X.K X.mg W x f te) (sRaise1 x f me) := by
  refine ⟨ps_raise hcalm tk (pmk_1 C hr hj he.pe hg hdb hs hpl), fun G hG hk hW => fun β H σ l st re D q => ?_⟩
  obtain ⟨C, fI, fd, ps, hm, T, iC, tI, F, hb⟩ := C.ex
  unfold tRaise1 tMk1 tMkO
  rw [cA_of hm]
  refine he.sim G hG β H σ l st re _ (wpS_res re q fun y u H1 β1 st1 f1 rl1 p1 q1 => ?_)
  show [y].length ≤ 1000 ∧ _
  refine ⟨by simp, fun a ha => ?_⟩
  split at q1
  · rename_i d
    have re1 := f1.re rl1 re
    refine ⟨a, y, rfl, upd_same, fun dx hd hn => ⟨rfl, dx, [(f, y)], upd_same, ?_, ?_, ?_⟩⟩
    · rw [upd_ne hn, upd_same]
    · rw [upd_ne hn] at hd; exact hd
    · rw [del_end ha hd hn]
      have hd' : H1 dx = none := by rw [upd_ne hn] at hd; exact hd
      have := mk1_end (f := f) (hm := by rw [hk]; exact clsOf_of hm) rl1 re1.lo p1 q1 dx hd'
      rw [hW] at this
      exact this
  · exact q1.elim
end
end NW
namespace NW
open PySem PySem.Spec PyProof.Rows L2
section
variable {G : Gx} {β : List Addr} {H : Hp} {st : Sto} {σ : L2.St} {l : Loc}
theorem str1 {vs : List V} {z : Str} (p : PUs G β st H vs [.d (.str z)]) : vs = [.str z] := by
  have p' : Paired (fun v u => RU G β (Ban G β st) H v u) vs [.d (.str z)] := p
  cases p' with
  | cons r q => cases q; cases ru_str r; rfl
def numOk (i : Int) : Bool := decide (i.natAbs.log2 < 1920)
def numT (i : Int) : Str := toString i
def cStrI : List U → Sto → Res U := fun us st => match us with
  | [.d (.int i)] => if numOk i = true then .ok (.d (.str (numT i))) st else .no
  | _ => .no
def rStrI : List V → Hp → VK → Prop := fun xs H Q => ∃ i : Int, xs = [.int i] ∧ i.natAbs.log2 < 1920 ∧ Q (.str (toString i)) H
theorem c_strI : SimC G rStrI cStrI := fun β H σ l st re xs us Q p h => by
  unfold cStrI at h
  split at h
  · split at h
    · rename_i hk
      exact ⟨_, int1 p, of_decide_eq_true hk, wpR_d re.rl (.str _) h⟩
    · exact h.elim
  · exact h.elim
def cIntS : List U → Sto → Res U := fun us st => match us with
  | [.d (.str a)] => (match PySem.intText? a with
    | some n => if a.length ≤ 640 then .ok (.d (.int n)) st else .no
    | none => .no)
  | _ => .no
def rIntS : List V → Hp → VK → Prop := fun xs H Q => ∃ a n, xs = [.str a] ∧ PySem.intText? a = some n ∧ a.length ≤ 640 ∧ Q (.int n) H
theorem c_intS : SimC G rIntS cIntS := fun β H σ l st re xs us Q p h => by
  unfold cIntS at h
  split at h
  · split at h
    · rename_i n e
      split at h
      · rename_i hk
        exact ⟨_, n, str1 p, e, hk, wpR_d re.rl (.int _) h⟩
      · exact h.elim
    · exact h.elim
  · exact h.elim
def eFmt (m : ME) : ME := fun l st => (m l st).bind fun u st => match u with
  | .d (.str y) => if lenOk y.length = true then .ok (.d (.str y)) st else .no
  | .d (.int i) => if numOk i = true then .ok (.d (.str (numT i))) st else .no
  | _ => .no
theorem s_fmt {t : TE} {m : ME} (h : SimE G t m) : SimE G (tFmt t) (eFmt m) := fun β H σ l st re Q q => by
  refine h β H σ l st re _ (wpR_bind q fun v u H1 β1 st1 f1 rl1 p1 h1 => ?_)
  split at h1
  · rename_i y
    cases ru_str p1
    split at h1
    · rename_i hk
      exact .inl ⟨y, rfl, of_decide_eq_true hk, wpR_d rl1 (.str _) h1⟩
    · exact h1.elim
  · rename_i i
    cases ru_int p1
    split at h1
    · rename_i hk
      exact .inr ⟨i, rfl, of_decide_eq_true hk, wpR_d rl1 (.str _) h1⟩
    · exact h1.elim
  · exact h1.elim
def eJs : List ME → Str → ME
  | [], acc => fun _ st => .ok (.d (.str acc)) st
  | m :: ms, acc => fun l st => (m l st).bind fun u st => match u with
    | .d (.str y) => if lenOk (acc ++ y).length = true then eJs ms (acc ++ y) l st else .no
    | _ => .no
theorem s_js : ∀ {ts : List TE} {ms : List ME}, Paired (fun t m => SimE G t m) ts ms → ∀ acc : Str, SimE G (fun σ H Q => tJs ts acc σ H fun out H1 => Q (.str out) H1) (eJs ms acc)
  | [], [], .nil, acc => fun β H σ l st re Q h => wpR_d re.rl (.str _) h
  | t :: ts, m :: ms, .cons h r, acc => fun β H σ l st re Q q => by
    refine h β H σ l st re _ (wpR_bind q fun v u H1 β1 st1 f1 rl1 p1 h1 => ?_)
    split at h1
    · rename_i y
      cases ru_str p1
      split at h1
      · rename_i hk
        exact ⟨y, rfl, of_decide_eq_true hk, s_js r (acc ++ y) β1 H1 σ l st1 (f1.re rl1 re) Q h1⟩
      · exact h1.elim
    · exact h1.elim
def fStarts : U → U → Sto → Res U := fun a b st => match a, b with
  | .d (.str x), .d (.str y) => .ok (.d (.bool (Txt.startswith x y))) st
  | _, _ => .no
def rStarts : V → List V → Hp → VK → Prop := fun x xs H Q => ∃ a b, x = .str a ∧ xs = [.str b] ∧ Q (.bl (Txt.startswith a b)) H
theorem r_starts : SimTx G rStarts fStarts := fun β H σ l st re x y a b Q hx hy h => by
  unfold fStarts at h
  split at h
  · cases ru_str hx; cases ru_str hy
    exact ⟨⟨_, rfl⟩, _, _, rfl, rfl, wpR_d re.rl (.bl _) h⟩
  · exact h.elim
def partD (x y : Str) : PyData := .tuple [.str (Txt.partition x y).1, .str (Txt.partition x y).2.1, .str (Txt.partition x y).2.2]
def fPart : U → U → Sto → Res U := fun a b st => match a, b with
  | .d (.str x), .d (.str y) => if (y.length == 0) = false ∧ lenOk x.length = true then .ok (.d (partD x y)) st else .no
  | _, _ => .no
def rPart : V → List V → Hp → VK → Prop := fun x xs H Q => ∃ a b, x = .str a ∧ xs = [.str b] ∧ (b.length == 0) = false ∧ a.length ≤ sizeLine ∧
      ∀ p, H p = none → Q (.ref p) (upd H p (.tup [.str (Txt.partition a b).1, .str (Txt.partition a b).2.1, .str (Txt.partition a b).2.2]))
theorem r_part : SimTx G rPart fPart := fun β H σ l st re x y a b Q hx hy h => by
  unfold fPart at h
  split at h
  · split at h
    · rename_i hk
      cases ru_str hx; cases ru_str hy
      refine ⟨⟨_, rfl⟩, _, _, rfl, rfl, hk.1, of_decide_eq_true hk.2, fun p hp => ?_⟩
      obtain ⟨f4, rl4, rt⟩ := new_tup (vs := [.str _, .str _, .str _]) (ds := [.str _, .str _, .str _]) re.rl hp (.cons (.str _) (.cons (.str _) (.cons (.str _) .nil)))
      exact h _ _ β f4 rl4 rt
    · exact h.elim
  · exact h.elim
def splitD (x y : Str) : List PyData := (Txt.split x y).map PyData.str
def fSplit : U → U → Sto → Res U := fun a b st => match a, b with
  | .d (.str x), .d (.str y) => if (y.length == 0) = false ∧ x.length + 2 ≤ 16777216 then .ok (.d (.list (splitD x y))) st else .no
  | _, _ => .no
def rSplit : V → List V → Hp → VK → Prop := fun x xs H Q => ∃ a b, x = .str a ∧ xs = [.str b] ∧ (b.length == 0) = false ∧ a.length + 2 ≤ sizeLine ∧ rNewStrs (Txt.split a b) H Q
theorem rts_strs {K : PySem.W.Frag} {B : Addr → Prop} : ∀ ys : List Str, RTs K B H (ys.map V.str) (ys.map PyData.str)
  | [] => .nil
  | y :: ys => .cons (.str y) (rts_strs ys)
theorem r_split : SimTx G rSplit fSplit := fun β H σ l st re x y a b Q hx hy h => by
  unfold fSplit at h
  split at h
  · split at h
    · rename_i hk
      cases ru_str hx; cases ru_str hy
      refine ⟨⟨_, rfl⟩, _, _, rfl, rfl, hk.1, by rw [sizeLine_eq]; exact hk.2, fun p hp => ?_⟩
      obtain ⟨f4, rl4, rt⟩ := new_lst re.rl hp (rts_strs (K := G.K) (B := Ban G β st) (H := H) (Txt.split _ _))
      exact h _ _ β f4 rl4 rt
    · exact h.elim
  · exact h.elim
def fIndex : U → U → Sto → Res U := fun a b st => match a, b with
  | .d (.str x), .d (.str y) => (match Txt.index0 x y with
    | some k => .ok (.d (.int (k : Nat))) st
    | none => .no)
  | _, _ => .no
def oneS : Str → Option Nat := fun x => match x.cps.toList with
  | [c] => some c
  | _ => none
theorem oneS_v {x : Str} {c : Nat} (h : oneS x = some c) : x = ⟨#[c]⟩ := by
  unfold oneS at h
  split at h
  · rename_i d e
    cases h
    obtain ⟨cps⟩ := x
    have : cps = #[c] := by rw [← Array.toList_inj]; exact e
    rw [this]
  · cases h
def fInS (neg : Bool) : U → U → Sto → Res U := fun a b st => match a, b with
  | .d (.str x), .d (.str z) => (match oneS x with
    | some c => .ok (.d (.bool (if neg then !decide (c ∈ z.cps.toList) else decide (c ∈ z.cps.toList)))) st
    | none => .no)
  | _, _ => .no
def rInS : R2 := fun x y H Q => ∃ (c : Nat) (z : Str), x = .str ⟨#[c]⟩ ∧ y = .str z ∧ Q (.bl (decide (c ∈ z.cps.toList))) H
def rNotInS : R2 := fun x y H Q => ∃ (c : Nat) (z : Str), x = .str ⟨#[c]⟩ ∧ y = .str z ∧ Q (.bl (!decide (c ∈ z.cps.toList))) H
theorem r_inS : SimR G rInS (fInS false) := fun β H σ l st re x y a b Q hx hy h => by
  unfold fInS at h
  split at h
  · split at h
    · rename_i c e
      cases ru_str hx; cases ru_str hy
      rw [oneS_v e]
      exact ⟨c, _, rfl, rfl, wpR_d re.rl (.bl _) h⟩
    · exact h.elim
  · exact h.elim
theorem r_notInS : SimR G rNotInS (fInS true) := fun β H σ l st re x y a b Q hx hy h => by
  unfold fInS at h
  split at h
  · split at h
    · rename_i c e
      cases ru_str hx; cases ru_str hy
      rw [oneS_v e]
      exact ⟨c, _, rfl, rfl, wpR_d re.rl (.bl _) h⟩
    · exact h.elim
  · exact h.elim
def signsD (x : Str) : List PyData := x.cps.toList.map fun c => .str ⟨#[c]⟩
theorem its_r {x : Str} : ItR G β st H (Its x) ⟨signsD x, []⟩ := fun O1 hO β1 H1 st1 f rl1 hk i => by
  have sz : (signsD x).length = x.cps.size := by simp [signsD]
  refine ⟨fun y hy => ?_, fun hi => (show x.cps.size ≤ i by rw [← sz]; exact hi)⟩
  have hi : i < x.cps.size := by rw [← sz]; exact (List.getElem?_eq_some_iff.mp hy).1
  refine ⟨hi, fun v H' hyl => ?_⟩
  obtain ⟨rfl, c, hc, rfl⟩ := hyl
  have e : (signsD x)[i]? = some (.str ⟨#[c]⟩) := by
    unfold signsD
    rw [List.getElem?_map, Array.getElem?_toList, hc]
    rfl
  rw [e] at hy; cases hy
  exact ⟨.inl rfl, .str _⟩
def mStr (m : ME) : MI := fun l st => (m l st).bind fun u st => match u with
  | .d (.str x) => .ok ⟨signsD x, []⟩ st
  | _ => .no
theorem i_str {t : TE} {m : ME} (h : SimE G t m) : SimI G (iStr t) (mStr m) := fun β H σ l st re R q => by
  refine h β H σ l st re _ (wpR_bind q fun v u H1 β1 st1 f1 rl1 p1 h1 => ?_)
  split at h1
  · rename_i x
    cases ru_str p1
    exact ⟨x, rfl, h1 _ H1 β1 Fut.refl rl1 its_r⟩
  · exact h1.elim
def mRevR (m : ME) : MI := fun l st => (m l st).bind fun u st => match u with
  | .d (.int n) => if rOk n = true then .ok ⟨rangeD (((n.toNat : Nat) : Int) - 1) (-1) n.toNat, []⟩ st else .no
  | _ => .no
theorem i_revR {t : TE} {m : ME} (h : SimE G t m) : SimI G (iRevR (tRg1 t)) (mRevR m) := fun β H σ l st re R q => by
  refine h β H σ l st re _ (wpR_bind q fun v u H1 β1 st1 f1 rl1 p1 h1 => ?_)
  split at h1
  · rename_i n
    cases ru_int p1
    split at h1
    · rename_i hk
      obtain ⟨k1, k2⟩ := of_decide_eq_true hk
      refine ⟨n, rfl, by omega, by omega, k1, k2, ?_⟩
      have e : (0 : Int) + (((n - 0).toNat : Nat) : Int) - 1 = (((n.toNat : Nat) : Int) - 1) := by rw [Int.sub_zero]; omega
      rw [e, Int.sub_zero]
      exact h1 _ H1 β1 Fut.refl rl1 itc_r
    · exact h1.elim
  · exact h1.elim
end
section
variable {X : Cx} {o e a b : Expr} {to te ta tb : TE} {mo me ma mb : ME} {apos pos p : Pos} {tA : TA} {mA : MA} {tg : Expr}
theorem q_strI (hm : X.mg "str" = none) (h : QA X [e] tA mA) (hg : Gl X "str" := by rfl) (he : starEach (e :: []) X.env = (false, eval e X.env) :: starEach [] X.env := by rfl) (hpl : (backTo pos (starEach [] X.env)).any (·.1) = false := by rfl) : QE X (.Call (.Name "str" p) [e] [] pos) (tCB rStrI tA) (eCB cStrI mA) :=
  ⟨pe_callTy call_str_int hg hm (by rfl) h.pa (by decide) (by decide) he hpl, fun G hG => s_cb c_strI (h.sim G hG)⟩
theorem q_intS (hm : X.mg "int" = none) (h : QA X [e] tA mA) (hg : Gl X "int" := by rfl) (he : starEach (e :: []) X.env = (false, eval e X.env) :: starEach [] X.env := by rfl) (hpl : (backTo pos (starEach [] X.env)).any (·.1) = false := by rfl) : QE X (.Call (.Name "int" p) [e] [] pos) (tCB rIntS tA) (eCB cIntS mA) :=
  ⟨pe_callTy call_int_str hg hm boot_int h.pa (by decide) (by decide) he hpl, fun G hG => s_cb c_intS (h.sim G hG)⟩
theorem q_fmt (h : QE X e te me) : QE X (.FormattedValue e (-1) none pos) (tFmt te) (eFmt me) := ⟨pe_fmt h.pe, fun G hG => s_fmt (h.sim G hG)⟩
structure QJ (X : Cx) (es : List Expr) (ts : List TE) (ms : List ME) : Prop where
  pj : PJ X es ts
  sim : ∀ G : Gx, G.K = X.K → Paired (fun t m => SimE G t m) ts ms
theorem qj_nil : QJ X [] [] [] := ⟨.nil, fun _ _ => .nil⟩
theorem qj_cons {es : List Expr} {ts : List TE} {ms : List ME} (h : QE X e te me) (r : QJ X es ts ms) : QJ X (e :: es) (te :: ts) (me :: ms) := ⟨.cons h.pe r.pj, fun G hG => .cons (h.sim G hG) (r.sim G hG)⟩
theorem q_js {v1 v2 : Expr} {rest : List Expr} {ts : List TE} {ms : List ME} (h : QJ X (v1 :: v2 :: rest) ts ms) : QE X (.JoinedStr (v1 :: v2 :: rest) pos) (fun σ H Q => tJs ts Str.empty σ H fun out H1 => Q (.str out) H1) (eJs ms Str.empty) := ⟨pe_joined h.pj, fun G hG => s_js (h.sim G hG) _⟩
theorem q_starts (ho : QE X o to mo) (he : QE X e te me) (hs : starEach [e] X.env = [(false, eval e X.env)] := by rfl) (hbase : attributeBase o "startswith" X.env (eval o X.env) = eval o X.env := by rfl) (hline : (apos.endLine == pos.line) = true := by rfl) :
    QE X (.Call (.Attribute o "startswith" apos) [e] [] pos) (tM1 rStarts to te) (eMeth1 fStarts mo me) := ⟨pe_m1 PySem.F.slot_str_startswith PySem.F.type_str_startswith mt_startswith ho.pe he.pe hs hbase hline, fun G h => s_meth1 r_starts (ho.sim G h) (he.sim G h)⟩
theorem q_part (ho : QE X o to mo) (he : QE X e te me) (hs : starEach [e] X.env = [(false, eval e X.env)] := by rfl) (hbase : attributeBase o "partition" X.env (eval o X.env) = eval o X.env := by rfl) (hline : (apos.endLine == pos.line) = true := by rfl) :
    QE X (.Call (.Attribute o "partition" apos) [e] [] pos) (tM1 rPart to te) (eMeth1 fPart mo me) := ⟨pe_partition ho.pe he.pe hs hbase hline, fun G h => s_meth1 r_part (ho.sim G h) (he.sim G h)⟩
theorem q_split (ho : QE X o to mo) (he : QE X e te me) (hs : starEach [e] X.env = [(false, eval e X.env)] := by rfl) (hbase : attributeBase o "split" X.env (eval o X.env) = eval o X.env := by rfl) (hline : (apos.endLine == pos.line) = true := by rfl) :
    QE X (.Call (.Attribute o "split" apos) [e] [] pos) (tM1 rSplit to te) (eMeth1 fSplit mo me) := ⟨pe_split ho.pe he.pe hs hbase hline, fun G h => s_meth1 r_split (ho.sim G h) (he.sim G h)⟩
theorem q_inS (ha : QE X a ta ma) (hb : QE X b tb mb) (hm : behindInMarks .In b = false := by rfl) : QE X (.Compare a [.In] [b] pos) (tOp rInS ta tb) (eOp (fInS false) ma mb) := ⟨pe_cmpR op_in_sign ha.pe hb.pe hm, fun G h => s_op r_inS (ha.sim G h) (hb.sim G h)⟩
theorem qt_notInS (ha : QE X a ta ma) (hb : QE X b tb mb) (hm : behindInMarks .NotIn b = false := by rfl) : QT X (.Compare a [.NotIn] [b] pos) (tTest (tOp rNotInS ta tb)) (bTest (eOp (fInS true) ma mb)) := ⟨pt_cmpR op_notIn_sign ha.pe hb.pe hm, fun G h => s_test (s_op r_notInS (ha.sim G h) (hb.sim G h))⟩
theorem qi_str (h : QE X e te me) : QI X tg e (iStr te) (mStr me) := ⟨pi_str h.pe, fun G hG => i_str (h.sim G hG)⟩
theorem qi_revR {p2 p3 : Pos} (hr : X.mg "reversed" = none) (hm : X.mg "range" = none) (h : QE X a ta ma) (hg : Gl X "reversed" := by rfl) (hg2 : Gl X "range" := by rfl) (na : starEach [a] X.env = (false, eval a X.env) :: starEach [] X.env := by rfl)
    (hs : starEach [.Call (.Name "range" p2) [a] [] p3] X.env = (false, eval (.Call (.Name "range" p2) [a] [] p3) X.env) :: starEach [] X.env := by rfl) :
    QI X tg (.Call (.Name "reversed" p) [.Call (.Name "range" p2) [a] [] p3] [] pos) (iRevR (tRg1 ta)) (mRevR ma) := ⟨pi_revR hg hr (prg_1 hg2 hm h.pe na) hs, fun G hG => i_revR (h.sim G hG)⟩
end
section
variable {st : Sto} {Q : U → Sto → Prop} {l : Loc}
@[simp] theorem to_cStrI {i : Int} : (cStrI [.d (.int i)] st).To Q ↔ numOk i = true ∧ Q (.d (.str (numT i))) st := by
  show (if numOk i = true then Res.ok (U.d (.str (numT i))) st else .no).To Q ↔ _
  by_cases h : numOk i = true <;> simp [h]
@[simp] theorem to_cIntS {a : Str} : (cIntS [.d (.str a)] st).To Q ↔ ∃ n, PySem.intText? a = some n ∧ a.length ≤ 640 ∧ Q (.d (.int n)) st := by
  show (match PySem.intText? a with | some n => if a.length ≤ 640 then Res.ok (U.d (.int n)) st else .no | none => .no).To Q ↔ _
  cases PySem.intText? a with
  | none => simp
  | some n => by_cases h : a.length ≤ 640 <;> simp [h]
@[simp] theorem to_starts {x y : Str} : (fStarts (.d (.str x)) (.d (.str y)) st).To Q ↔ Q (.d (.bool (Txt.startswith x y))) st := Iff.rfl
@[simp] theorem to_part {x y : Str} : (fPart (.d (.str x)) (.d (.str y)) st).To Q ↔ ((y.length == 0) = false ∧ lenOk x.length = true) ∧ Q (.d (partD x y)) st := by
  show (if (y.length == 0) = false ∧ lenOk x.length = true then Res.ok (U.d (partD x y)) st else .no).To Q ↔ _
  by_cases h : (y.length == 0) = false ∧ lenOk x.length = true <;> simp [h]
@[simp] theorem to_split {x y : Str} : (fSplit (.d (.str x)) (.d (.str y)) st).To Q ↔ ((y.length == 0) = false ∧ x.length + 2 ≤ 16777216) ∧ Q (.d (.list (splitD x y))) st := by
  show (if (y.length == 0) = false ∧ x.length + 2 ≤ 16777216 then Res.ok (U.d (.list (splitD x y))) st else .no).To Q ↔ _
  by_cases h : (y.length == 0) = false ∧ x.length + 2 ≤ 16777216 <;> simp [h]
@[simp] theorem to_index {x y : Str} : (fIndex (.d (.str x)) (.d (.str y)) st).To Q ↔ ∃ k, Txt.index0 x y = some k ∧ Q (.d (.int (k : Nat))) st := by
  show (match Txt.index0 x y with | some k => Res.ok (U.d (.int (k : Nat))) st | none => .no).To Q ↔ _
  cases Txt.index0 x y <;> simp
@[simp] theorem to_inS {x z : Str} {neg : Bool} : (fInS neg (.d (.str x)) (.d (.str z)) st).To Q ↔ ∃ c, oneS x = some c ∧ Q (.d (.bool (if neg then !decide (c ∈ z.cps.toList) else decide (c ∈ z.cps.toList)))) st := by
  show (match oneS x with | some c => Res.ok (U.d (.bool (if neg then !decide (c ∈ z.cps.toList) else decide (c ∈ z.cps.toList)))) st | none => .no).To Q ↔ _
  cases oneS x <;> simp
@[simp] theorem to_mStr {m : ME} {Q : ItD → Sto → Prop} : (mStr m l st).To Q ↔ (m l st).To fun u s => ∃ x, u = .d (.str x) ∧ Q ⟨signsD x, []⟩ s := by
  unfold mStr
  rw [to_bind]
  refine iff_of_eq (congrArg _ (funext fun u => funext fun s => propext ?_))
  split
  · simp
  · rename_i h
    simp
    intro x hx
    exact (h x hx).elim
@[simp] theorem to_mRevR {m : ME} {Q : ItD → Sto → Prop} : (mRevR m l st).To Q ↔ (m l st).To fun u s => ∃ n : Int, u = .d (.int n) ∧ rOk n = true ∧ Q ⟨rangeD (((n.toNat : Nat) : Int) - 1) (-1) n.toNat, []⟩ s := by
  unfold mRevR
  rw [to_bind]
  refine iff_of_eq (congrArg _ (funext fun u => funext fun s => propext ?_))
  split
  · rename_i n
    by_cases h : rOk n = true <;> simp [h]
  · rename_i h
    simp
    intro x hx
    exact (h x hx).elim
@[simp] theorem to_eFmt {m : ME} : (eFmt m l st).To Q ↔ (m l st).To fun u s => (∃ y, u = .d (.str y) ∧ y.length ≤ 16777216 ∧ Q (.d (.str y)) s) ∨ ∃ i, u = .d (.int i) ∧ numOk i = true ∧ Q (.d (.str (numT i))) s := by
  unfold eFmt
  rw [to_bind]
  refine iff_of_eq (congrArg _ (funext fun u => funext fun s => propext ?_))
  split
  · rename_i y
    have e : lenOk y.length = true ↔ y.length ≤ 16777216 := by simp
    by_cases h : y.length ≤ 16777216 <;> simp [h]
  · rename_i i
    by_cases h : numOk i = true <;> simp [h]
  · rename_i h1 h2
    simp
    exact ⟨fun x hx => (h1 x hx).elim, fun x hx => (h2 x hx).elim⟩
@[simp] theorem to_js0 {acc : Str} : (eJs [] acc l st).To Q ↔ Q (.d (.str acc)) st := Iff.rfl
@[simp] theorem to_js1 {m : ME} {ms : List ME} {acc : Str} : (eJs (m :: ms) acc l st).To Q ↔ (m l st).To fun u s => ∃ y, u = .d (.str y) ∧ (acc ++ y).length ≤ 16777216 ∧ (eJs ms (acc ++ y) l s).To Q := by
  show ((m l st).bind _).To Q ↔ _
  rw [to_bind]
  refine iff_of_eq (congrArg _ (funext fun u => funext fun s => propext ?_))
  split
  · rename_i y
    have e : lenOk (acc ++ y).length = true ↔ (acc ++ y).length ≤ 16777216 := by simp
    by_cases h : (acc ++ y).length ≤ 16777216 <;> simp [h]
  · rename_i h
    simp
    intro x hx
    exact (h x hx).elim
end
end NW
namespace NW
open PySem PySem.Spec PyProof.Rows L2
abbrev kept (X : Cx) (a : Addr) (oe : Obj) (pn : List (Addr × Obj)) : Cx := X.tr ((a, oe) :: pn) X.xe
def wKeep (K : PySem.W.Frag) (c : Value) (i j : Nat) (t1 : Addr → Value → Option Addr → TS) (Wout : WX) (D : Ends) : WX := fun cls d σ H =>
  ∃ b, PySem.W.exmOne K cls c = some b ∧ (b = true → ∀ a, H a = none → t1 a cls d D (((σ.set i (some (.ref a))).set j (some (.ref a))).set i none) H) ∧ (b = false → Wout cls d σ H)
section
variable {X : Cx} {x n y : Str} {c : Value} {i j : Nat} {body rest : List Stmt} {np np2 yp ap pos pos' : Pos} {tb : WX → TS} {t0 : TS} {t1 : Addr → Value → Option Addr → TS} {Wout : WX}
theorem SP.ofKept {pins : List (Addr × Obj)} {D : Ends} {a : Addr} {oe : Obj} {f : Flow} {s : Shared} (ok : X.Ok) (h : SP (kept X a oe (X.pn ++ pins)) [] D f s) : SP X pins D f s := by
  have un : ∀ {σ : L2.St} {H : Hp}, Inv (kept X a oe (X.pn ++ pins)) [] σ H s → Inv X pins σ H s := fun {σ H} I =>
    ⟨ok, I.os, I.bare, I.base, I.loc, I.cell, I.free, I.freeC, fun p hp => I.pin p (List.mem_append_left _ (List.mem_cons_of_mem _ hp)), I.hok, I.len⟩
  cases f with
  | next => obtain ⟨σ', H', I', q⟩ := h; exact ⟨σ', H', un I', q⟩
  | brk => obtain ⟨σ', H', I', q⟩ := h; exact ⟨σ', H', un I', q⟩
  | cont => obtain ⟨σ', H', I', q⟩ := h; exact ⟨σ', H', un I', q⟩
  | ret u => obtain ⟨v, σ', H', I', r, q⟩ := h; exact ⟨v, σ', H', un I', r, q⟩
theorem pss_try_keep (hs : X.stack = X.env :: X.outer) (hf : X.env.frame = some X.env.locals) (hN : X.N.Nodup) (hi : X.N[i]? = some n) (hln : X.env.kindOf n = some .local) (hj : X.N[j]? = some y) (hlj : L2.Loc X.env.scope y) (hfj : X.fn y = true ∨ X.env.scope.names.lookup y = some .local) (hij : i ≠ j) (hc : Names X x c) (tk : Takes X Wout)
    (hvi : ∀ (a : Addr) (oe : Obj) (pn : List (Addr × Obj)), PS (X.suite a ((a, oe) :: pn)) (.Assign [.Name y yp] (.Name n np2) ap) (tAsg (tVar i) (gName j)))
    (hb : ∀ (W : WX) (pn : List (Addr × Obj)) (xe : Value → Shared → Prop), Takes (X.tr pn xe) W → PassesOwn (model X.prog X.w) X.A X.env xe → PSs (X.tr pn xe) body (tb W))
    (h0 : PSs X rest t0)
    (h1 : ∀ (a : Addr) (oe : Obj) (cls : Value) (d : Option Addr) (pn : List (Addr × Obj)), Zc cls d oe → (∃ vs, oe.data = .fields vs) → PSs (kept X a oe pn) rest (t1 a cls d)) :
    PSs X (.Try body [.ExceptHandler (some (.Name x np)) (some n) [.Assign [.Name y yp] (.Name n np2) ap] pos'] [] [] pos :: rest) (fun D σ H => tb (wKeep X.K c i j t1 Wout D) { D with nx := t0 D } σ H) := by
  refine ⟨fun pins s σ H D I h => ?_⟩
  have ok := I.ok
  have hfr : X.A.frames = some (X.env :: X.outer) := by rw [ok.frames, hs]
  have hloc : L2.Loc X.env.scope n := .inl hln
  refine wpAny_execs_cons (wpAny_Try_except ?_)
  refine wpAny_mono ((hb (wKeep X.K c i j t1 Wout D) (X.pn ++ pins) (fun e s₁ => wpAny (model X.prog X.w) X.A (noteFrame e X.env) (fun _ s₂ => wpAny (model X.prog X.w) X.A (setFlight e none) (fun _ s₃ =>
    wpAny (model X.prog X.w) X.A (handleBy e X.env [.ExceptHandler (some (.Name x np)) (some n) [.Assign [.Name y yp] (.Name n np2) ap] pos']) (fun f s' => match f with
      | .next => wpAny (model X.prog X.w) X.A (execs rest X.env) (SP X pins D) X.xe s'
      | f => SP X pins D f s') X.xe s₃) X.xe s₂) X.xe s₁) (fun u s' xx => ?_) PassesOwn.looking).run [] s σ H { D with nx := t0 D } (I.toTry _) h) (fun f s1 hsp => ?_) (fun e s1 he => he)
  · -- the catch
    obtain ⟨a, B, sI, pins', σ', H', cls, d, rfl, J', nb, up, sky, na, os, ag, b, hb1, hyes, hno⟩ := xx
    have J : Inv X pins σ' H' sI := J'.ofTry ok
    have sky' : Sky B (X.env :: X.outer) a (Zc cls d) X.env.locals s'.heap := by rw [← hs]; exact sky
    show wpAny (model X.prog X.w) X.A (noteFrame (.ref a) X.env) _ _ _
    refine Sky.land Zc.steady hfr hf sky' fun h3 fl3 up3 => ?_
    have J3 : Inv X pins σ' H' { s' with heap := h3 } := J.landed nb fl3.1 (up.trans up3) os ag
    obtain ⟨oe3, vs3, he3, hz3, hd3⟩ := fl3.there
    have notFr : ∀ {h : Heap} {o : Obj} {vs : Array Value}, h.FunFrames B (X.env :: X.outer) → h.get? a = some o → o.data = .fields vs → a ∉ frs (X.env :: X.outer) := fun {h o vs} ff e dd hm => by
      obtain ⟨_, o', e', hnf⟩ := ff.mem hm
      rw [e] at e'; cases e'
      exact hnf _ dd
    have nfr := notFr fl3.2.2.1 he3 hd3
    have nL : a ≠ X.env.locals := fun z => nfr (List.mem_filterMap.mpr ⟨X.env, List.mem_cons_self, by rw [hf, z]⟩)
    have nF : a ∉ X.fs := fun hm => by
      obtain ⟨e, he, q⟩ := List.mem_filterMap.mp hm
      exact nfr (List.mem_filterMap.mpr ⟨e, List.mem_cons_of_mem _ he, q⟩)
    have S3 := J3.suite he3 hd3 na nL nF
    refine wpAny_handleBy_cons (codeAny_handlers_test ?_) (by intro q; cases q)
    have LT : PySem.W.Looks (model X.prog X.w) h3 (typeOf (.ref a)) cls := fun A Q E s k q => wpAny_typeOf_ref (k _ _ he3) (by rw [hz3.1]; exact q)
    have LM := PySem.W.exm_one (M := model X.prog X.w) (J3.kIn) LT hb1
    have test : ∀ {Q : Value → Shared → Prop} {E : Value → Shared → Prop}, Q c { s' with heap := h3 } → wpAny (model X.prog X.w) (X.A.mark (some (.ref a))) (eval (.Name x np) X.env) Q E { s' with heap := h3 } := fun {Q E} q => by
      obtain ⟨hg, hdbg, hm | ⟨hm, hv, hnn⟩⟩ := hc
      · exact ld_glob (X := X.suite a ((a, oe3) :: (X.pn ++ pins))) S3 hg hm q hdbg
      · exact ld_blt (X := X.suite a ((a, oe3) :: (X.pn ++ pins))) S3 hg hm hv q hnn hdbg
    refine test (LM.here ?_)
    cases b with
    | true =>
      refine codeAny_handlers_suite_as ?_
      refine HandSPX.lands_againZ fl3 fun h4 fl4 up4 => ?_
      have J4 : Inv X pins σ' H' { s' with heap := h4 } := J.landed nb fl4.1 ((up.trans up3).trans up4) os ag
      obtain ⟨oe4, vs4, he4, hz4, hd4⟩ := fl4.there
      have S4 := J4.suite he4 hd4 na nL nF
      refine store_ok (X := X.suite a ((a, oe4) :: (X.pn ++ pins))) (v := .ref a) S4 hN hi hloc rfl (fun s5 S5 => ?_) (.inr hln)
      have q1 := hyes rfl a na
      have run := (pss_one (hvi a oe4 (X.pn ++ pins))).run [] s5 _ H' { nx := fun σ6 H6 => t1 a cls d D (σ6.set i none) H6, rt := fun _ _ => False } S5 (by
        have hl : i < σ'.length := by
          rw [J.len]; exact (List.getElem?_eq_some_iff.mp hi).1
        refine ⟨.ref a, by rw [List.getElem?_set_self hl], ?_⟩
        exact q1)
      refine wpAny_mono run (fun f s6 hsp => ?_) (fun _ _ z => False.elim z)
      cases f with
      | next =>
        obtain ⟨σ6, H6, S6, q6⟩ := hsp
        have S7 : Inv (kept X a oe4 (X.pn ++ pins)) [] σ6 H6 s6 := ⟨ok.toTry _ _, S6.os, S6.bare, S6.base, S6.loc, S6.cell, S6.free, S6.freeC, S6.pin, S6.hok, S6.len⟩
        refine gone_ok (X := kept X a oe4 (X.pn ++ pins)) S7 hN hi hln fun s7 J7 => ?_
        exact wpAny_mono ((h1 a oe4 cls d (X.pn ++ pins) hz4 ⟨_, hd4⟩).run [] s7 _ H6 D J7 q6) (fun f s8 hsp => SP.ofKept ok hsp) (fun _ _ z => z)
      | brk => obtain ⟨σ6, H6, S6, q6⟩ := hsp; exact q6.elim
      | cont => obtain ⟨σ6, H6, S6, q6⟩ := hsp; exact q6.elim
      | ret u => obtain ⟨v6, σ6, H6, S6, r6, q6⟩ := hsp; exact q6.elim
    | false =>
      show wpAny _ X.A (handleBy (.ref a) X.env []) _ _ _
      refine wpAny_handleBy_nil ?_
      obtain ⟨k1, k2, k3, oe, vs, T, oT, ts', he, hz, hd, h1, hr⟩ := id fl3
      unfold PySem.passOn
      refine wpAny_bind (wpAny_field he hd h1 ?_)
      rw [if_neg (show ¬ ((Value.ref T == Value.none) = true) from by simp)]
      have fin : wpAny (model X.prog X.w) X.A (setFlight (.ref a) X.env.frame) (fun _ s4 => wpAny (model X.prog X.w) X.A (throw (.ref a) : Sem Flow) (fun f s' => match f with
      | .next => wpAny (model X.prog X.w) X.A (execs rest X.env) (SP X pins D) X.xe s'
      | f => SP X pins D f s') X.xe s4) X.xe { s' with heap := h3 } := by
        rw [hf]
        refine HandSPX.setFlight_upZ fl3 fun h4 hh4 up4 => wpAny_throw (tk _ _ ?_)
        exact ⟨a, B, sI, pins, σ', H', cls, d, rfl, J, nb, (up.trans up3).trans up4, .inr (.inr (by rw [hs]; exact hh4)), na, os, ag, hno rfl⟩
      first
        | exact wpAny_bind (wpAny_pure (wpAny_bind fin))
        | exact wpAny_bind fin
  · cases f with
    | next =>
      obtain ⟨σ', H', J', q⟩ := hsp
      exact wpAny_execs_nil (h0.run pins s1 σ' H' D (J'.ofTry ok) q)
    | brk =>
      obtain ⟨σ', H', J', q⟩ := hsp
      exact ⟨σ', H', J'.ofTry ok, q⟩
    | cont =>
      obtain ⟨σ', H', J', q⟩ := hsp
      exact ⟨σ', H', J'.ofTry ok, q⟩
    | ret u =>
      obtain ⟨v, σ', H', J', r, q⟩ := hsp
      exact ⟨v, σ', H', J'.ofTry ok, r, q⟩
end
end NW
namespace NW
open PySem PySem.Spec PyProof.Rows L2
def xdAt (d : Option Addr) (H : Hp) : Prop := match d with
  | none => True
  | some dd => ∃ fs, H dd = some (.xd fs)
section
variable {X : Cx} {a D : Addr} {oe : Obj} {pn : List (Addr × Obj)} {d : Option Addr}
theorem kept_inst {pins : List (Addr × Obj)} {s : Shared} {σ : L2.St} {H : Hp} (hz : Zc (.ref D) d oe) (hf : ∃ vs, oe.data = .fields vs) (I : Inv (kept X a oe pn) pins σ H s) (hd : xdAt d H) : ∃ od, PySem.W.InstAt s.heap a oe D od := by
  obtain ⟨hget, _⟩ := I.pin (a, oe) (List.mem_append.mpr (.inl List.mem_cons_self))
  obtain ⟨vs, hv⟩ := hf
  obtain ⟨oc, odt, oda, osl⟩ := oe
  obtain ⟨h1, h2⟩ := hz
  dsimp only at h1 h2 hv
  subst h1 h2 hv
  cases odt with
  | none => exact ⟨none, hget, rfl, rfl, trivial⟩
  | some dd =>
    obtain ⟨fs, hfs⟩ := hd
    obtain ⟨mA, hns, hr⟩ := (show ObjOk X.prog X.w H s.heap dd (.xd fs) from I.hok dd _ hfs)
    obtain ⟨od, ho, hl⟩ := lookIn_ns hns
    exact ⟨some od, hget, rfl, rfl, ho⟩
def rIsK (K : PySem.W.Frag) (D a : Addr) (d : Option Addr) : List V → Hp → VK → Prop := fun xs H Q => ∃ (c : V) (cv : Value) (b : Bool), xs = [.ref a, c] ∧ (∀ u, RelV c u → u = cv) ∧ PySem.W.kitOne K (.ref D) cv = some b ∧ xdAt d H ∧ Q (.bl b) H
theorem call_isK (C : ExcC X.K D) (hz : Zc (.ref D) d oe) (hf : ∃ vs, oe.data = .fields vs) : CallR (kept X a oe pn) (.builtin "isinstance") (rIsK X.K D a d) := by
  intro pins s σ H xs us Q I r h
  obtain ⟨c, cv, b, rfl, hcv, e, hd, q⟩ := h
  cases r with
  | cons rx rr =>
    cases rr with
    | cons rt rr =>
      cases rr
      cases rx
      have ec := hcv _ rt
      subst ec
      obtain ⟨od, J⟩ := kept_inst hz hf I hd
      obtain ⟨cd, hc, _⟩ := PySem.W.any_some C.hd
      exact PySem.W.kia_one (PySem.W.kitx_exc (od := od) (ox := oe) (by rw [hc]; rfl) C.hg C.hk C.hs C.ha C.hn C.ht C.hm) I.kIn J e (fun z => nomatch z) fun tk => ⟨.bl b, H, I.kept (t' := tk) fun _ _ z => z, rfl, q⟩
def rIsKT (K : PySem.W.Frag) (D a : Addr) (d : Option Addr) : List V → Hp → VK → Prop := fun xs H Q => ∃ (tp : Addr) (cs : List Addr) (b : Bool), xs = [.ref a, .ref tp] ∧ H tp = some (.tup (cs.map V.ref)) ∧ PySem.W.kitAny K (.ref D) (cs.map Value.ref) = some b ∧ xdAt d H ∧ Q (.bl b) H
theorem vals_ref : ∀ {cs : List Addr} {us : List Value}, Vals (cs.map V.ref) us → us = cs.map Value.ref
  | [], _, .nil => rfl
  | c :: cs, _, .cons r rs => by
    cases (show _ = Value.ref c from r)
    rw [vals_ref rs]
    rfl
theorem call_isKT (C : ExcC X.K D) (hz : Zc (.ref D) d oe) (hf : ∃ vs, oe.data = .fields vs) : CallR (kept X a oe pn) (.builtin "isinstance") (rIsKT X.K D a d) := by
  intro pins s σ H xs us Q I r h
  obtain ⟨tp, cs, b, rfl, hT, e, hd, q⟩ := h
  obtain ⟨u1, u2, rfl, r1, r2⟩ := vals2 r
  cases (show u1 = Value.ref a from r1)
  cases (show u2 = Value.ref tp from r2)
  obtain ⟨od, J⟩ := kept_inst hz hf I hd
  obtain ⟨cd, hc, _⟩ := PySem.W.any_some C.hd
  obtain ⟨_, its, rv, o, h1, h2, n, h3⟩ := (show ObjOk X.prog X.w H s.heap tp (.tup (cs.map V.ref)) from I.hok tp _ hT)
  have e3 := vals_ref rv
  subst e3
  obtain ⟨oc, odx, dt, sl⟩ := o
  simp only at h2 h3
  subst h2 h3
  exact PySem.W.kia_tup (PySem.W.kitx_exc (od := od) (ox := oe) (by rw [hc]; rfl) C.hg C.hk C.hs C.ha C.hn C.ht C.hm) I.kIn J h1 e (fun z => nomatch z) fun tk => ⟨.bl b, H, I.tok tk, rfl, q⟩
theorem pe_xfK {C : Addr} {cls : Value} {e : Expr} {te : TE} {pos : Pos} {n : Str} (T : XfC X.K C) (hno : PySem.W.findIn X.K (.ref C) n = some none)
    (hz : Zc cls d oe) (hf : ∃ vs, oe.data = .fields vs) (he : PE (kept X a oe pn) e te) (hb : attributeBase e n X.env (eval e X.env) = eval e X.env := by rfl) :
    PE (kept X a oe pn) (.Attribute e n pos) (tXf a cls d C n te) := by
  refine ⟨fun pins s σ H Q I h => ?_⟩
  refine attr_of hb (thn (he.run pins s σ H _ I h) fun u s1 hh => ?_)
  obtain ⟨x, H1, I1, rx, ex, ec, dd, fs, v, ed, ea, l, q⟩ := hh
  subst ex
  obtain rfl : u = Value.ref a := rx
  subst ec
  subst ed
  obtain ⟨ha, _⟩ := I1.pin (a, oe) (List.mem_append_left _ List.mem_cons_self)
  obtain ⟨vs, hd⟩ := hf
  have hx : ObjOk X.prog X.w H1 s1.heap dd (.xd fs) := I1.hok dd _ ea
  obtain ⟨mA, hns, hr⟩ := hx
  obtain ⟨od, ho, hl⟩ := lookIn_ns hns
  obtain ⟨u, hu, ru⟩ := RelO.some_of (v := v) (o := mA n) (by rw [← l]; exact hr n)
  have J : PySem.W.InstAt s1.heap a oe C (some od) := ⟨ha, hz.1, by unfold PySem.W.notCls; rw [hd] <;> rfl, by rw [hz.2]; exact ho⟩
  exact HandSPX.exc_get I1.kIn J T.ga T.gg T.exC (PySem.W.findObj_own T.hdC hno rfl (by rw [hl, hu])) (handed_of ru) ⟨v, H1, I1.tok _, ru, q⟩
end
end NW
namespace NW
open PySem PySem.Spec PyProof.Rows L2
def sTryO (sub : Str → Bool) (mb ms : MS) : MS := fun l st => match mb l st with
  | .ex e l' st' => if sub e.cls = true then ms l' st' else .no
  | o => o
def Gx.wc (G : Gx) (W : WX) (c : Str → Option Addr) : Gx := { G with W := W, cls := c }
section
variable {G : Gx} {W : WX} {c : Str → Option Addr} {β β' : List Addr} {st st' : Sto} {H H' : Hp} {σ : L2.St} {l : Loc}
theorem Fut.wc (f : Fut G β st H β' st' H') : Fut (G.wc W c) β st H β' st' H' := ⟨f.ext, f.there, f.stay⟩
theorem Fut.unwc (f : Fut (G.wc W c) β st H β' st' H') : Fut G β st H β' st' H' := ⟨f.ext, f.there, f.stay⟩
theorem Rl.wc (h : Rl G β H st) : Rl (G.wc W c) β H st := ⟨h.len, h.nodup, h.trk, h.oo, fun f e => ⟨⟨(h.flo f e).1.here, (h.flo f e).1.cl⟩, (h.flo f e).2⟩, h.o0⟩
theorem Rl.unwc (h : Rl (G.wc W c) β H st) : Rl G β H st := ⟨h.len, h.nodup, h.trk, h.oo, fun f e => ⟨⟨(h.flo f e).1.here, (h.flo f e).1.cl⟩, (h.flo f e).2⟩, h.o0⟩
theorem ru_wc {B : Addr → Prop} {v : V} {u : U} : RU (G.wc W c) β B H v u ↔ RU G β B H v u := by cases u <;> exact Iff.rfl
theorem Re.wc (h : Re G β H σ l st) : Re (G.wc W c) β H σ l st := ⟨h.rl.wc, ⟨h.lo.len, fun i u e => by
  obtain ⟨v, h1, h2⟩ := h.lo.at_ i u e
  exact ⟨v, h1, ru_wc.mpr h2⟩⟩⟩
theorem Re.unwc (h : Re (G.wc W c) β H σ l st) : Re G β H σ l st := ⟨h.rl.unwc, ⟨h.lo.len, fun i u e => by
  obtain ⟨v, h1, h2⟩ := h.lo.at_ i u e
  exact ⟨v, h1, ru_wc.mp h2⟩⟩⟩
end
section
variable {X : Cx} {e : Expr} {es : List Expr} {tA : TA} {mA : MA} {x y f : Str} {cv : Value} {np py p p2 p3 pos pos' : Pos} {b₀ : Stmt} {suite : List Stmt} {ts : TS} {ms : MS}
end
@[simp] theorem to_tryO {sub : Str → Bool} {mb ms : MS} {l : Loc} {st : Sto} {N : Loc → Sto → Prop} {R : U → Sto → Prop} (h : ∀ e l' s', mb l st ≠ .ex e l' s') : (sTryO sub mb ms l st).To N R ↔ (mb l st).To N R := by
  unfold sTryO
  split
  · rename_i e l' s' he; exact (h e l' s' he).elim
  · exact Iff.rfl
end NW
namespace NW
open PySem PySem.Spec PyProof.Rows L2
structure Exm (K : PySem.W.Frag) (mg : Str → Option Value) (x y : Str) : Prop where
  ex : ∃ C D, mg x = some (.ref C) ∧ mg y = some (.ref D) ∧ PySem.W.exmOne K (.ref C) (.ref D) = some true
theorem Exm.names {X : Cx} {x y : Str} (e : Exm X.K X.mg x y) (hg : Gl X y := by rfl) (hd : (y == ("__debug__" : Str)) = false := by decide) : Names X y (.ref (cA X.mg y)) := by
  obtain ⟨C, D, _, h, _⟩ := e.ex
  rw [cA_of h]
  exact ⟨hg, hd, .inl h⟩
theorem Exm.sub {K : PySem.W.Frag} {mg : Str → Option Value} {x y : Str} (e : Exm K mg x y) : ∀ z C, (z == x) = true → clsOf mg z = some C → PySem.W.exmOne K (.ref C) (.ref (cA mg y)) = some true := fun z C hz hC => by
  obtain ⟨C', D, h1, h2, h3⟩ := e.ex
  rw [eq_of_beq hz, clsOf_of h1] at hC
  cases hC
  rw [cA_of h2]
  exact h3
theorem cls1_mk {P : Program} {w : World} {K : PySem.W.Frag} {mg : Str → Option Value} {base : Heap} {x f : Str} {C fI : Addr} {fd : FuncData} {ps : List Str} (hm : mg x = some (.ref C)) (T : OexC K C) (iC : PySem.W.findIn K (.ref C) "__init__" = some (some (.ref fI))) (tI : PySem.W.typeIn K (.ref fI) = some (.type "function"))
    (F : FnOk P w K mg base CX0 1 fI fd ps (spInit K C f)) (hb : Binds K fd ps []) : Cls1 P w K mg base x f := ⟨C, fI, fd, ps, hm, T, iC, tI, F, hb⟩
def clsBody : Stmt → List Stmt
  | .ClassDef _ _ _ b _ _ _ _ _ _ _ => b
  | _ => []
structure Cls0 (K : PySem.W.Frag) (mg : Str → Option Value) (x : Str) : Prop where
  ex : ∃ (C : Addr), mg x = some (.ref C) ∧ PySem.W.excIn K C [.type "ValueError", .type "Exception", .type "BaseException", .type "object"] "ValueError.__new__" = true ∧ PySem.W.keepIn K (.ref C) = true ∧ PySem.W.subIn K (.ref C) (.type "BaseException") = some true ∧ PySem.W.typeIn K (.ref C) = some (.type "type")
section
variable {X : Cx} {W : WX} {pos p p2 : Pos} {x : Str}
end
end NW
namespace NW
open PySem PySem.Spec PyProof.Rows L2
def pLoop : List (Int × List Str) → Int → List Str → List Str → List (Int × List Str)
  | xs, s, ws, [] => xs ++ [(s, ws)]
  | xs, s, ws, p :: ps => if p = "+" ∨ p = "-" then pLoop (xs ++ [(s, ws)]) (if p = "-" then -1 else 1) [] ps else pLoop xs s (ws ++ [p]) ps
def partsOf (t : Str) : List (Int × List Str) := if Txt.startswith t "-" = true then pLoop [] (-1) [] (Txt.split (cutS t (some 1) none) " ") else pLoop [] 1 [] (Txt.split t " ")
def pD (x : Int × List Str) : PyData := .tuple [.int x.1, .list (x.2.map .str)]
noncomputable def m_parted : List PyData → Rp := fun ds => match ds with
  | [.str t] => if t.length ≤ 1000000 ∧ PyData.strOk t = true then .ok (.list ((partsOf t).map pD)) false else .no
  | _ => .no
structure Cel where
  t : Addr
  l : Addr
  s : Int
  ws : List Str
structure PH (H0 H : Hp) (p q : Addr) (parts : List Str) (cs : List Cel) : Prop where
  old : ∀ b o, H0 b = some o → H b = some o
  lst : H p = some (.lst (cs.map fun c => V.ref c.t))
  ok : ∀ c, c ∈ cs → H c.t = some (.tup [.int c.s, .ref c.l]) ∧ H c.l = some (.lst (c.ws.map V.str)) ∧ H0 c.t = none ∧ H0 c.l = none ∧ c.l ≠ p ∧ c.l ≠ q
  nd : (cs.map (·.l)).Nodup
  new : H0 p = none
  hq : H q = some (.lst (parts.map V.str))
  nq : q ≠ p
section
variable {H0 H : Hp} {p q : Addr} {parts : List Str} {cs : List Cel}
theorem PH.add (h : PH H0 H p q parts cs) {a : Addr} {o : HO} (ha : H a = none) : PH H0 (upd H a o) p q parts cs where
  old := fun b u e => by rw [upd_ne (ne_of_none (h.old b u e) ha)]; exact h.old b u e
  lst := by rw [upd_ne (ne_of_none h.lst ha)]; exact h.lst
  ok := fun c hc => by
    obtain ⟨h1, h2, h3⟩ := h.ok c hc
    exact ⟨by rw [upd_ne (ne_of_none h1 ha)]; exact h1, by rw [upd_ne (ne_of_none h2 ha)]; exact h2, h3⟩
  nd := h.nd
  new := h.new
  hq := by rw [upd_ne (ne_of_none h.hq ha)]; exact h.hq
  nq := h.nq
theorem PH.fresh (h : PH H0 H p q parts cs) {a : Addr} (ha : H a = none) : H0 a = none := by
  cases e : H0 a with
  | none => rfl
  | some o => rw [h.old a o e] at ha; cases ha
theorem PH.push (h : PH H0 H p q parts cs) {l t : Addr} {s : Int} (hl : H l = some (.lst [])) (ht : H t = some (.tup [.int s, .ref l])) (nl : H0 l = none) (nt : H0 t = none) (lp : l ≠ p) (lq : l ≠ q) (ln : l ∉ cs.map (·.l)) (tp : t ≠ p) :
    PH H0 (upd H p (.lst ((cs.map fun c => V.ref c.t) ++ [.ref t]))) p q parts (cs ++ [⟨t, l, s, []⟩]) where
  old := fun b u e => by rw [upd_ne (fun z => by rw [z, h.new] at e; cases e)]; exact h.old b u e
  lst := by rw [upd_same]; simp
  ok := fun c hc => by
    rcases List.mem_append.mp hc with hc | hc
    · obtain ⟨h1, h2, h3, h4, h5, h6⟩ := h.ok c hc
      have tp' : c.t ≠ p := fun z => by rw [z, h.lst] at h1; cases h1
      exact ⟨by rw [upd_ne tp']; exact h1, by rw [upd_ne h5]; exact h2, h3, h4, h5, h6⟩
    · have : c = ⟨t, l, s, []⟩ := by simpa using hc
      subst this
      exact ⟨by rw [upd_ne tp]; exact ht, by rw [upd_ne lp]; exact hl, nt, nl, lp, lq⟩
  nd := by
    rw [List.map_append, List.nodup_append]
    refine ⟨h.nd, by simp, fun a ha b hb e => ?_⟩
    have : b = l := by simpa using hb
    subst e this
    exact ln ha
  new := h.new
  hq := by rw [upd_ne h.nq]; exact h.hq
  nq := h.nq
theorem PH.grow {c : Cel} (h : PH H0 H p q parts (cs ++ [c])) (w : Str) : PH H0 (upd H c.l (.lst (c.ws.map V.str ++ [.str w]))) p q parts (cs ++ [⟨c.t, c.l, c.s, c.ws ++ [w]⟩]) where
  old := fun b u e => by
    have n := (h.ok c (by simp)).2.2.2.1
    rw [upd_ne (fun z => by rw [z, n] at e; cases e)]; exact h.old b u e
  lst := by
    have n := (h.ok c (by simp)).2.2.2.2.1
    rw [upd_ne (Ne.symm n), h.lst]
    simp
  ok := fun d hd => by
    obtain ⟨k1, k2, k3, k4, k5, k6⟩ := h.ok c (by simp)
    have nt : ∀ {a : Addr} {xs : List V}, H a = some (.tup xs) → a ≠ c.l := fun e z => by rw [z, k2] at e; cases e
    rcases List.mem_append.mp hd with hd | hd
    · obtain ⟨h1, h2, h3, h4, h5, h6⟩ := h.ok d (List.mem_append_left _ hd)
      have ne : d.l ≠ c.l := fun z => by
        have := h.nd
        rw [List.map_append, List.nodup_append] at this
        exact this.2.2 d.l (List.mem_map.mpr ⟨d, hd, rfl⟩) c.l (by simp) z
      exact ⟨by rw [upd_ne (nt h1)]; exact h1, by rw [upd_ne ne]; exact h2, h3, h4, h5, h6⟩
    · have : d = ⟨c.t, c.l, c.s, c.ws ++ [w]⟩ := by simpa using hd
      subst this
      exact ⟨by rw [upd_ne (nt k1)]; exact k1, by rw [upd_same]; simp, k3, k4, k5, k6⟩
  nd := by simpa using h.nd
  new := h.new
  hq := by
    have n := (h.ok c (by simp)).2.2.2.2.2
    rw [upd_ne (Ne.symm n)]; exact h.hq
  nq := h.nq
end
def tNeg1 : TE := tUn (rU fun i => .int (-i)) (tC (.int 1))
def tPair (te : TE) : TE := tTup (tCons te (tCons (tLst tNil) tNil))
def tPLoop (K : PySem.W.Frag) : TS := tIfS (tTest (tOp (rIn K false) (tVar 2) (tTup (tCons (tC (.str "+")) (tCons (tC (.str "-")) tNil)))))
  (tDrop (tBM K "list" rAppend (tVar 1) (tCons (tPair (tOp (rIx K) (tLst (tCons (tC (.int 1)) (tCons tNeg1 tNil))) (tCB (fun xs H Q => (∃ i, xs = [.int i] ∧ Q (.int i) H) ∨ ∃ k, xs = [.bl k] ∧ Q (.int (if k then 1 else 0)) H) (tCons (tOp (rEqD K) (tVar 2) (tC (.str "-"))) tNil)))) tNil)))
  (tDrop (tBM K "list" rAppend (tOp (rIx K) (tOp (rIx K) (tVar 1) tNeg1) (tC (.int 1))) (tCons (tVar 2) tNil)))
def tParted (K : PySem.W.Frag) : TS := tSeq (tAsg (tLst (tCons (tPair (tC (.int 1))) tNil)) (gName 1))
  (tSeq (tIfS (fun σ H Q => tM1 rStarts (tVar 0) (tC (.str "-")) σ H fun x H' => ∃ k, TruV K x H' k ∧ Q k H')
    (tSeq (tAsg (tLst (tCons (tPair tNeg1) tNil)) (gName 1)) (tAsg (tSl (rSlAny K) (tVar 0) (tPart (tC (.int 1))) tNoPart) (gName 0))) tNext)
  (tSeq (tFor (iAny K (tM1 rSplit (tVar 0) (tC (.str " ")))) (gName 2) (tPLoop K)) (tRet (tVar 1))))
theorem str_sh {x : Str} (h : PyData.strOk x = true) : SeqAt.shaped (.str x) = true := by
  unfold SeqAt.shaped
  rw [show (PyData.str x).canLay0 = true from h]
  simp [PyData.depth]
theorem ploop_read {K : PySem.W.Frag} {H0 : Hp} {p q : Addr} {parts : List Str} (hp : ∀ w, w ∈ parts → PyData.strOk w = true) (hn : parts.length ≤ 2000000) {tx : V} {s0 : Int} {H : Hp} {cs : List Cel} {xs : List (Int × List Str)} {s : Int} {ws : List Str} {i : Nat} {w : Str} (hi : parts[i]? = some w)
    (h : PH H0 H p q parts cs) (hc : cs.map (fun c => (c.s, c.ws)) = xs ++ [(s, ws)]) (hl : cs.length ≤ i + 1 ∧ ws.length ≤ i) (e : pLoop xs s ws (parts.drop i) = pLoop [] s0 [] parts) {D : Ends}
    (fin : ∀ H' cs' xs' s' ws', PH H0 H' p q parts cs' → cs'.map (fun c => (c.s, c.ws)) = xs' ++ [(s', ws')] → cs'.length ≤ i + 2 ∧ ws'.length ≤ i + 1 → pLoop xs' s' ws' (parts.drop (i + 1)) = pLoop [] s0 [] parts → D.nx [some tx, some (.ref p), some (.str w)] H') :
    tPLoop K D [some tx, some (.ref p), some (.str w)] H := by
  have hi' := (List.getElem?_eq_some_iff.mp hi).1
  have hw : w ∈ parts := List.mem_of_getElem? hi
  have ed : parts.drop i = w :: parts.drop (i + 1) := by
    rw [List.drop_eq_getElem_cons hi', (List.getElem?_eq_some_iff.mp hi).2]
  rw [ed, pLoop] at e
  have s2 : (2 : Nat) ≤ sizeLine := by rw [sizeLine_eq]; omega
  have s0' : (0 : Nat) ≤ sizeLine := Nat.zero_le _
  have two : ∀ {a b : V}, [a, b].length ≤ sizeLine := s2
  refine ⟨_, rfl, two, fun pt hpt => ?_⟩
  have h1 := h.add (o := .tup [.str "+", .str "-"]) hpt
  refine ⟨pt, _, rfl, .inr (SqT.of upd_same), rfl, rfl, _, rfl, ?_⟩
  have eb : inV (.str w) [.str "+", .str "-"] = decide (w = "+" ∨ w = "-") := by
    have e1 : (("+" : Str) == w) = decide (w = "+") := by
      rw [Bool.eq_iff_iff, beq_iff_eq, decide_eq_true_iff]; exact eq_comm
    have e2 : (("-" : Str) == w) = decide (w = "-") := by
      rw [Bool.eq_iff_iff, beq_iff_eq, decide_eq_true_iff]; exact eq_comm
    simp only [inV, List.any_cons, List.any_nil, eqV, Bool.or_false]
    rw [e1, e2]
    simp
  show (if (if false = true then _ else inV (.str w) [.str "+", .str "-"]) = true then _ else _)
  rw [if_neg (by decide : ¬ (false = true)), eb]
  obtain ⟨cs0, c, rfl⟩ : ∃ cs0 c, cs = cs0 ++ [c] := by
    rcases List.eq_nil_or_concat cs with rfl | ⟨l, b, h⟩
    · simp at hc
    · exact ⟨l, b, by rw [h]; simp⟩
  have hcc : cs0.map (fun c => (c.s, c.ws)) = xs ∧ c.s = s ∧ c.ws = ws := by
    rw [List.map_append] at hc
    obtain ⟨e1, e2⟩ := List.append_inj' hc rfl
    simp at e2
    exact ⟨e1, e2.1, e2.2⟩
  obtain ⟨c1, rfl, rfl⟩ := hcc
  by_cases hb : w = "+" ∨ w = "-"
  · rw [if_pos (by simpa using hb)]
    rw [if_pos hb] at e
    refine ⟨_, rfl, .inl ⟨rfl, _, SqL.of h1.lst⟩, 1, rfl, two, fun l1 hl1 => ?_⟩
    have h2 := h1.add (o := .lst [.int 1, .int (-1)]) hl1
    refine ⟨_, rfl, .str w, .str "-", .str _, .str _, str_sh (hp w hw), str_sh (by decide +kernel), ?_⟩
    refine .inr ⟨_, rfl, .inl ⟨l1, [.int 1, .int (-1)], _, .int (if w = "-" then -1 else 1), rfl, rfl, SqL.of upd_same, ?_, ?_⟩⟩
    · have ew : PyData.eqv (.str w) (.str "-") = decide (w = "-") := by
        by_cases z : w = "-"
        · subst z; simp [PyData.eqv]
        · simp [PyData.eqv, z]
      rw [ew]
      by_cases z : w = "-" <;> simp [z] <;> rfl
    · refine ⟨s0', fun l2 hl2 => ?_⟩
      have h3 := h2.add (o := .lst []) hl2
      refine ⟨two, fun t2 ht2 => ?_⟩
      have h4 := h3.add (o := .tup [.int (if w = "-" then -1 else 1), .ref l2]) ht2
      have n2 : l2 ≠ t2 := fun z => by rw [← z, upd_same] at ht2; cases ht2
      refine ⟨p, _, _, rfl, rfl, h4.lst, ?_, ?_⟩
      · rw [sizeLine_eq]; simp at hl ⊢; omega
      · have lnot : ∀ d, d ∈ cs0 ++ [c] → d.l ≠ l2 := fun d hd z => by
          have := (h2.ok d hd).2.1
          rw [z, hl2] at this; cases this
        have h5 := h4.push (l := l2) (t := t2) (s := if w = "-" then -1 else 1) (by rw [upd_ne n2, upd_same]) upd_same (h2.fresh hl2) (h3.fresh ht2) (fun z => by have := h2.lst; rw [← z, hl2] at this; cases this) (fun z => by have := h2.hq; rw [← z, hl2] at this; cases this)
          (fun z => by obtain ⟨d, hd, e⟩ := List.mem_map.mp z; exact lnot d hd e) (fun z => by have := h3.lst; rw [← z, ht2] at this; cases this)
        refine fin _ _ (xs ++ [(c.s, c.ws)]) (if w = "-" then -1 else 1) [] h5 ?_ ?_ e
        · simp [c1]
        · simp at hl ⊢; omega
  · rw [if_neg (by simpa using hb)]
    rw [if_neg hb] at e
    obtain ⟨k1, k2, k3, k4, k5, k6⟩ := h1.ok c (by simp)
    refine ⟨_, rfl, 1, rfl, .inl ⟨p, _, -1, .ref c.t, rfl, rfl, SqL.of h1.lst, ?_, ?_⟩⟩
    · rw [List.map_append]; exact atI_last _ _
    · refine .inr (.inl ⟨c.t, _, 1, .ref c.l, rfl, rfl, SqT.of k1, rfl, ?_⟩)
      refine ⟨.inl ⟨rfl, _, SqL.of k2⟩, _, rfl, c.l, _, _, rfl, rfl, k2, ?_, ?_⟩
      · rw [sizeLine_eq, List.length_map]; omega
      · have h5 := h1.grow w
        refine fin _ _ xs c.s (c.ws ++ [w]) h5 ?_ ?_ e
        · simp [c1]
        · simp at hl ⊢; omega
end NW
namespace NW
open PySem PySem.Spec PyProof.Rows L2
theorem spl_mem {S : List Nat} {c : Nat} : ∀ {l : List Nat} {k : Nat} {acc p : List Nat}, p ∈ TL.spl S k acc l → c ∈ p → c ∈ acc ∨ c ∈ l := by
  intro l
  induction l with
  | nil => intro k acc p hp hc; rw [TL.spl_nil] at hp; have : p = acc := by simpa using hp
           subst this; exact .inl hc
  | cons d l ih =>
    intro k acc p hp hc
    cases k with
    | succ k =>
      have hp' : p ∈ TL.spl S k acc l := hp
      exact (ih hp' hc).imp id fun h => List.mem_cons_of_mem _ h
    | zero =>
      by_cases h : TL.pre S (d :: l) = true
      · rw [TL.spl_hit h] at hp
        rcases List.mem_cons.mp hp with rfl | hp
        · exact .inl hc
        · rcases ih hp hc with h | h
          · simp at h
          · exact .inr (List.mem_cons_of_mem _ h)
      · rw [TL.spl_miss (eq_false_of_ne_true h)] at hp
        rcases ih hp hc with h | h
        · rcases List.mem_append.mp h with h | h
          · exact .inl h
          · exact .inr (by simp at h; simp [h])
        · exact .inr (List.mem_cons_of_mem _ h)
theorem spl_len {S : List Nat} : ∀ {l : List Nat} {k : Nat} {acc : List Nat}, (TL.spl S k acc l).length ≤ l.length + 1 := by
  intro l
  induction l with
  | nil => intro k acc; rw [TL.spl_nil]; simp
  | cons d l ih =>
    intro k acc
    cases k with
    | succ k =>
      have : (TL.spl S k acc l).length ≤ l.length + 1 := ih
      show (TL.spl S k acc l).length ≤ _
      simp; omega
    | zero =>
      by_cases h : TL.pre S (d :: l) = true
      · rw [TL.spl_hit h]
        have := ih (k := S.length - 1) (acc := [])
        simp; omega
      · rw [TL.spl_miss (eq_false_of_ne_true h)]
        have := ih (k := 0) (acc := acc ++ [d])
        simp; omega
theorem blank_ne : TL.tl (" " : Str) ≠ [] := by decide +kernel
theorem split_map (x : Str) : (Txt.split x " ").map TL.tl = TL.spl (TL.tl (" " : Str)) 0 [] (TL.tl x) := TL.split_spl x " " blank_ne (TL.kind_ok (by decide +kernel))
theorem strOk_iff {x : Str} : PyData.strOk x = true ↔ ∀ c, c ∈ TL.tl x → c < 0x110000 := by
  unfold PyData.strOk TL.tl
  rw [← Array.all_toList, List.all_eq_true]
  exact ⟨fun h c hc => of_decide_eq_true (h c hc), fun h c hc => decide_eq_true (h c hc)⟩
theorem split_ok {x : Str} (h : PyData.strOk x = true) : ∀ w, w ∈ Txt.split x " " → PyData.strOk w = true := fun w hw => by
  have hm : TL.tl w ∈ TL.spl (TL.tl (" " : Str)) 0 [] (TL.tl x) := by rw [← split_map]; exact List.mem_map.mpr ⟨w, hw, rfl⟩
  rw [strOk_iff] at h ⊢
  intro c hc
  rcases spl_mem hm hc with z | z
  · simp at z
  · exact h c z
theorem split_len (x : Str) : (Txt.split x " ").length ≤ x.length + 1 := by
  have := congrArg List.length (split_map x)
  rw [List.length_map] at this
  rw [this]
  exact spl_len
theorem cut_ok {x : Str} (h : PyData.strOk x = true) {a b : Option Int} : PyData.strOk (cutS x a b) = true := by
  rw [strOk_iff] at h ⊢
  intro c hc
  unfold TL.tl cutS at hc
  exact h c (List.mem_of_mem_drop (List.mem_of_mem_take hc))
theorem PH.init {H0 H1 : Hp} {l t p q : Addr} {s : Int} {parts : List Str} (old : ∀ b o, H0 b = some o → H1 b = some o) (hl : H1 l = none) (ht : upd H1 l (.lst []) t = none) (hp : upd (upd H1 l (.lst [])) t (.tup [.int s, .ref l]) p = none)
    (hq : upd (upd (upd H1 l (.lst [])) t (.tup [.int s, .ref l])) p (.lst [.ref t]) q = none) :
    PH H0 (upd (upd (upd (upd H1 l (.lst [])) t (.tup [.int s, .ref l])) p (.lst [.ref t])) q (.lst (parts.map V.str))) p q parts [⟨t, l, s, []⟩] := by
  have lt : l ≠ t := fun z => by rw [← z, upd_same] at ht; cases ht
  have tp : t ≠ p := fun z => by rw [← z, upd_same] at hp; cases hp
  have lp : l ≠ p := fun z => by rw [← z, upd_ne lt, upd_same] at hp; cases hp
  have pq : p ≠ q := fun z => by rw [← z, upd_same] at hq; cases hq
  have tq : t ≠ q := fun z => by rw [← z, upd_ne tp, upd_same] at hq; cases hq
  have lq : l ≠ q := fun z => by rw [← z, upd_ne lp, upd_ne lt, upd_same] at hq; cases hq
  have n0 : ∀ {a : Addr}, H1 a = none → H0 a = none := fun {a} e => by
    cases e0 : H0 a with
    | none => rfl
    | some o => rw [old a o e0] at e; cases e
  have t1 : H1 t = none := by rw [upd_ne (Ne.symm lt)] at ht; exact ht
  have p1 : H1 p = none := by rw [upd_ne (Ne.symm tp), upd_ne (Ne.symm lp)] at hp; exact hp
  have q1 : H1 q = none := by rw [upd_ne (Ne.symm pq), upd_ne (Ne.symm tq), upd_ne (Ne.symm lq)] at hq; exact hq
  refine ⟨fun b o e => ?_, ?_, fun c hc => ?_, by simp, n0 p1, upd_same, Ne.symm pq⟩
  · have e1 := old b o e
    have ne : ∀ {a : Addr}, H1 a = none → b ≠ a := fun ha z => by rw [z, ha] at e1; cases e1
    rw [upd_ne (ne q1), upd_ne (ne p1), upd_ne (ne t1), upd_ne (ne hl)]
    exact e1
  · rw [upd_ne pq, upd_same]; rfl
  · have : c = ⟨t, l, s, []⟩ := by simpa using hc
    subst this
    refine ⟨?_, ?_, n0 t1, n0 hl, lp, lq⟩
    · rw [upd_ne tq, upd_ne tp, upd_same]
    · rw [upd_ne lq, upd_ne lp, upd_ne lt, upd_same]; rfl
theorem parted_loop {K : PySem.W.Frag} {H0 H1 : Hp} {O0 : Addr → Prop} {l t p : Addr} {s : Int} {tx : Str} {v : Option V} {Q : VK} (hO : NoTup H0 O0) (hx : tx.length ≤ 1000000) (ho : PyData.strOk tx = true) (old : ∀ b o, H0 b = some o → H1 b = some o) (hl : H1 l = none) (ht : upd H1 l (.lst []) t = none) (hp : upd (upd H1 l (.lst [])) t (.tup [.int s, .ref l]) p = none)
    (fin : ∀ H', (∀ b o, H0 b = some o → H' b = some o) → RT K O0 H' (.ref p) (.list ((pLoop [] s [] (Txt.split tx " ")).map pD)) → Q (.ref p) H') :
    tSeq (tFor (iAny K (tM1 rSplit (tVar 0) (tC (.str " ")))) (gName 2) (tPLoop K)) (tRet (tVar 1)) { nx := fun _ H' => Q .non H', rt := Q } [some (.str tx), some (.ref p), v] (upd (upd (upd H1 l (.lst [])) t (.tup [.int s, .ref l])) p (.lst [.ref t])) := by
  have sl := split_len tx
  refine ⟨_, rfl, ⟨_, rfl⟩, tx, " ", rfl, rfl, by decide +kernel, by rw [sizeLine_eq]; omega, fun q hq => ?_⟩
  refine ⟨q, rfl, .inl ⟨⟨_, SqL.of upd_same⟩, ?_⟩⟩
  have h0 := PH.init (parts := Txt.split tx " ") old hl ht hp hq
  refine for_list (K := K) (a := q) (xs := (Txt.split tx " ").map V.str) (fun i σ H => ∃ cs xs s' ws v, PH H0 H p q (Txt.split tx " ") cs ∧ cs.map (fun c => (c.s, c.ws)) = xs ++ [(s', ws)] ∧ (cs.length ≤ i + 1 ∧ ws.length ≤ i) ∧ pLoop xs s' ws ((Txt.split tx " ").drop i) = pLoop [] s [] (Txt.split tx " ") ∧ σ = [some (.str tx), some (.ref p), v])
    ⟨_, [], s, [], v, h0, rfl, ⟨by simp, by simp⟩, rfl, rfl⟩ (fun i σ H _ ⟨cs, xs, s', ws, v, h, _⟩ => SqL.of h.hq) ?_ ?_
  · rintro i y σ H hi ⟨cs, xs, s', ws, v, h, hc, hl', e, rfl⟩
    obtain ⟨w, hw, rfl⟩ : ∃ w, (Txt.split tx " ")[i]? = some w ∧ y = V.str w := by
      rw [List.getElem?_map] at hi
      cases e2 : (Txt.split tx " ")[i]? with
      | none => rw [e2] at hi; cases hi
      | some w => rw [e2] at hi; exact ⟨w, rfl, (Option.some.inj hi).symm⟩
    exact ploop_read (split_ok ho) (by omega) hw h hc hl' e fun H' cs' xs' s2 ws' h' hc' hl2 e' => ⟨cs', xs', s2, ws', _, h', hc', by omega, e', rfl⟩
  · rintro σ H ⟨cs, xs, s', ws, v, h, hc, hl', e, rfl⟩
    rw [List.length_map] at e
    rw [List.drop_length, pLoop, ← hc] at e
    refine ⟨_, rfl, fin H h.old ?_⟩
    rw [← e, List.map_map]
    have nO : ∀ {a : Addr}, H0 a = none → ¬ O0 a := fun e z => (hO _ z).1 e
    refine .lst ⟨h.lst, nO h.new⟩ ?_
    have key : ∀ (ds : List Cel), (∀ c, c ∈ ds → c ∈ cs) → RTs K O0 H (ds.map fun c => V.ref c.t) (ds.map (pD ∘ fun c => (c.s, c.ws))) := by
      intro ds
      induction ds with
      | nil => intro _; exact .nil
      | cons c ds ih =>
        intro hm
        obtain ⟨k1, k2, k3, k4, k5, k6⟩ := h.ok c (hm c (by simp))
        exact .cons (.tup (.inl ⟨.inl k1, nO k3⟩) (.cons (.int _) (.cons (.lst ⟨k2, nO k4⟩ (rts_strs _)) .nil))) (ih fun d hd => hm d (by simp [hd]))
    exact key cs fun c h => h
theorem parted_read {K : PySem.W.Frag} {n0 n1 n2 : Str} {vs : List V} {H : Hp} {Q : VK} {E : XK} (h : spP K 1 m_parted vs H Q E) : tParted K { nx := fun _ H' => Q .non H', rt := Q } (L2.start [n0, n1, n2] vs) H := by
  obtain ⟨O0, ds, d, fr, hO, r, hl, e, q⟩ := h
  unfold m_parted at e
  split at e
  · rename_i t
    split at e
    · rename_i hc
      cases e
      cases r with
      | cons r1 r2 =>
        cases r2
        cases r1
        have one : ∀ {a : V}, [a].length ≤ sizeLine := fun {a} => by rw [sizeLine_eq]; exact (by decide : 1 ≤ 16777216)
        have two : ∀ {a b : V}, [a, b].length ≤ sizeLine := fun {a b} => by rw [sizeLine_eq]; exact (by decide : 2 ≤ 16777216)
        refine ⟨Nat.zero_le _, fun l hl1 => ⟨two, fun tt htt => ⟨one, fun p hp => ?_⟩⟩⟩
        refine ⟨_, rfl, ⟨_, rfl⟩, _, _, rfl, rfl, _, rfl, ?_⟩
        by_cases hs : Txt.startswith t "-" = true
        · rw [hs]
          have old : ∀ b o, H b = some o → upd (upd (upd H l (.lst [])) tt (.tup [.int 1, .ref l])) p (.lst [.ref tt]) b = some o := fun b o e => by
            have e2 : upd H l (.lst []) b = some o := by rw [upd_ne (ne_of_none e hl1)]; exact e
            have e3 : upd (upd H l (.lst [])) tt (.tup [.int 1, .ref l]) b = some o := by rw [upd_ne (ne_of_none e2 htt)]; exact e2
            rw [upd_ne (ne_of_none e3 hp)]
            exact e3
          show tSeq (tAsg (tLst (tCons (tPair tNeg1) tNil)) (gName 1)) (tAsg (tSl (rSlAny K) (tVar 0) (tPart (tC (.int 1))) tNoPart) (gName 0)) _ _ _
          refine ⟨1, rfl, Nat.zero_le _, fun l2 hl2 => ⟨two, fun t2 ht2 => ⟨one, fun p2 hp2 => ?_⟩⟩⟩
          refine ⟨_, rfl, 1, rfl, .inr ⟨t, rfl, by rw [sizeLine_eq]; omega, ?_⟩⟩
          have cl := cutS_length t (some 1) none
          have := parted_loop (K := K) (H0 := H) (O0 := O0) (s := -1) (tx := cutS t (some 1) none) (v := none) (Q := Q) hO (by omega) (cut_ok hc.2) old hl2 ht2 hp2 fun H' k r => q _ H' k (by
            have e : partsOf t = pLoop [] (-1) [] (Txt.split (cutS t (some 1) none) " ") := by unfold partsOf; rw [if_pos hs]
            rw [e]; exact r) (fun z => by cases z)
          exact this
        · have hs' : Txt.startswith t "-" = false := eq_false_of_ne_true hs
          rw [hs']
          have := parted_loop (K := K) (H0 := H) (O0 := O0) (s := 1) (tx := t) (v := none) (Q := Q) hO hc.1 hc.2 (fun _ _ e => e) hl1 htt hp fun H' k r => q _ H' k (by
            have e : partsOf t = pLoop [] 1 [] (Txt.split t " ") := by unfold partsOf; rw [if_neg hs]
            rw [e]; exact r) (fun z => by cases z)
          exact this
    · cases e
  · cases e
end NW
namespace NW
open PySem PySem.Spec PyProof.Rows L2
def eOrT (a b : ME) : ME := fun l st => (a l st).bind fun u st => match truD st u with
  | some k => if k = true then .ok u st else b l st
  | none => .no
section
variable {X : Cx} {a b : Expr} {es : List Expr} {ta tb : TE} {ma mb : ME} {pos : Pos}
end
@[simp] theorem to_eOrT {a b : ME} {l : Loc} {st : Sto} {Q : U → Sto → Prop} : (eOrT a b l st).To Q ↔ (a l st).To fun u s => ∃ c, truD s u = some c ∧ if c = true then Q u s else (b l s).To Q := by
  unfold eOrT
  rw [to_bind]
  refine iff_of_eq (congrArg _ (funext fun u => funext fun s => propext ?_))
  cases truD s u with
  | none => simp
  | some c => cases c <;> simp
end NW
namespace NW
open PySem PySem.Spec PyProof.Rows L2
section
variable {X : Cx} {e : Expr} {es : List Expr} {tA : TA} {mA : MA} {x y f nm fld : Str} {cv : Value} {C : Addr} {np py p p2 p3 ap ap2 np2 pos pos' : Pos}
end
structure ExAt (K : PySem.W.Frag) (mg : Str → Option Value) (x fld : Str) : Prop where
  ex : ∃ C, mg x = some (.ref C) ∧ XfC K C ∧ PySem.W.findIn K (.ref C) fld = some none ∧ PySem.W.exmOne K (.ref C) (.ref C) = some true
section
variable {K : PySem.W.Frag} {mg : Str → Option Value} {x fld : Str}
theorem ExAt.names {X : Cx} {x fld : Str} (e : ExAt X.K X.mg x fld) (hg : Gl X x := by rfl) (hd : (x == ("__debug__" : Str)) = false := by decide) : Names X x (.ref (cA X.mg x)) := by
  obtain ⟨C, h, _⟩ := e.ex
  rw [cA_of h]
  exact ⟨hg, hd, .inl h⟩
theorem ExAt.T (e : ExAt K mg x fld) : XfC K (cA mg x) := by
  obtain ⟨C, h, t, _⟩ := e.ex
  rw [cA_of h]
  exact t
theorem ExAt.no (e : ExAt K mg x fld) : PySem.W.findIn K (.ref (cA mg x)) fld = some none := by
  obtain ⟨C, h, _, t, _⟩ := e.ex
  rw [cA_of h]
  exact t
theorem ExAt.sub (e : ExAt K mg x fld) : ∀ z D, (z == x) = true → clsOf mg z = some D → D = cA mg x ∧ PySem.W.exmOne K (.ref D) (.ref (cA mg x)) = some true := fun z D hz hD => by
  obtain ⟨C, h, _, _, t⟩ := e.ex
  rw [eq_of_beq hz, clsOf_of h] at hD
  cases hD
  rw [cA_of h]
  exact ⟨rfl, t⟩
end
end NW
namespace NW
open PySem PySem.Spec PyProof.Rows L2
def tCallLS (i : Nat) (f : Addr) (sp : Sp) (E : L2.St → XK) (t : TA) : TE := fun σ H Q => σ[i]? = some (some (.ref f)) ∧ t σ H fun vs H1 => sp vs H1 Q (E σ)
section
variable {X : Cx} {CX : CXT} {k i : Nat} {f : Addr} {fd : FuncData} {ps : List Str} {sp : Sp} {E : L2.St → XK} {x : Str} {p pos : Pos} {e : Expr} {es : List Expr} {t : TA}
theorem pe_callLS (F : FnOk X.prog X.w X.K X.mg X.base CX k f fd ps sp) (hr : Room k X.A) (hN : X.N[i]? = some x) (hv : Vis X.env.scope x) (hk : PySem.W.keepIn X.K (.ref f) = true) (hb : Binds X.K fd ps []) (hx : ∀ σ, PassesAt CX X σ (E σ)) (ha : PA X (e :: es) t)
    (hdb : (x == ("__debug__" : Str)) = false := by decide) (hcd : (x == ("__classdict__" : Str)) = false := by decide)
    (he : starEach (e :: es) X.env = (false, eval e X.env) :: starEach es X.env := by rfl) (hpl : (backTo pos (starEach es X.env)).any (·.1) = false := by rfl) : PE X (.Call (.Name x p) (e :: es) [] pos) (tCallLS i f sp E t) := by
  refine ⟨fun pins s σ H Q I h => ?_⟩
  obtain ⟨hs, ht⟩ := h
  refine wpAny_Call_Name_kw (thn ((pe_var (pos := p) hN hv hdb hcd).run pins s σ H (fun v H1 => v = .ref f ∧ H1 = H) I ⟨.ref f, hs, rfl, rfl⟩) fun u s1 ⟨v, H1, I1, r1, q1⟩ => ?_)
  obtain ⟨rfl, rfl⟩ := q1
  cases r1
  refine PySem.W.callWith_K (h₀ := X.base) I.ok.mod.kin hk (thn (ha.run pos pins s1 σ _ _ I1 ht) fun us s2 ⟨vs, H2, I2, r, q⟩ => ⟨I2.kIn, ?_⟩) he hpl
  exact run_fnS F hr hb (hx σ) I2 r q
theorem pss_no {ss : List Stmt} : PSs X ss (fun _ _ _ => False) := ⟨fun _ _ _ _ _ _ h => h.elim⟩
end
def rIsKK (K : PySem.W.Frag) (cls : Value) (a : Addr) (d : Option Addr) : List V → Hp → VK → Prop := fun xs H Q => ∃ D, cls = .ref D ∧ ExcC K D ∧ rIsK K D a d xs H Q
def rIsKKT (K : PySem.W.Frag) (cls : Value) (a : Addr) (d : Option Addr) : List V → Hp → VK → Prop := fun xs H Q => ∃ D, cls = .ref D ∧ ExcC K D ∧ rIsKT K D a d xs H Q
section
variable {X : Cx} {a : Addr} {cls : Value} {oe : Obj} {pn : List (Addr × Obj)} {d : Option Addr}
theorem call_isKK (hz : Zc cls d oe) (hf : ∃ vs, oe.data = .fields vs) : CallR (kept X a oe pn) (.builtin "isinstance") (rIsKK X.K cls a d) := by
  intro pins s σ H xs us Q I r h
  obtain ⟨D, rfl, C, h⟩ := h
  exact call_isK C hz hf pins s σ H xs us Q I r h
theorem call_isKKT (hz : Zc cls d oe) (hf : ∃ vs, oe.data = .fields vs) : CallR (kept X a oe pn) (.builtin "isinstance") (rIsKKT X.K cls a d) := by
  intro pins s σ H xs us Q I r h
  obtain ⟨D, rfl, C, h⟩ := h
  exact call_isKT C hz hf pins s σ H xs us Q I r h
end
structure AskK (K : PySem.W.Frag) (mg : Str → Option Value) : Prop where
  ex : ∃ B N NN NR TG TW : Addr, mg "BadText" = some (.ref B) ∧ mg "NestError" = some (.ref N) ∧ mg "NoName" = some (.ref NN) ∧ mg "NoRow" = some (.ref NR) ∧ mg "TooGreat" = some (.ref TG) ∧ mg "Twice" = some (.ref TW) ∧
    ExcC K B ∧ XfC K B ∧ PySem.W.findIn K (.ref B) "at" = some none ∧ PySem.W.exmOne K (.ref B) (.ref N) = some true ∧ PySem.W.kitOne K (.ref B) (.type "ValueError") = some true ∧
    PySem.W.kitOne K (.ref B) (.ref NN) = some false ∧ PySem.W.kitOne K (.ref B) (.ref NR) = some false ∧ PySem.W.kitOne K (.ref B) (.ref TG) = some false ∧ PySem.W.kitOne K (.ref B) (.ref TW) = some false
theorem kit_ref {K : PySem.W.Frag} {C : Addr} {t : Value} {b : Bool} (hd : PySem.W.hasDictIn K C = true) (tc : PySem.W.typeIn K (.ref C) = some (.type "type")) (s : PySem.W.subIn K t (.ref C) = some b) (ne : t ≠ .ref C) : PySem.W.kitOne K t (.ref C) = some b := by
  obtain ⟨cd, hc, _⟩ := PySem.W.any_some hd
  have e2 : ((PySem.W.clsIn K C).isSome && PySem.W.typeIn K (.ref C) == some (.type "type")) = true := by rw [hc, tc] <;> rfl
  unfold PySem.W.kitOne
  rw [if_neg (by simpa using ne)]
  show (if ((PySem.W.clsIn K C).isSome && PySem.W.typeIn K (.ref C) == some (.type "type")) = true then PySem.W.subIn K t (.ref C) else none) = some b
  rw [if_pos e2]
  exact s
theorem kit_self {K : PySem.W.Frag} {t : Value} : PySem.W.kitOne K t t = some true := by
  unfold PySem.W.kitOne
  rw [if_pos (by simp)]
theorem kit_typ {K : PySem.W.Frag} {C : Addr} {b : Bool} (s : PySem.W.subIn K (.ref C) (.type "ValueError") = some b) : PySem.W.kitOne K (.ref C) (.type "ValueError") = some b := by
  unfold PySem.W.kitOne
  rw [if_neg (by simp)]
  show (if PySem.W.kitMeta "ValueError" = true then PySem.W.subIn K (.ref C) (.type "ValueError") else none) = some b
  rw [if_pos (by decide +kernel)]
  exact s
def tIsk (K : PySem.W.Frag) (cls : Value) (a : Addr) (d : Option Addr) (j : Nat) (c : V) : TT := fun σ H Q => tCB (rIsKK K cls a d) (tCons (tVar j) (tCons (tC c) tNil)) σ H fun x H' => ∃ k, TruV K x H' k ∧ Q k H'
def tIskT (K : PySem.W.Frag) (cls : Value) (a : Addr) (d : Option Addr) (j : Nat) (cs : TA) : TT := fun σ H Q => tCB (rIsKKT K cls a d) (tCons (tVar j) (tCons (tTup cs) tNil)) σ H fun x H' => ∃ k, TruV K x H' k ∧ Q k H'
theorem isk_true {K : PySem.W.Frag} {D a : Addr} {d : Option Addr} {j : Nat} {c : V} {cv : Value} {b : Bool} {σ : L2.St} {H : Hp} {Q : Bool → Hp → Prop} (hσ : σ[j]? = some (some (.ref a))) (C : ExcC K D) (hc : ∀ u, RelV c u → u = cv) (hk : PySem.W.kitOne K (.ref D) cv = some b) (hd : xdAt d H) (q : Q b H) : tIsk K (.ref D) a d j c σ H Q :=
  ⟨.ref a, hσ, D, rfl, C, c, cv, b, rfl, hc, hk, hd, b, rfl, q⟩
theorem xdAt_grow {d : Option Addr} {H H' : Hp} (k : ∀ b o, H b = some o → H' b = some o) (h : xdAt d H) : xdAt d H' := by
  cases d with
  | none => trivial
  | some dd => obtain ⟨fs, e⟩ := h; exact ⟨fs, k _ _ e⟩
theorem upd_grow {H : Hp} {p : Addr} {o : HO} (hp : H p = none) : ∀ b u, H b = some u → upd H p o b = some u := fun b u e => by rw [upd_ne (ne_of_none e hp)]; exact e
theorem kitAny_no {K : PySem.W.Frag} {t : Value} : ∀ {cs : List Value}, (∀ c, c ∈ cs → PySem.W.kitOne K t c = some false) → PySem.W.kitAny K t cs = some false
  | [], _ => rfl
  | c :: cs, h => by
    unfold PySem.W.kitAny
    rw [h c (by simp)]
    exact kitAny_no fun x hx => h x (by simp [hx])
theorem iskT_no {K : PySem.W.Frag} {D a : Addr} {d : Option Addr} {j : Nat} {cs : List Addr} {ta : TA} {σ : L2.St} {H : Hp} {Q : Bool → Hp → Prop} (hσ : σ[j]? = some (some (.ref a))) (C : ExcC K D) (hta : ∀ k, k (cs.map V.ref) H → ta σ H k) (hl : cs.length ≤ sizeLine) (hk : ∀ c, c ∈ cs → PySem.W.kitOne K (.ref D) (.ref c) = some false) (hd : xdAt d H) (q : ∀ H', (∀ b o, H b = some o → H' b = some o) → Q false H') : tIskT K (.ref D) a d j ta σ H Q := by
  refine ⟨.ref a, hσ, ?_⟩
  refine hta _ ⟨by simpa using hl, fun p hp => ?_⟩
  refine ⟨D, rfl, C, p, cs, false, rfl, by rw [upd_same], kitAny_no (fun c hc => ?_), xdAt_grow (upd_grow hp) hd, false, rfl, q _ (upd_grow hp)⟩
  obtain ⟨x, hx, rfl⟩ := List.mem_map.mp hc
  exact hk x hx
def tAskRest (K : PySem.W.Frag) (B : Addr) (cls : Value) (a : Addr) (d : Option Addr) (c1 c2 : V) (cs : TA) : TS :=
  tSeq (tIfS (tOr (tNot (tIsk K cls a d 2 c1)) (tNot (tIsk K cls a d 2 c2))) (tRet (tTup (tCons (tC (.str "other")) tNil))) tNext)
    (tSeq (tIfS (tIskT K cls a d 2 cs) (tRet (tTup (tCons (tC (.str "other")) tNil))) tNext) (tRet (tTup (tCons (tC (.str "refused")) (tCons (tXf a cls d B "at" (tVar 2)) tNil)))))
def tAsked (K : PySem.W.Frag) (mg : Str → Option Value) (N B f : Addr) (m : List PyData → Rp) (c1 c2 : V) (cs : TA) : TS :=
  tSeq (tAsg (tC .non) (gName 2)) fun D σ H => tRet (tCallLS 0 f (spX K mg 1 m) (WE (wKeep K (.ref N) 3 2 (fun a cls d => tAskRest K B cls a d c1 c2 cs) (fun _ _ _ _ => False) D)) (tCons (tVar 1) tNil)) { D with nx := fun _ _ => False } σ H
def askedOf (m : List PyData → Rp) (ds : List PyData) : Rp := match m ds with
  | .ok d _ => .ok d false
  | .ex e => (match e.fs with
    | [(g, w)] => if e.cls = "BadText" ∧ g = "at" then .ok (.tuple [.str "refused", w]) false else .no
    | _ => .no)
  | .no => .no
def spWay (K : PySem.W.Frag) (mg : Str → Option Value) (x : Str) (m : List PyData → Rp) : Sp := fun vs H Q E => ∃ f vs', mg x = some (.ref f) ∧ vs = .ref f :: vs' ∧ spP K 1 m vs' H Q E
theorem asked_read {K : PySem.W.Frag} {mg : Str → Option Value} {x : Str} {m : List PyData → Rp} {n0 n1 n2 n3 : Str} {vs : List V} {H : Hp} {Q : VK} {E : XK} {B N NN NR TG TW f : Addr} (hx : mg x = some (.ref f)) (hB : mg "BadText" = some (.ref B)) (C : ExcC K B)
    (hN : PySem.W.exmOne K (.ref B) (.ref N) = some true) (hV : PySem.W.kitOne K (.ref B) (.type "ValueError") = some true) (h1 : PySem.W.kitOne K (.ref B) (.ref NN) = some false) (h2 : PySem.W.kitOne K (.ref B) (.ref NR) = some false) (h3 : PySem.W.kitOne K (.ref B) (.ref TG) = some false) (h4 : PySem.W.kitOne K (.ref B) (.ref TW) = some false)
    (h : spWay K mg x (askedOf m) vs H Q E) : tAsked K mg N B f m (.ref B) (.ty "ValueError") (tCons (tC (.ref NN)) (tCons (tC (.ref NR)) (tCons (tC (.ref TG)) (tCons (tC (.ref TW)) tNil)))) { nx := fun _ H' => Q .non H', rt := Q } (L2.start [n0, n1, n2, n3] vs) H := by
  obtain ⟨f', vs', hf, rfl, O0, ds, d, fr, hO, r, hl, e, q⟩ := h
  rw [hx] at hf
  cases hf
  cases r with
  | nil => cases hl
  | cons r1 r2 =>
  cases r2 with
  | cons _ _ => cases hl
  | nil =>
  rename_i v d1
  refine ⟨rfl, v, rfl, ?_⟩
  refine ⟨O0, [d1], hO, .cons r1 .nil, rfl, ?_⟩
  unfold askedOf at e
  cases em : m [d1] with
  | no => rw [em] at e; cases e
  | ok d2 fr2 =>
    rw [em] at e
    cases e
    intro v' H' k rt _
    exact q v' H' k rt (fun z => by cases z)
  | ex x =>
    rw [em] at e
    obtain ⟨cl, fs⟩ := x
    dsimp only at e
    split at e
    · rename_i _ g w
      split at e
      · rename_i hc
        obtain ⟨hc1, hc2⟩ := hc
        subst hc1 hc2
        cases e
        intro cv dx H' k hx'
        obtain ⟨D, hD, rfl, dd, xs, rfl, hdd, hnb, hk, hr⟩ := hx'
        have hD' : clsOf mg "BadText" = some D := hD
        rw [clsOf_of hB] at hD'
        cases hD'
        obtain ⟨u, rfl, ru⟩ : ∃ u, xs = [(("at" : Str), u)] ∧ RT K O0 H' u w := by
          match xs, hk, hr with
          | [(a, b)], hk, hr =>
            simp at hk
            cases hr with
            | cons r1 _ => exact ⟨b, by rw [hk], r1⟩
        refine ⟨true, hN, fun _ a ha => ?_, fun z => by cases z⟩
        have hxd : xdAt (some dd) H' := ⟨_, hdd⟩
        have hσ : ∀ σ : L2.St, σ = ((([some (V.ref f), some v, some V.non, none] : L2.St).set 3 (some (.ref a))).set 2 (some (.ref a))).set 3 none → σ[2]? = some (some (.ref a)) := fun σ e => by rw [e]; rfl
        show tAskRest K B (.ref B) a (some dd) _ _ _ _ (((([some (V.ref f), some v, some V.non, none] : L2.St).set 3 (some (.ref a))).set 2 (some (.ref a))).set 3 none) H'
        generalize hS : (((([some (V.ref f), some v, some V.non, none] : L2.St).set 3 (some (.ref a))).set 2 (some (.ref a))).set 3 none) = σ
        have hs := hσ σ hS.symm
        refine isk_true (b := true) hs C (fun u hu => hu) kit_self hxd ?_
        refine isk_true (b := true) hs C (fun u hu => hu) hV hxd ?_
        refine iskT_no (cs := [NN, NR, TG, TW]) hs C (fun k hk => hk) (by rw [sizeLine_eq]; exact (by decide : 4 ≤ 16777216)) (fun c hc => ?_) hxd fun H2 g2 => ?_
        · simp at hc
          rcases hc with rfl | rfl | rfl | rfl <;> assumption
        · refine ⟨.ref a, hs, rfl, rfl, dd, _, u, rfl, g2 _ _ hdd, rfl, by rw [sizeLine_eq]; exact (by decide : 2 ≤ 16777216), fun p hp => ?_⟩
          have g3 : ∀ b o, H' b = some o → upd H2 p (.tup [.str "refused", u]) b = some o := fun b o e => upd_grow hp b o (g2 b o e)
          have np : ¬ O0 p := fun z => by
            have := (hO p z).1
            cases e0 : H p with
            | none => exact this e0
            | some o => rw [g2 _ _ (k _ _ e0)] at hp; cases hp
          refine q _ _ (fun b o e => g3 b o (k b o e)) (.tup (.inl ⟨.inl upd_same, np⟩) (.cons (.str _) (.cons (RT.mono (fun b o e n => ⟨g3 b o e, n⟩) _ _ ru) .nil))) (fun z => by cases z)
      · cases e
    · cases e
theorem s_callW {G : Gx} {mg : Str → Option Value} {x : Str} {f : Addr} {m : List PyData → Rp} {ta : TA} {a : MA} {E : XK} (hx : mg x = some (.ref f)) (ha : SimA G ta a) : SimE G (tCall (spWay G.K mg x m) [] E (tCons (tC (.ref f)) ta)) (eCallP 1 m a) := fun β H σ l st re Q h => by
  refine ha β H σ l st re _ (wpR_bind h fun vs us H1 β1 st1 f1 rl1 p1 h1 => ?_)
  show spWay G.K mg x m ((V.ref f :: vs) ++ []) H1 Q E
  rw [List.append_nil]
  refine ⟨f, vs, hx, rfl, ?_⟩
  unfold fCallP at h1
  split at h1
  · rename_i ds e
    split at h1
    · rename_i hk
      split at h1
      · rename_i d fr e2
        split at h1
        · rename_i hc
          by_cases hr : us.any isRef = false
          · refine ⟨Ban G β1 st1, ds, d, fr, rl1.noTupB, ctrees_r p1 e hr, hk, e2, fun v H' kk rt _ => ?_⟩
            obtain ⟨f2, rl2⟩ := rl1.grown kk
            exact h1 v H' β1 f2 rl2 rt
          · have hr' : us.any isRef = true := by simpa using hr
            rw [hr'] at hc
            refine ⟨fun _ => False, ds, d, fr, fun p h => h.elim, ctrees_0 rl1 (fun p z => z.elim) p1 e, hk, e2, fun v H' kk rt _ => ?_⟩
            obtain ⟨f2, rl2⟩ := rl1.grown kk
            exact h1 v H' β1 f2 rl2 (RT.noLst (fun p ws z => rl2.tupB z) _ _ (by simpa using hc) rt)
        · exact h1.elim
      · exact h1.elim
    · exact h1.elim
  · exact h1.elim
section
variable {X : Cx} {e : Expr} {es : List Expr} {tA : TA} {mA : MA} {p p2 pos : Pos}
theorem q_calW {k j : Nat} {ps : List Str} {m : List PyData → Rp} {x y : Str} {f : Addr} (C : Cal X.prog X.w X.K X.mg X.base k x ps (spWay X.K X.mg y m)) (hf : X.mg y = some (.ref f)) (hr : Room j X.A) (hkj : k ≤ j) (ha : QA X (e :: es) tA mA) (hg : Gl X x := by rfl) (hdb : (x == ("__debug__" : Str)) = false := by decide)
    (hgy : Gl X y := by rfl) (hdy : (y == ("__debug__" : Str)) = false := by decide)
    (he : starEach (.Name y p2 :: e :: es) X.env = (false, eval (.Name y p2) X.env) :: starEach (e :: es) X.env := by rfl) (hpl : (backTo pos (starEach (e :: es) X.env)).any (·.1) = false := by rfl) (h2 : starEach (.Name y p2 :: e :: es) X.env = (false, eval (.Name y p2) X.env) :: starEach (e :: es) X.env := by rfl) :
    QE X (.Call (.Name x p) (.Name y p2 :: e :: es) [] pos) (tCall (spWay X.K X.mg y m) [] E0 (tCons (tC (.ref f)) tA)) (eCallP 1 m mA) := by
  obtain ⟨g, fd, F, hm, hk, hb⟩ := C.ex
  exact ⟨pe_call F (hr.mono hkj) hg hm hk hb .nil pass0 (pa_cons (pe_glob hgy hf rfl hdy) ha.pa h2) hdb he hpl, fun G hG => hG ▸ s_callW hf (ha.sim G hG)⟩
end
theorem CalX.at {P : Program} {w : World} {K : PySem.W.Frag} {mg : Str → Option Value} {base : Heap} {k : Nat} {x : Str} {ps : List Str} {sp : Sp} (C : CalX P w K mg base k x ps sp) : mg x = some (.ref (cA mg x)) := by
  obtain ⟨f, fd, _, hm, _⟩ := C.ex
  rw [cA_of hm]
  exact hm
def lSplit (o a : ME) : ML := fun l st => (o l st).bind fun u st => if isStr u = true then (a l st).bind fun w st => (match u, w with
  | .d (.str x), .d (.str y) => if (y.length == 0) = false ∧ x.length + 2 ≤ 16777216 then .ok (splitD x y) st else .no
  | _, _ => .no) else .no
theorem n_split {G : Gx} {to te : TE} {o a : ME} (ho : SimE G to o) (ha : SimE G te a) : SimN G (tM1 rSplit to te) (lSplit o a) := fun β H σ l st re Q h => by
  refine ho β H σ l st re _ (wpN_bind h fun v u H1 β1 st1 f1 rl1 p1 h1 => ?_)
  split at h1
  · rename_i hu
    have re1 := f1.re rl1 re
    have hs : ∃ z, v = .str z := by
      unfold isStr at hu
      split at hu
      · exact ⟨_, ru_str p1⟩
      · cases hu
    refine ⟨hs, ha β1 H1 σ l st1 re1 _ (wpN_bind h1 fun w u2 H2 β2 st2 f2 rl2 p2 h2 => ?_)⟩
    split at h2
    · split at h2
      · rename_i hk
        cases ru_str (f2.ru p1); cases ru_str p2
        refine ⟨_, _, rfl, rfl, hk.1, by rw [sizeLine_eq]; exact hk.2, fun p hp => ?_⟩
        exact h2 H2 β2 Fut.refl rl2 p _ hp (rts_strs _)
      · exact h2.elim
    · exact h2.elim
  · exact h1.elim
theorem qn_split {X : Cx} {o e : Expr} {to te : TE} {mo me : ME} {apos pos : Pos} (ho : QE X o to mo) (he : QE X e te me) (hs : starEach [e] X.env = [(false, eval e X.env)] := by rfl) (hbase : attributeBase o "split" X.env (eval o X.env) = eval o X.env := by rfl) (hline : (apos.endLine == pos.line) = true := by rfl) :
    QN X (.Call (.Attribute o "split" apos) [e] [] pos) (tM1 rSplit to te) (lSplit mo me) := ⟨pe_split ho.pe he.pe hs hbase hline, fun G h => n_split (ho.sim G h) (he.sim G h)⟩
@[simp] theorem to_lSplit {o a : ME} {l : Loc} {st : Sto} {Q : List PyData → Sto → Prop} : (lSplit o a l st).To Q ↔ (o l st).To fun u s => isStr u = true ∧ (a l s).To fun w s => ∃ x y, u = .d (.str x) ∧ w = .d (.str y) ∧ ((y.length == 0) = false ∧ x.length + 2 ≤ 16777216) ∧ Q (splitD x y) s := by
  unfold lSplit
  rw [to_bind]
  refine iff_of_eq (congrArg _ (funext fun u => funext fun s => propext ?_))
  by_cases hu : isStr u = true
  · rw [if_pos hu, to_bind]
    refine Iff.trans ?_ ⟨fun h => ⟨hu, h⟩, fun h => h.2⟩
    refine iff_of_eq (congrArg _ (funext fun w => funext fun s => propext ?_))
    constructor
    · intro h
      split at h
      · split at h
        · rename_i hk
          exact ⟨_, _, rfl, rfl, hk, h⟩
        · exact h.elim
      · exact h.elim
    · rintro ⟨x, y, rfl, rfl, hk, h⟩
      show (if (y.length == 0) = false ∧ x.length + 2 ≤ 16777216 then Res.ok (splitD x y) s else .no).To Q
      rw [if_pos hk]
      exact h
  · rw [if_neg hu]
    exact ⟨fun h => h.elim, fun h => absurd h.1 hu⟩
end NW
namespace NW
open PySem PySem.Spec PyProof.Rows L2 LiI
noncomputable def b_common_part : MS :=
    (sSeq (sWhile (bTest (eOp (opEq true) (eVar 1) (eC (.int 0))))
    (sPar 0 1 (aCons (eVar 1) (aCons (eOp fMod (eVar 0) (eVar 1)) aNil))))
    (sRet (eCB cAbs (aCons (eVar 0) aNil))))
@[irreducible] noncomputable def m_common_part : List PyData → Rp := pureOf 2 b_common_part
noncomputable def b_fraction : MS :=
    (sSeq (sAsg 2 (eCallP 2 m_common_part (aCons (eVar 0) (aCons (eVar 1) aNil))))
    (sSeq (sIf (bTest (eOp fLt (eVar 1) (eC (.int 0))))
    (sAsg 2 (eOp fSub (eC (.int 0)) (eVar 2)))
    sNext)
    (sRet (eTup (aCons (eOp fDiv (eVar 0) (eVar 2)) (aCons (eOp fDiv (eVar 1) (eVar 2)) aNil))))))
@[irreducible] noncomputable def m_fraction : List PyData → Rp := pureOf 3 b_fraction
noncomputable def b_L_flow : MS :=
    (sRet (eOwn (lDisp (aCons (eFrz (lCB cListOf (aCons (eVar 0) aNil))) (aCons (eC (.int 0)) (aCons (eC (.int 0)) (aCons (eC (.int 1)) (aCons (eC (.int 0)) aNil))))))))
noncomputable def b_L_pick : MS :=
    (sSeq (sIf (bAnd (bTest (eOp (opEq false) (eOp fIx (eVar 0) (eC (.int 2))) (eC (.int 0)))) (bTest (eOp fLt (eOp fIx (eVar 0) (eC (.int 1))) (eCB cLen (aCons (eOp fIx (eVar 0) (eC (.int 0))) aNil)))))
    (sSeq (sAsg 2 (eOp fIx (eOp fIx (eVar 0) (eC (.int 0))) (eOp fIx (eVar 0) (eC (.int 1)))))
    (sSeq (sAsgG (eOp fAddA (eOp fIx (eVar 0) (eC (.int 1))) (eC (.int 1))) (gSubM (eVar 0) (eC (.int 1))))
    (sIf (bTest (eOp fGe (eVar 2) (eOp fPow (eC (.int 10)) (eC (.int 18)))))
    (sAsgG (eVar 2) (gSubM (eVar 0) (eC (.int 2))))
    (sAsgG (eOp fMod (eOp fAddA (eOp fAddA (eOp fMulA (eOp fIx (eVar 0) (eC (.int 3))) (eC (.int 40013))) (eOp fMod (eVar 2) (eC (.int 1000003)))) (eC (.int 1))) (eC (.int 2147483647))) (gSubM (eVar 0) (eC (.int 3)))))))
    sNext)
    (sSeq (sIf (bTest (eOp fGt (eOp fIx (eVar 0) (eC (.int 2))) (eC (.int 0))))
    (sSeq (sAsg 3 (eOp fMod (eOp fIx (eVar 0) (eC (.int 2))) (eVar 1)))
    (sSeq (sAsgG (eOp fDiv (eOp fIx (eVar 0) (eC (.int 2))) (eVar 1)) (gSubM (eVar 0) (eC (.int 2))))
    (sRet (eVar 3))))
    sNext)
    (sSeq (sAsgG (eOp fAddA (eOp fIx (eVar 0) (eC (.int 4))) (eC (.int 1))) (gSubM (eVar 0) (eC (.int 4))))
    (sSeq (sAsgG (eOp fMod (eOp fAddA (eOp fAddA (eOp fMulA (eOp fIx (eVar 0) (eC (.int 3))) (eC (.int 48271))) (eC (.int 12820163))) (eOp fIx (eVar 0) (eC (.int 4)))) (eC (.int 2147483647))) (gSubM (eVar 0) (eC (.int 3))))
    (sRet (eOp fMod (eOp fDiv (eOp fMod (eOp fMulA (eOp fAddA (eOp fMod (eOp fIx (eVar 0) (eC (.int 3))) (eC (.int 65521))) (eC (.int 1))) (eOp fAddA (eOp fDiv (eOp fIx (eVar 0) (eC (.int 3))) (eC (.int 65521))) (eC (.int 7919)))) (eC (.int 1000003))) (eC (.int 7))) (eVar 1)))))))
@[irreducible] noncomputable def m_L_pick : List PyData → Fl → Rf := flowOf 4 b_L_pick
noncomputable def b_L_common : MS :=
    (sSeq (sWhile (bTest (eOp (opEq true) (eVar 1) (eC (.int 0))))
    (sPar 0 1 (aCons (eVar 1) (aCons (eOp fMod (eVar 0) (eVar 1)) aNil))))
    (sRet (eCB cAbs (aCons (eVar 0) aNil))))
@[irreducible] noncomputable def m_L_common : List PyData → Rp := pureOf 2 b_L_common
noncomputable def b_L_alike (mm : List PyData → Rp) : MS :=
    (sSeq (sIf (bTru (eIsiT (eVar 1) ["list", "tuple"]))
    (sSeq (sIf (bTest (eOp (opEq true) (eIsi (eVar 0) "list") (eIsi (eVar 1) "list")))
    (sRet (eC (.bool false)))
    sNext)
    (sSeq (sIf (bTest (eOp (opEq true) (eIsi (eVar 0) "tuple") (eIsi (eVar 1) "tuple")))
    (sRet (eC (.bool false)))
    sNext)
    (sRet (eAndV (eOp (opEq false) (eCB cLen (aCons (eVar 0) aNil)) (eCB cLen (aCons (eVar 1) aNil))) (eCB cAll (aCons (eFrz (lLc (mR1 (aCons (eCB cLen (aCons (eVar 1) aNil)) aNil)) (([(("_law_k" : Str), 2)] : List (Str × Nat)).map (·.2)) (gNameM 2) bYes (eCallP 2 mm (aCons (eOp fIx (eVar 0) (eVar 2)) (aCons (eOp fIx (eVar 1) (eVar 2)) aNil))))) aNil))))))
    sNext)
    (sRet (eAndV (eOp (opEq false) (eIsi (eVar 0) "bool") (eIsi (eVar 1) "bool")) (eOp (opEq false) (eVar 0) (eVar 1)))))
noncomputable def r_L_alike : Nat → List PyData → Rp
  | 0 => fun _ => .no
  | n + 1 => pureOf 3 (b_L_alike (r_L_alike n))
@[irreducible] noncomputable def m_L_alike (n : Nat) : List PyData → Rp := r_L_alike n
theorem z_L_alike : m_L_alike 0 = fun _ => .no := by unfold m_L_alike; rfl
theorem s_L_alike {n : Nat} : m_L_alike (n + 1) = pureOf 3 (b_L_alike (m_L_alike n)) := by unfold m_L_alike; rfl
noncomputable def b_L_fraction : MS :=
    (sSeq (sAsg 2 (eCallP 2 m_L_common (aCons (eVar 0) (aCons (eVar 1) aNil))))
    (sSeq (sIf (bTest (eOp fLt (eVar 1) (eC (.int 0))))
    (sAsg 2 (eOp fSub (eC (.int 0)) (eVar 2)))
    sNext)
    (sRet (eTup (aCons (eOp fDiv (eVar 0) (eVar 2)) (aCons (eOp fDiv (eVar 1) (eVar 2)) aNil))))))
@[irreducible] noncomputable def m_L_fraction : List PyData → Rp := pureOf 3 b_L_fraction
noncomputable def b_over : MS :=
    (sSeq (sAsg 2 (eCB cLen (aCons (eVar 0) aNil)))
    (sSeq (sWhile (bAnd (bTest (eOp fGt (eVar 2) (eC (.int 0)))) (bTest (eOp (opEq false) (eOp fIx (eVar 0) (eOp fSub (eVar 2) (eC (.int 1)))) (eC (.int 0)))))
    (sAsg 2 (eOp fSub (eVar 2) (eC (.int 1)))))
    (sSeq (sAsg 3 (eVar 1))
    (sSeq (sFor (mAny (eSlAny (eVar 0) oNone (oSome (eVar 2)))) (gNameM 4)
    (sAsg 3 (eCallP 2 m_common_part (aCons (eVar 3) (aCons (eVar 4) aNil)))))
    (sRet (eTup (aCons (eCB cTupOf (aCons (eFrz (lLc (mAny (eSlAny (eVar 0) oNone (oSome (eVar 2)))) (([(("top" : Str), 4)] : List (Str × Nat)).map (·.2)) (gNameM 4) bYes (eOp fDiv (eVar 4) (eVar 3)))) aNil)) (aCons (eOp fDiv (eVar 1) (eVar 3)) aNil))))))))
@[irreducible] noncomputable def m_over : List PyData → Rp := pureOf 5 b_over
noncomputable def b_poly : MS :=
    (sSeq (sAsg 1 (eC (.int 1)))
    (sSeq (sFor (mAny (eVar 0)) (gTupM 2 (gConsM (gNameM 2) (gConsM (gNameM 3) gNilM)))
    (sAsg 1 (eOp fDiv (eOp fMulA (eVar 1) (eVar 3)) (eCallP 2 m_common_part (aCons (eVar 1) (aCons (eVar 3) aNil))))))
    (sRet (eCallP 2 m_over (aCons (eFrz (lLc (mAny (eVar 0)) (([(("top" : Str), 2), (("own" : Str), 3)] : List (Str × Nat)).map (·.2)) (gTupM 2 (gConsM (gNameM 2) (gConsM (gNameM 3) gNilM))) bYes (eOp fMulA (eVar 2) (eOp fDiv (eVar 1) (eVar 3))))) (aCons (eVar 1) aNil))))))
@[irreducible] noncomputable def m_poly : List PyData → Rp := pureOf 4 b_poly
noncomputable def b_fraction_at : MS :=
    (sSeq (sIf (bTest (eOp fGe (eVar 1) (eCB cLen (aCons (eOp fIx (eVar 0) (eC (.int 0))) aNil))))
    (sRet (eTup (aCons (eC (.int 0)) (aCons (eC (.int 1)) aNil))))
    sNext)
    (sRet (eCallP 2 m_fraction (aCons (eOp fIx (eOp fIx (eVar 0) (eC (.int 0))) (eVar 1)) (aCons (eOp fIx (eVar 0) (eC (.int 1))) aNil)))))
@[irreducible] noncomputable def m_fraction_at : List PyData → Rp := pureOf 2 b_fraction_at
noncomputable def b_L_poly : MS :=
    (sSeq (sAsg 0 (eOwn (lCB cListOf (aCons (eVar 0) aNil))))
    (sSeq (sWhile (bAnd (bTest (eOp fGt (eCB cLen (aCons (eVar 0) aNil)) (eC (.int 0)))) (bTest (eOp (opEq false) (eOp fIx (eVar 0) (eC (.int (-1)))) (eC (.int 0)))))
    (sDrop (eMethL mPop (eVar 0) aNil)))
    (sSeq (sAsg 2 (eVar 1))
    (sSeq (sFor (mAny (eVar 0)) (gNameM 3)
    (sAsg 2 (eCallP 2 m_L_common (aCons (eVar 2) (aCons (eVar 3) aNil)))))
    (sRet (eTup (aCons (eCB cTupOf (aCons (eFrz (lLc (mAny (eVar 0)) (([(("_law_top" : Str), 3)] : List (Str × Nat)).map (·.2)) (gNameM 3) bYes (eOp fDiv (eVar 3) (eVar 2)))) aNil)) (aCons (eOp fDiv (eVar 1) (eVar 2)) aNil))))))))
@[irreducible] noncomputable def m_L_poly : List PyData → Rp := pureOf 4 b_L_poly
noncomputable def b_L_sum : MS :=
    (sSeq (sAsg 2 (eCB cMax2 (aCons (eCB cLen (aCons (eOp fIx (eVar 0) (eC (.int 0))) aNil)) (aCons (eCB cLen (aCons (eOp fIx (eVar 1) (eC (.int 0))) aNil)) aNil))))
    (sSeq (sAsg 3 (eOwn (lOp fRep (eFrz (lDisp (aCons (eC (.int 0)) aNil))) (eVar 2))))
    (sSeq (sFor (mEnum (aCons (eOp fIx (eVar 0) (eC (.int 0))) aNil)) (gTupM 2 (gConsM (gNameM 4) (gConsM (gNameM 5) gNilM)))
    (sAsgG (eOp fAddA (eOp fIx (eVar 3) (eVar 4)) (eOp fMulA (eVar 5) (eOp fIx (eVar 1) (eC (.int 1))))) (gSubM (eVar 3) (eVar 4))))
    (sSeq (sFor (mEnum (aCons (eOp fIx (eVar 1) (eC (.int 0))) aNil)) (gTupM 2 (gConsM (gNameM 4) (gConsM (gNameM 5) gNilM)))
    (sAsgG (eOp fAddA (eOp fIx (eVar 3) (eVar 4)) (eOp fMulA (eVar 5) (eOp fIx (eVar 0) (eC (.int 1))))) (gSubM (eVar 3) (eVar 4))))
    (sRet (eCallP 2 m_L_poly (aCons (eVar 3) (aCons (eOp fMulA (eOp fIx (eVar 0) (eC (.int 1))) (eOp fIx (eVar 1) (eC (.int 1)))) aNil))))))))
@[irreducible] noncomputable def m_L_sum : List PyData → Rp := pureOf 6 b_L_sum
noncomputable def b_L_number : MS :=
    (sRet (eOp fSub (eCallF 2 m_L_pick (aCons (eVar 0) (aCons (eOp fAddA (eOp fMulA (eC (.int 2)) (eVar 1)) (eC (.int 1))) aNil))) (eVar 1)))
@[irreducible] noncomputable def m_L_number : List PyData → Fl → Rf := flowOf 2 b_L_number
noncomputable def b_L_any_poly : MS :=
    (sSeq (sAsg 3 (if true = true then eFrz (lLc (mR1 (aCons (eVar 1) aNil)) (([(("_law_k" : Str), 5)] : List (Str × Nat)).map (·.2)) (gNameM 5) bYes (eOp fMulA (eCallF 2 m_L_number (aCons (eVar 0) (aCons (eVar 2) aNil))) (eCB cInt (aCons (eOp fGt (eCallF 2 m_L_pick (aCons (eVar 0) (aCons (eC (.int 4)) aNil))) (eC (.int 0))) aNil)))) else eOwn (lLc (mR1 (aCons (eVar 1) aNil)) (([(("_law_k" : Str), 5)] : List (Str × Nat)).map (·.2)) (gNameM 5) bYes (eOp fMulA (eCallF 2 m_L_number (aCons (eVar 0) (aCons (eVar 2) aNil))) (eCB cInt (aCons (eOp fGt (eCallF 2 m_L_pick (aCons (eVar 0) (aCons (eC (.int 4)) aNil))) (eC (.int 0))) aNil))))))
    (sSeq (sAsg 4 (eOp fIx (eFrz (lDisp (aCons (eC (.int 1)) (aCons (eOp fSub (eC (.int 0)) (eC (.int 1))) (aCons (eOp fAddA (eC (.int 1)) (eCallF 2 m_L_pick (aCons (eVar 0) (aCons (eVar 2) aNil)))) (aCons (eOp fSub (eOp fSub (eC (.int 0)) (eC (.int 1))) (eCallF 2 m_L_pick (aCons (eVar 0) (aCons (eVar 2) aNil)))) aNil)))))) (eCallF 2 m_L_pick (aCons (eVar 0) (aCons (eC (.int 4)) aNil)))))
    (sRet (eCallP 2 m_L_poly (aCons (eOp fAddA (eVar 3) (eFrz (lDisp (aCons (eVar 4) aNil)))) (aCons (eOp fAddA (eC (.int 1)) (eCallF 2 m_L_pick (aCons (eVar 0) (aCons (eOp fIx (eFrz (lDisp (aCons (eC (.int 1)) (aCons (eC (.int 1)) (aCons (eC (.int 2)) (aCons (eC (.int 6)) aNil)))))) (eCallF 2 m_L_pick (aCons (eVar 0) (aCons (eC (.int 4)) aNil)))) aNil)))) aNil))))))
@[irreducible] noncomputable def m_L_any_poly : List PyData → Fl → Rf := flowOf 6 b_L_any_poly
def c_MOST : PyData := .int 24
noncomputable def b_fraction_text : MS :=
    (sSeq (sIf (bTest (eOp (opEq false) (eOp fIx (eVar 0) (eC (.int 1))) (eC (.int 1))))
    (sRet (eCB cStrI (aCons (eOp fIx (eVar 0) (eC (.int 0))) aNil)))
    sNext)
    (sRet (eJs [(eFmt (eOp fIx (eVar 0) (eC (.int 0)))), (eC (.str ("/" : Str))), (eFmt (eOp fIx (eVar 0) (eC (.int 1))))] Str.empty)))
@[irreducible] noncomputable def m_fraction_text : List PyData → Rp := pureOf 1 b_fraction_text
noncomputable def b_letter_text : MS :=
    (sSeq (sIf (bTest (eOp (opEq false) (eVar 0) (eC (.int 1))))
    (sRet (eC (.str ("x" : Str))))
    sNext)
    (sRet (eJs [(eC (.str ("x^" : Str))), (eFmt (eVar 0))] Str.empty)))
@[irreducible] noncomputable def m_letter_text : List PyData → Rp := pureOf 1 b_letter_text
noncomputable def b_word_text : MS :=
    (sSeq (sIf (bTest (eOp (opEq false) (eVar 1) (eC (.int 0))))
    (sRet (eCallP 1 m_fraction_text (aCons (eVar 0) aNil)))
    sNext)
    (sSeq (sIf (bTest (eOp (opEq false) (eVar 0) (eTup (aCons (eC (.int 1)) (aCons (eC (.int 1)) aNil)))))
    (sRet (eCallP 1 m_letter_text (aCons (eVar 1) aNil)))
    sNext)
    (sRet (eOp fAddA (eOp fAddA (eCallP 1 m_fraction_text (aCons (eVar 0) aNil)) (eC (.str (" " : Str)))) (eCallP 1 m_letter_text (aCons (eVar 1) aNil))))))
@[irreducible] noncomputable def m_word_text : List PyData → Rp := pureOf 2 b_word_text
noncomputable def b_poly_text : MS :=
    (sSeq (sAsg 1 (eC (.str ("" : Str))))
    (sSeq (sFor (mRevR (eCB cLen (aCons (eOp fIx (eVar 0) (eC (.int 0))) aNil))) (gNameM 2)
    (sSeq (sAsgG (eCallP 2 m_fraction_at (aCons (eVar 0) (aCons (eVar 2) aNil))) (gTupM 2 (gConsM (gNameM 3) (gConsM (gNameM 4) gNilM))))
    (sIf (bTest (eOp (opEq true) (eVar 3) (eC (.int 0))))
    (sSeq (sAsg 5 (eOp fIx (eFrz (lDisp (aCons (eC (.str (" + " : Str))) (aCons (eC (.str (" - " : Str))) aNil)))) (eCB cInt (aCons (eOp fLt (eVar 3) (eC (.int 0))) aNil))))
    (sSeq (sIf (bTest (eOp (opEq false) (eVar 1) (eC (.str ("" : Str)))))
    (sAsg 5 (eOp fIx (eFrz (lDisp (aCons (eC (.str ("" : Str))) (aCons (eC (.str ("-" : Str))) aNil)))) (eCB cInt (aCons (eOp fLt (eVar 3) (eC (.int 0))) aNil))))
    sNext)
    (sAsg 1 (eOp fAddA (eOp fAddA (eVar 1) (eVar 5)) (eCallP 2 m_word_text (aCons (eTup (aCons (eCB cAbs (aCons (eVar 3) aNil)) (aCons (eVar 4) aNil))) (aCons (eVar 2) aNil)))))))
    sNext)))
    (sSeq (sIf (bTest (eOp (opEq false) (eVar 1) (eC (.str ("" : Str)))))
    (sRet (eC (.str ("0" : Str))))
    sNext)
    (sRet (eVar 1)))))
@[irreducible] noncomputable def m_poly_text : List PyData → Rp := pureOf 6 b_poly_text
def c_FIGURES : PyData := .str ("0123456789" : Str)
def c_MOST_FIGURES : PyData := .int 40
noncomputable def b_is_number : MS :=
    (sSeq (sIf (bOr (bTest (eOp (opEq false) (eCB cLen (aCons (eVar 0) aNil)) (eC (.int 0)))) (bOr (bTest (eOp fGt (eCB cLen (aCons (eVar 0) aNil)) (eC c_MOST_FIGURES))) (bNot (bTru (eCB cAll (aCons (eFrz (lLc (mStr (eVar 0)) (([(("sign" : Str), 1)] : List (Str × Nat)).map (·.2)) (gNameM 1) bYes (eOp (fInS false) (eVar 1) (eC c_FIGURES)))) aNil))))))
    (sRet (eC (.bool false)))
    sNext)
    (sRet (eOrV (eOp (opEq false) (eVar 0) (eC (.str ("0" : Str)))) (eOp (opEq true) (eOp fIx (eVar 0) (eC (.int 0))) (eC (.str ("0" : Str)))))))
@[irreducible] noncomputable def m_is_number : List PyData → Rp := pureOf 2 b_is_number
noncomputable def b_read_fraction : MS :=
    (sSeq (sAsg 1 (eVar 0))
    (sSeq (sIf (bTru (eMeth1 fStarts (eVar 0) (eC (.str ("-" : Str)))))
    (sAsg 1 (eSlAny (eVar 0) (oSome (eC (.int 1))) oNone))
    sNext)
    (sSeq (sAsgG (eMeth1 fPart (eVar 1) (eC (.str ("/" : Str)))) (gTupM 3 (gConsM (gNameM 2) (gConsM (gNameM 3) (gConsM (gNameM 4) gNilM)))))
    (sSeq (sIf (bTest (eOp (opEq false) (eVar 3) (eC (.str ("" : Str)))))
    (sAsg 4 (eC (.str ("1" : Str))))
    sNext)
    (sSeq (sIf (bOr (bNot (bTru (eCallP 1 m_is_number (aCons (eVar 2) aNil)))) (bOr (bNot (bTru (eCallP 1 m_is_number (aCons (eVar 4) aNil)))) (bTest (eOp (opEq false) (eVar 4) (eC (.str ("0" : Str)))))))
    (sRaise1 ("BadText" : Str) ("at" : Str) (eC (.int 0)))
    sNext)
    (sSeq (sAsg 5 (eCallP 2 m_fraction (aCons (eOp fMulA (eCB cIntS (aCons (eVar 2) aNil)) (eOp fIx (eFrz (lDisp (aCons (eC (.int 1)) (aCons (eC (.int (-1))) aNil)))) (eCB cInt (aCons (eOp (opEq true) (eVar 1) (eVar 0)) aNil)))) (aCons (eCB cIntS (aCons (eVar 4) aNil)) aNil))))
    (sSeq (sIf (bTest (eOp (opEq true) (eCallP 1 m_fraction_text (aCons (eVar 5) aNil)) (eVar 0)))
    (sRaise1 ("BadText" : Str) ("at" : Str) (eC (.int 0)))
    sNext)
    (sRet (eVar 5)))))))))
@[irreducible] noncomputable def m_read_fraction : List PyData → Rp := pureOf 6 b_read_fraction
noncomputable def b_read_power : MS :=
    (sSeq (sIf (bTest (eOp (opEq false) (eVar 0) (eC (.str ("x" : Str)))))
    (sRet (eC (.int 1)))
    sNext)
    (sSeq (sIf (bOr (bNot (bTru (eMeth1 fStarts (eVar 0) (eC (.str ("x^" : Str)))))) (bNot (bTru (eCallP 1 m_is_number (aCons (eSlAny (eVar 0) (oSome (eC (.int 2))) oNone) aNil)))))
    (sRet (eC .none))
    sNext)
    (sSeq (sAsg 1 (eCB cIntS (aCons (eSlAny (eVar 0) (oSome (eC (.int 2))) oNone) aNil)))
    (sSeq (sIf (bTest (eChain fLe fLe (eC (.int 2)) (eVar 1) (eC c_MOST)))
    (sRet (eVar 1))
    sNext)
    (sRet (eC .none))))))
@[irreducible] noncomputable def m_read_power : List PyData → Rp := pureOf 2 b_read_power
noncomputable def b_read_words : MS :=
    (sSeq (sAsg 1 (eCallP 1 m_read_power (aCons (eOp fIx (eVar 0) (eC (.int (-1)))) aNil)))
    (sSeq (sIf (bTest (eOp (fIsN false) (eVar 1) (eC .none)))
    (sAsg 1 (eC (.int 0)))
    sNext)
    (sSeq (sAsg 2 (eVar 0))
    (sSeq (sIf (bTest (eOp fGt (eVar 1) (eC (.int 0))))
    (sAsg 2 (eSlAny (eVar 0) oNone (oSome (eC (.int (-1))))))
    sNext)
    (sSeq (sIf (bOr (bTest (eOp fGt (eCB cLen (aCons (eVar 2) aNil)) (eC (.int 1)))) (bAnd (bTest (eOp (opEq false) (eCB cLen (aCons (eVar 2) aNil)) (eC (.int 0)))) (bTest (eOp (opEq false) (eVar 1) (eC (.int 0))))))
    (sRaise1 ("BadText" : Str) ("at" : Str) (eC (.int 0)))
    sNext)
    (sSeq (sIf (bTest (eOp (opEq false) (eCB cLen (aCons (eVar 2) aNil)) (eC (.int 0))))
    (sRet (eTup (aCons (eTup (aCons (eC (.int 1)) (aCons (eC (.int 1)) aNil))) (aCons (eVar 1) aNil))))
    sNext)
    (sRet (eTup (aCons (eCallX 1 m_read_fraction (aCons (eOp fIx (eVar 2) (eC (.int 0))) aNil)) (aCons (eVar 1) aNil))))))))))
@[irreducible] noncomputable def m_read_words : List PyData → Rp := pureOf 3 b_read_words
noncomputable def b_read_poly : MS :=
    (sSeq (sAsg 1 (eOwn (lOp fRep (eFrz (lDisp (aCons (eTup (aCons (eC (.int 0)) (aCons (eC (.int 1)) aNil))) aNil))) (eOp fAddA (eC c_MOST) (eC (.int 1))))))
    (sSeq (sFor (mAny (eCallP 1 m_parted (aCons (eVar 0) aNil))) (gTupM 2 (gConsM (gNameM 2) (gConsM (gNameM 3) gNilM)))
    (sSeq (sIf (bTest (eOp (opEq false) (eCB cLen (aCons (eVar 3) aNil)) (eC (.int 0))))
    (sRaise1 ("BadText" : Str) ("at" : Str) (eC (.int 0)))
    sNext)
    (sSeq (sAsgG (eCallX 1 m_read_words (aCons (eVar 3) aNil)) (gTupM 2 (gConsM (gNameM 4) (gConsM (gNameM 5) gNilM))))
    (sAsgG (eTup (aCons (eOp fMulA (eVar 2) (eOp fIx (eVar 4) (eC (.int 0)))) (aCons (eOp fIx (eVar 4) (eC (.int 1))) aNil))) (gSubM (eVar 1) (eVar 5))))))
    (sSeq (sAsg 6 (eCallP 1 m_poly (aCons (eVar 1) aNil)))
    (sSeq (sIf (bTest (eOp (opEq true) (eCallP 1 m_poly_text (aCons (eVar 6) aNil)) (eVar 0)))
    (sRaise1 ("BadText" : Str) ("at" : Str) (eC (.int 0)))
    sNext)
    (sRet (eVar 6))))))
@[irreducible] noncomputable def m_read_poly : List PyData → Rp := pureOf 7 b_read_poly
noncomputable def b_L_fraction_text : MS :=
    (sRet (eOp fAddA (eCB cStrI (aCons (eOp fIx (eVar 0) (eC (.int 0))) aNil)) (eOp fIx (eFrz (lDisp (aCons (eOp fAddA (eC (.str ("/" : Str))) (eCB cStrI (aCons (eOp fIx (eVar 0) (eC (.int 1))) aNil))) (aCons (eC (.str ("" : Str))) aNil)))) (eCB cInt (aCons (eOp (opEq false) (eOp fIx (eVar 0) (eC (.int 1))) (eC (.int 1))) aNil)))))
@[irreducible] noncomputable def m_L_fraction_text : List PyData → Rp := pureOf 1 b_L_fraction_text
noncomputable def b_L_figures : MS :=
    (sSeq (sIf (bOr (bTest (eOp (opEq false) (eCB cLen (aCons (eVar 0) aNil)) (eC (.int 0)))) (bOr (bTest (eOp fGt (eCB cLen (aCons (eVar 0) aNil)) (eC (.int 40)))) (bTest (eOp (opEq true) (eFrz (lLc (mStr (eVar 0)) (([(("_law_sign_here" : Str), 1)] : List (Str × Nat)).map (·.2)) (gNameM 1) (bTest (eOp (fInS true) (eVar 1) (eC (.str ("0123456789" : Str))))) (eVar 1))) (eFrz (lDisp aNil))))))
    (sRet (eC (.bool false)))
    sNext)
    (sRet (eOrV (eOp (opEq false) (eVar 0) (eC (.str ("0" : Str)))) (eOp (opEq true) (eOp fIx (eVar 0) (eC (.int 0))) (eC (.str ("0" : Str)))))))
@[irreducible] noncomputable def m_L_figures : List PyData → Rp := pureOf 2 b_L_figures
noncomputable def b_L_read_fraction : MS :=
    (sSeq (sAsg 1 (eOp fSub (eC (.int 1)) (eOp fMulA (eC (.int 2)) (eCB cInt (aCons (eOp (opEq false) (eSlAny (eVar 0) oNone (oSome (eC (.int 1)))) (eC (.str ("-" : Str)))) aNil)))))
    (sSeq (sAsg 2 (eMeth1 fSplit (eSlAny (eVar 0) (oSome (eCB cInt (aCons (eOp fLt (eVar 1) (eC (.int 0))) aNil))) oNone) (eC (.str ("/" : Str)))))
    (sSeq (sIf (bOr (bTest (eOp fGt (eCB cLen (aCons (eVar 2) aNil)) (eC (.int 2)))) (bOr (bNot (bTru (eCB cAll (aCons (eFrz (lLc (mAny (eVar 2)) (([(("_law_one" : Str), 5)] : List (Str × Nat)).map (·.2)) (gNameM 5) bYes (eCallP 1 m_L_figures (aCons (eVar 5) aNil)))) aNil)))) (bAnd (bTest (eOp (opEq false) (eOp fIx (eVar 2) (eC (.int 0))) (eC (.str ("0" : Str))))) (bTest (eOp (opEq true) (eVar 0) (eC (.str ("0" : Str))))))))
    (sRet (eC .none))
    sNext)
    (sSeq (sIf (bTest (eOp (opEq false) (eCB cLen (aCons (eVar 2) aNil)) (eC (.int 1))))
    (sRet (eTup (aCons (eOp fMulA (eVar 1) (eCB cIntS (aCons (eOp fIx (eVar 2) (eC (.int 0))) aNil))) (aCons (eC (.int 1)) aNil))))
    sNext)
    (sSeq (sPar 3 4 (aCons (eCB cIntS (aCons (eOp fIx (eVar 2) (eC (.int 0))) aNil)) (aCons (eCB cIntS (aCons (eOp fIx (eVar 2) (eC (.int 1))) aNil)) aNil)))
    (sSeq (sIf (bOr (bTest (eOp fLt (eVar 4) (eC (.int 2)))) (bTest (eOp (opEq true) (eCallP 2 m_L_common (aCons (eVar 3) (aCons (eVar 4) aNil))) (eC (.int 1)))))
    (sRet (eC .none))
    sNext)
    (sRet (eTup (aCons (eOp fMulA (eVar 1) (eVar 3)) (aCons (eVar 4) aNil))))))))))
@[irreducible] noncomputable def m_L_read_fraction : List PyData → Rp := pureOf 6 b_L_read_fraction
noncomputable def b_L_sign : MS :=
    (sSeq (sAsg 1 (eC (.str (" !#$&'()*+,-./0123456789:;<=>?\x40ABCDEFGHIJKLMNOPQRSTUVWXYZ[]^_`abcdefghijklmnopqrstuvwxyz{|}~" : Str))))
    (sSeq (sAsg 1 (eOp fAddA (eOp fAddA (eOp fAddA (eVar 1) (eC (.str ("\"" : Str)))) (eC (.str ("\\" : Str)))) (eC (.str ("\n" : Str)))))
    (sRet (eOp fIx (eVar 1) (eCallF 2 m_L_pick (aCons (eVar 0) (aCons (eCB cLen (aCons (eVar 1) aNil)) aNil)))))))
@[irreducible] noncomputable def m_L_sign : List PyData → Fl → Rf := flowOf 2 b_L_sign
noncomputable def b_L_letter : MS :=
    (sRet (eOp fAddA (eC (.str ("x" : Str))) (eOp fIx (eFrz (lDisp (aCons (eOp fAddA (eC (.str ("^" : Str))) (eCB cStrI (aCons (eVar 0) aNil))) (aCons (eC (.str ("" : Str))) aNil)))) (eCB cInt (aCons (eOp (opEq false) (eVar 0) (eC (.int 1))) aNil)))))
@[irreducible] noncomputable def m_L_letter : List PyData → Rp := pureOf 1 b_L_letter
noncomputable def b_L_poly_text : MS :=
    (sSeq (sAsg 1 (eC (.str ("" : Str))))
    (sSeq (sFor (mR3 (aCons (eOp fSub (eCB cLen (aCons (eOp fIx (eVar 0) (eC (.int 0))) aNil)) (eC (.int 1))) (aCons (eOp fSub (eC (.int 0)) (eC (.int 1))) (aCons (eOp fSub (eC (.int 0)) (eC (.int 1))) aNil)))) (gNameM 2)
    (sSeq (sAsgG (eCallP 2 m_L_fraction (aCons (eOp fIx (eOp fIx (eVar 0) (eC (.int 0))) (eVar 2)) (aCons (eOp fIx (eVar 0) (eC (.int 1))) aNil))) (gTupM 2 (gConsM (gNameM 3) (gConsM (gNameM 4) gNilM))))
    (sSeq (sAsg 5 (eCallP 1 m_L_fraction_text (aCons (eTup (aCons (eCB cAbs (aCons (eVar 3) aNil)) (aCons (eVar 4) aNil))) aNil)))
    (sSeq (sIf (bAnd (bTest (eOp fGt (eVar 2) (eC (.int 0)))) (bTest (eOp (opEq false) (eVar 5) (eC (.str ("1" : Str))))))
    (sAsg 5 (eCallP 1 m_L_letter (aCons (eVar 2) aNil)))
    (sIf (bTest (eOp fGt (eVar 2) (eC (.int 0))))
    (sAsg 5 (eOp fAddA (eOp fAddA (eVar 5) (eC (.str (" " : Str)))) (eCallP 1 m_L_letter (aCons (eVar 2) aNil))))
    sNext))
    (sIf (bAnd (bTest (eOp (opEq true) (eVar 3) (eC (.int 0)))) (bTest (eOp (opEq false) (eVar 1) (eC (.str ("" : Str))))))
    (sAsg 1 (eOp fAddA (eOp fIx (eFrz (lDisp (aCons (eC (.str ("" : Str))) (aCons (eC (.str ("-" : Str))) aNil)))) (eCB cInt (aCons (eOp fLt (eVar 3) (eC (.int 0))) aNil))) (eVar 5)))
    (sIf (bTest (eOp (opEq true) (eVar 3) (eC (.int 0))))
    (sAsg 1 (eOp fAddA (eOp fAddA (eVar 1) (eOp fIx (eFrz (lDisp (aCons (eC (.str (" + " : Str))) (aCons (eC (.str (" - " : Str))) aNil)))) (eCB cInt (aCons (eOp fLt (eVar 3) (eC (.int 0))) aNil)))) (eVar 5)))
    sNext))))))
    (sRet (eOp fIx (eFrz (lDisp (aCons (eVar 1) (aCons (eC (.str ("0" : Str))) aNil)))) (eCB cInt (aCons (eOp (opEq false) (eVar 1) (eC (.str ("" : Str)))) aNil))))))
@[irreducible] noncomputable def m_L_poly_text : List PyData → Rp := pureOf 6 b_L_poly_text
@[irreducible] noncomputable def m_asked_read_poly : List PyData → Rp := askedOf m_read_poly
noncomputable def b_L_read_word : MS :=
    (sSeq (sAsg 1 (eOp fIx (eVar 0) (eC (.int (-1)))))
    (sSeq (sAsg 2 (eC (.int 0)))
    (sSeq (sIf (bTest (eOp (opEq false) (eVar 1) (eC (.str ("x" : Str)))))
    (sAsg 2 (eC (.int 1)))
    (sIf (bAnd (bTest (eOp (opEq false) (eSlAny (eVar 1) oNone (oSome (eC (.int 2)))) (eC (.str ("x^" : Str))))) (bAnd (bTru (eCallP 1 m_L_figures (aCons (eSlAny (eVar 1) (oSome (eC (.int 2))) oNone) aNil))) (bTest (eChain fLe fLe (eC (.int 2)) (eCB cIntS (aCons (eSlAny (eVar 1) (oSome (eC (.int 2))) oNone) aNil)) (eC (.int 24))))))
    (sAsg 2 (eCB cIntS (aCons (eSlAny (eVar 1) (oSome (eC (.int 2))) oNone) aNil)))
    sNext))
    (sSeq (sIf (bOr (bTest (eOp fGt (eCB cLen (aCons (eVar 0) aNil)) (eC (.int 2)))) (bAnd (bTest (eOp (opEq false) (eCB cLen (aCons (eVar 0) aNil)) (eC (.int 2)))) (bTest (eOp (opEq false) (eVar 2) (eC (.int 0))))))
    (sRet (eC .none))
    sNext)
    (sSeq (sIf (bAnd (bTest (eOp (opEq false) (eCB cLen (aCons (eVar 0) aNil)) (eC (.int 1)))) (bTest (eOp fGt (eVar 2) (eC (.int 0)))))
    (sRet (eTup (aCons (eTup (aCons (eC (.int 1)) (aCons (eC (.int 1)) aNil))) (aCons (eVar 2) aNil))))
    sNext)
    (sSeq (sAsg 3 (eCallP 1 m_L_read_fraction (aCons (eOp fIx (eVar 0) (eC (.int 0))) aNil)))
    (sSeq (sIf (bOr (bTest (eOp (fIsN false) (eVar 3) (eC .none))) (bOr (bTest (eOp fLt (eOp fIx (eVar 3) (eC (.int 0))) (eC (.int 1)))) (bAnd (bTest (eOp fGt (eVar 2) (eC (.int 0)))) (bTest (eOp (opEq false) (eVar 3) (eTup (aCons (eC (.int 1)) (aCons (eC (.int 1)) aNil))))))))
    (sRet (eC .none))
    sNext)
    (sRet (eTup (aCons (eVar 3) (aCons (eVar 2) aNil)))))))))))
@[irreducible] noncomputable def m_L_read_word : List PyData → Rp := pureOf 4 b_L_read_word
noncomputable def b_L_read : MS :=
    (sSeq (sIf (bTest (eOp (opEq false) (eVar 0) (eC (.str ("0" : Str)))))
    (sRet (eTup (aCons (eTup aNil) (aCons (eC (.int 1)) aNil))))
    sNext)
    (sSeq (sAsg 1 (eOp fSub (eC (.int 1)) (eOp fMulA (eC (.int 2)) (eCB cInt (aCons (eOp (opEq false) (eSlAny (eVar 0) oNone (oSome (eC (.int 1)))) (eC (.str ("-" : Str)))) aNil)))))
    (sSeq (sAsg 2 (eMeth1 fSplit (eSlAny (eVar 0) (oSome (eCB cInt (aCons (eOp fLt (eVar 1) (eC (.int 0))) aNil))) oNone) (eC (.str (" " : Str)))))
    (sSeq (sAsg 3 (eTup (aCons (eTup aNil) (aCons (eC (.int 1)) aNil))))
    (sSeq (sAsg 4 (eC (.int 25)))
    (sSeq (sWhile (bTest (eOp fGt (eCB cLen (aCons (eVar 2) aNil)) (eC (.int 0))))
    (sSeq (sAsg 5 (eCB cLen (aCons (eVar 2) aNil)))
    (sSeq (sFor (mR1 (aCons (eCB cLen (aCons (eVar 2) aNil)) aNil)) (gNameM 6)
    (sIf (bTest (eOp (fIn false) (eOp fIx (eVar 2) (eVar 6)) (eTup (aCons (eC (.str ("+" : Str))) (aCons (eC (.str ("-" : Str))) aNil)))))
    (sAsg 5 (eCB cMin2 (aCons (eVar 5) (aCons (eVar 6) aNil))))
    sNext))
    (sSeq (sAsg 7 (eCallP 1 m_L_read_word (aCons (eSlAny (eVar 2) oNone (oSome (eCB cMax2 (aCons (eC (.int 1)) (aCons (eVar 5) aNil))))) aNil)))
    (sSeq (sIf (bOr (bTest (eOp (fIsN false) (eVar 7) (eC .none))) (bTest (eOp fGe (eOp fIx (eVar 7) (eC (.int 1))) (eVar 4))))
    (sRet (eC .none))
    sNext)
    (sSeq (sAsgG (eVar 7) (gTupM 2 (gConsM (gTupM 2 (gConsM (gNameM 8) (gConsM (gNameM 9) gNilM))) (gConsM (gNameM 4) gNilM))))
    (sSeq (sAsg 3 (eCallP 2 m_L_sum (aCons (eVar 3) (aCons (eCallP 2 m_L_poly (aCons (eOp fAddA (eOp fMulA (eFrz (lDisp (aCons (eC (.int 0)) aNil))) (eVar 4)) (eFrz (lDisp (aCons (eOp fMulA (eVar 1) (eVar 8)) aNil)))) (aCons (eVar 9) aNil))) aNil))))
    (sSeq (sAsg 2 (eSlAny (eVar 2) (oSome (eCB cMax2 (aCons (eC (.int 1)) (aCons (eVar 5) aNil)))) oNone))
    (sSeq (sIf (bTest (eOp (opEq false) (eCB cLen (aCons (eVar 2) aNil)) (eC (.int 1))))
    (sRet (eC .none))
    sNext)
    (sIf (bTest (eOp fGt (eCB cLen (aCons (eVar 2) aNil)) (eC (.int 1))))
    (sSeq (sAsg 1 (eOp fSub (eC (.int 1)) (eOp fMulA (eC (.int 2)) (eCB cInt (aCons (eOp (opEq false) (eOp fIx (eVar 2) (eC (.int 0))) (eC (.str ("-" : Str)))) aNil)))))
    (sAsg 2 (eSlAny (eVar 2) (oSome (eC (.int 1))) oNone)))
    sNext))))))))))
    (sRet (eVar 3))))))))
@[irreducible] noncomputable def m_L_read : List PyData → Rp := pureOf 10 b_L_read
noncomputable def b_L_word_otherwise : MS :=
    (sSeq (sAsg 2 (eFrz (lDisp (aCons (eC (.str ("x" : Str))) (aCons (eC (.str ("x^1" : Str))) (aCons (eC (.str ("x^0" : Str))) (aCons (eC (.str ("x^2" : Str))) (aCons (eC (.str ("x^24" : Str))) (aCons (eC (.str ("x^25" : Str))) (aCons (eC (.str ("x^02" : Str))) (aCons (eC (.str ("1 x" : Str))) (aCons (eC (.str ("0 x" : Str))) (aCons (eC (.str ("0" : Str))) (aCons (eC (.str ("1" : Str))) (aCons (eC (.str ("-1" : Str))) (aCons (eC (.str ("2/4 x" : Str))) (aCons (eC (.str ("x x" : Str))) (aCons (eC (.str ("" : Str))) aNil))))))))))))))))))
    (sSeq (sAsg 2 (eOp fAddA (eVar 2) (eFrz (lDisp (aCons (eC (.str ("3/1" : Str))) (aCons (eC (.str ("X" : Str))) (aCons (eC (.str ("2x" : Str))) (aCons (eC (.str ("x^2 2" : Str))) (aCons (eC (.str ("1/2 x^3" : Str))) (aCons (eC (.str ("-x" : Str))) (aCons (eC (.str ("+ x" : Str))) (aCons (eC (.str ("7" : Str))) (aCons (eC (.str ("x^-2" : Str))) (aCons (eC (.str ("x^" : Str))) (aCons (eC (.str ("- 1" : Str))) (aCons (eC (.str ("x/2" : Str))) (aCons (eC (.str ("1/2x" : Str))) aNil)))))))))))))))))
    (sSeq (sAsg 2 (eOp fAddA (eVar 2) (eFrz (lDisp (aCons (eOp fMulS (eC (.str ("9" : Str))) (eC (.int 40))) (aCons (eOp fMulS (eC (.str ("9" : Str))) (eC (.int 41))) (aCons (eOp fAddA (eC (.str ("1/" : Str))) (eOp fMulS (eC (.str ("7" : Str))) (eC (.int 40)))) (aCons (eOp fAddA (eC (.str ("1/" : Str))) (eOp fMulS (eC (.str ("7" : Str))) (eC (.int 41)))) (aCons (eOp fAddA (eOp fAddA (eC (.str ("1/" : Str))) (eOp fMulS (eC (.str ("7" : Str))) (eC (.int 41)))) (eC (.str (" x" : Str)))) aNil)))))))))
    (sSeq (sAsg 3 (eCallF 2 m_L_pick (aCons (eVar 0) (aCons (eC (.int 3)) aNil))))
    (sSeq (sIf (bTest (eOp (opEq false) (eVar 3) (eC (.int 0))))
    (sRet (eOp fIx (eVar 2) (eCallF 2 m_L_pick (aCons (eVar 0) (aCons (eCB cLen (aCons (eVar 2) aNil)) aNil)))))
    sNext)
    (sSeq (sIf (bTest (eOp (opEq false) (eVar 3) (eC (.int 1))))
    (sRet (eOp fAddA (eOp fAddA (eVar 1) (eC (.str (" " : Str)))) (eOp fIx (eVar 2) (eCallF 2 m_L_pick (aCons (eVar 0) (aCons (eCB cLen (aCons (eVar 2) aNil)) aNil))))))
    sNext)
    (sRet (eOp fAddA (eC (.str ("-" : Str))) (eVar 1)))))))))
@[irreducible] noncomputable def m_L_word_otherwise : List PyData → Fl → Rf := flowOf 4 b_L_word_otherwise
noncomputable def b_L_otherwise_2 : MS :=
    (sSeq (sAsg 2 (eOwn (lSplit (eVar 1) (eC (.str (" " : Str))))))
    (sSeq (sAsg 3 (eCallF 2 m_L_pick (aCons (eVar 0) (aCons (eCB cLen (aCons (eVar 2) aNil)) aNil))))
    (sSeq (sAsg 4 (eCallF 2 m_L_pick (aCons (eVar 0) (aCons (eCB cLen (aCons (eVar 2) aNil)) aNil))))
    (sSeq (sAsg 5 (eCallF 2 m_L_pick (aCons (eVar 0) (aCons (eC (.int 9)) aNil))))
    (sSeq (sAsg 6 (eCallF 2 m_L_pick (aCons (eVar 0) (aCons (eOp fAddA (eCB cLen (aCons (eVar 1) aNil)) (eC (.int 1))) aNil))))
    (sSeq (sIf (bTest (eOp fLt (eVar 5) (eC (.int 3))))
    (sRet (eOp fAddA (eOp fAddA (eSlAny (eVar 1) oNone (oSome (eVar 6))) (eOp fIx (eFrz (lDisp (aCons (eCallF 1 m_L_sign (aCons (eVar 0) aNil)) (aCons (eC (.str ("" : Str))) (aCons (eCallF 1 m_L_sign (aCons (eVar 0) aNil)) aNil))))) (eVar 5))) (eSlAny (eVar 1) (oSome (eOp fAddA (eVar 6) (eCB cInt (aCons (eOp fGt (eVar 5) (eC (.int 0))) aNil)))) oNone)))
    sNext)
    (sSeq (sIf (bTest (eOp (opEq false) (eVar 5) (eC (.int 3))))
    (sAsg 2 (eOwn (lOp fCat (eSlAny (eVar 2) oNone (oSome (eVar 3))) (eSlAny (eVar 2) (oSome (eOp fAddA (eVar 3) (eC (.int 1)))) oNone))))
    (sIf (bTest (eOp (opEq false) (eVar 5) (eC (.int 4))))
    (sAsg 2 (eOwn (lOp fCat (eSlAny (eVar 2) oNone (oSome (eOp fAddA (eVar 3) (eC (.int 1))))) (eSlAny (eVar 2) (oSome (eVar 3)) oNone))))
    (sIf (bTest (eOp (opEq false) (eVar 5) (eC (.int 5))))
    (sAsgG (eTup (aCons (eOp fIx (eVar 2) (eVar 4)) (aCons (eOp fIx (eVar 2) (eVar 3)) aNil))) (gTupM 2 (gConsM (gSubM (eVar 2) (eVar 3)) (gConsM (gSubM (eVar 2) (eVar 4)) gNilM))))
    (sIf (bTest (eOp (opEq false) (eVar 5) (eC (.int 6))))
    (sAsg 2 (eOwn (lOp fCat (eVar 2) (eFrz (lDisp (aCons (eOp fIx (eFrz (lDisp (aCons (eC (.str ("+" : Str))) (aCons (eC (.str ("-" : Str))) aNil)))) (eCallF 2 m_L_pick (aCons (eVar 0) (aCons (eC (.int 2)) aNil)))) (aCons (eOp fIx (eVar 2) (eVar 4)) aNil)))))))
    (sIf (bTest (eOp (opEq false) (eVar 5) (eC (.int 7))))
    (sAsgG (eOp fIx (eFrz (lDisp (aCons (eC (.str ("+" : Str))) (aCons (eC (.str ("-" : Str))) (aCons (eC (.str (" " : Str))) aNil))))) (eCallF 2 m_L_pick (aCons (eVar 0) (aCons (eC (.int 3)) aNil)))) (gSubM (eVar 2) (eVar 3)))
    (sAsgG (eCallF 2 m_L_word_otherwise (aCons (eVar 0) (aCons (eOp fIx (eVar 2) (eVar 3)) aNil))) (gSubM (eVar 2) (eVar 3))))))))
    (sRet (eMeth1 fJoin (eC (.str (" " : Str))) (eVar 2))))))))))
@[irreducible] noncomputable def m_L_otherwise_2 : List PyData → Fl → Rf := flowOf 7 b_L_otherwise_2
noncomputable def b_law_k11 : MS :=
    (sSeq (sAsg 2 (eCallF 3 m_L_any_poly (aCons (eVar 1) (aCons (eCallF 2 m_L_pick (aCons (eVar 1) (aCons (eC (.int 7)) aNil))) (aCons (eOp fIx (eFrz (lDisp (aCons (eC (.int 3)) (aCons (eC (.int 20)) aNil)))) (eCallF 2 m_L_pick (aCons (eVar 1) (aCons (eC (.int 2)) aNil)))) aNil)))))
    (sSeq (sIf (bTest (eOp (opEq false) (eCallF 2 m_L_pick (aCons (eVar 1) (aCons (eC (.int 12)) aNil))) (eC (.int 0))))
    (sAsg 2 (eTup (aCons (eTup aNil) (aCons (eC (.int 1)) aNil))))
    sNext)
    (sSeq (sAsg 3 (eCallP 1 m_L_poly_text (aCons (eVar 2) aNil)))
    (sSeq (sIf (bNot (bTru (eCallP 2 (m_L_alike 8) (aCons (eCallP 1 m_L_read (aCons (eVar 3) aNil)) (aCons (eVar 2) aNil)))))
    (sRet (eC (.bool false)))
    sNext)
    (sSeq (sFor (mR1 (aCons (eC (.int 8)) aNil)) (gNameM 4)
    (sSeq (sAsg 5 (eCallF 2 m_L_otherwise_2 (aCons (eVar 1) (aCons (eVar 3) aNil))))
    (sSeq (sIf (bTest (eOp (opEq false) (eCallF 2 m_L_pick (aCons (eVar 1) (aCons (eC (.int 3)) aNil))) (eC (.int 0))))
    (sAsg 5 (eCallF 2 m_L_otherwise_2 (aCons (eVar 1) (aCons (eVar 5) aNil))))
    sNext)
    (sSeq (sAsg 6 (eCallP 1 m_L_read (aCons (eVar 5) aNil)))
    (sSeq (sIf (bTest (eOp (fIsN false) (eVar 6) (eC .none)))
    (sAsg 6 (eTup (aCons (eC (.str ("refused" : Str))) (aCons (eC (.int 0)) aNil))))
    sNext)
    (sIf (bOr (bNot (bTru (eCallP 2 (m_L_alike 8) (aCons (eCallP 1 m_asked_read_poly (aCons (eVar 5) aNil)) (aCons (eVar 6) aNil))))) (bTest (eOp (opEq true) (eCallX0 1 m_read_poly (aCons (eVar 3) aNil)) (eVar 2))))
    (sRet (eC (.bool false)))
    sNext))))))
    (sRet (eC (.bool true))))))))
end NW
namespace NW
open PySem PySem.Spec PyProof.Rows L2
def FlOk (f : Fl) : Prop := 0 ≤ f.held ∧ 0 ≤ f.seed ∧ f.seed < 2147483647 ∧ 0 ≤ f.place
theorem fl0_ok (ns : List Int) : FlOk (fl0 ns) := by unfold FlOk fl0; simp
theorem log2_lt {i : Int} {n : Nat} (h : i.natAbs < 2 ^ n) (h0 : 0 < n) : i.natAbs.log2 < n := by
  by_cases e : i.natAbs = 0
  · rw [e]; simp; exact h0
  · exact (Nat.log2_lt e).mpr h
theorem mulC_of {i j : Int} {a b : Nat} (ha : i.natAbs < 2 ^ a) (hb : j.natAbs < 2 ^ b) (h0 : 0 < a) (h1 : 0 < b) (h : a + b ≤ 1000000) : mulC i j = true := by
  have x := log2_lt ha h0
  have y := log2_lt hb h1
  unfold mulC
  exact decide_eq_true (by omega)
theorem divC_of {i j : Int} {b : Nat} (h : j ≠ 0) (hb : j.natAbs < 2 ^ b) (h0 : 0 < b) (h9 : b ≤ 9000) : divC i j = true := decide_eq_true h
theorem divU {i j : Int} (h : j ≠ 0) : divC i j = true := decide_eq_true h
theorem fmod_lt {a b : Int} (h : 0 < b) : 0 ≤ a.fmod b ∧ a.fmod b < b := by
  rw [Int.fmod_eq_emod_of_nonneg a (by omega)]
  exact ⟨Int.emod_nonneg a (by omega), Int.emod_lt_of_pos a h⟩
theorem fdiv_nn {a b : Int} (h0 : 0 ≤ a) (h : 0 < b) : 0 ≤ a.fdiv b := by
  rw [Int.fdiv_eq_ediv_of_nonneg a (by omega)]
  exact Int.ediv_nonneg h0 (by omega)
theorem fdiv_le {a b : Int} (h0 : 0 ≤ a) (h : 0 < b) : a.fdiv b ≤ a := by
  rw [Int.fdiv_eq_ediv_of_nonneg a (by omega)]
  exact Int.ediv_le_self b h0
theorem mulC_small {i j : Int} (h : -(2 ^ 64) < i ∧ i < 2 ^ 64) (h' : -(2 ^ 64) < j ∧ j < 2 ^ 64) : mulC i j = true := mulC_of (a := 64) (b := 64) (by omega) (by omega) (by omega) (by omega) (by omega)
theorem divC_small {i j : Int} (h : j ≠ 0) (h' : -(2 ^ 64) < j ∧ j < 2 ^ 64) : divC i j = true := divC_of (b := 64) h (by omega) (by omega) (by omega)
theorem pick_A {seed mny many : Int} {P : Int → Int → Prop} (h0 : 0 ≤ seed) (h1 : seed < 2147483647) (hm : 0 < many) (hP : ∀ i s, 0 ≤ i → i < many → 0 ≤ s → s < 2147483647 → P i s) : mulC seed 48271 = true ∧
    divC ((seed * 48271 + 12820163 + (mny + 1)).fmod 2147483647) 65521 = true ∧
    mulC (((seed * 48271 + 12820163 + (mny + 1)).fmod 2147483647).fmod 65521 + 1) (((seed * 48271 + 12820163 + (mny + 1)).fmod 2147483647).fdiv 65521 + 7919) = true ∧
    divC (((((seed * 48271 + 12820163 + (mny + 1)).fmod 2147483647).fmod 65521 + 1) * (((seed * 48271 + 12820163 + (mny + 1)).fmod 2147483647).fdiv 65521 + 7919)).fmod 1000003) 7 = true ∧ ¬many = 0 ∧
    P (((((((seed * 48271 + 12820163 + (mny + 1)).fmod 2147483647).fmod 65521 + 1) * (((seed * 48271 + 12820163 + (mny + 1)).fmod 2147483647).fdiv 65521 + 7919)).fmod 1000003).fdiv 7).fmod many) ((seed * 48271 + 12820163 + (mny + 1)).fmod 2147483647) := by
  have a := fmod_lt (a := seed * 48271 + 12820163 + (mny + 1)) (b := 2147483647) (by omega)
  generalize (seed * 48271 + 12820163 + (mny + 1)).fmod 2147483647 = s at a ⊢
  have b := fmod_lt (a := s) (b := 65521) (by omega)
  have c := fdiv_nn (a := s) (b := 65521) a.1 (by omega)
  have c' := fdiv_le (a := s) (b := 65521) a.1 (by omega)
  refine ⟨mulC_small (by omega) (by omega), divC_small (by omega) (by omega), mulC_small (by omega) (by omega), divC_small (by omega) (by omega), by omega, ?_⟩
  have d := fmod_lt (a := ((s.fmod 65521 + 1) * (s.fdiv 65521 + 7919)).fmod 1000003 |>.fdiv 7) (b := many) hm
  exact hP _ _ d.1 d.2 a.1 a.2
theorem pick_to {f : Fl} (hf : FlOk f) {many : Int} (h0 : 0 < many) (h1 : many.natAbs < 2 ^ 64) : (m_L_pick [.int many] f).To fun d f' => ∃ i, d = .int i ∧ 0 ≤ i ∧ i < many ∧ FlOk f' := by
  unfold m_L_pick
  rw [flow_to]
  obtain ⟨cells, place, held, seed, mny⟩ := f
  obtain ⟨a1, a2, a3, a4⟩ := hf
  simp only at a1 a2 a3 a4
  unfold b_L_pick
  simp only [startL, List.map_cons, List.map_nil, List.length_cons, List.length_nil, List.cons_append, List.nil_append, List.replicate]
  have tail : ∀ (cells : List Int) (place held seed mny : Int) (c : Option U), 0 ≤ held → 0 ≤ seed → seed < 2147483647 → 0 ≤ place →
      (held ≤ 0 ∧ mulC seed 48271 = true ∧ divC ((seed * 48271 + 12820163 + (mny + 1)).fmod 2147483647) 65521 = true ∧
    mulC (((seed * 48271 + 12820163 + (mny + 1)).fmod 2147483647).fmod 65521 + 1) (((seed * 48271 + 12820163 + (mny + 1)).fmod 2147483647).fdiv 65521 + 7919) = true ∧
    divC (((((seed * 48271 + 12820163 + (mny + 1)).fmod 2147483647).fmod 65521 + 1) * (((seed * 48271 + 12820163 + (mny + 1)).fmod 2147483647).fdiv 65521 + 7919)).fmod 1000003) 7 = true ∧ ¬many = 0 ∧
      0 ≤ (((((((seed * 48271 + 12820163 + (mny + 1)).fmod 2147483647).fmod 65521 + 1) * (((seed * 48271 + 12820163 + (mny + 1)).fmod 2147483647).fdiv 65521 + 7919)).fmod 1000003).fdiv 7).fmod many) ∧
      (((((((seed * 48271 + 12820163 + (mny + 1)).fmod 2147483647).fmod 65521 + 1) * (((seed * 48271 + 12820163 + (mny + 1)).fmod 2147483647).fdiv 65521 + 7919)).fmod 1000003).fdiv 7).fmod many) < many ∧
      FlOk { cells := cells, place := place, held := held, seed := (seed * 48271 + 12820163 + (mny + 1)).fmod 2147483647, many := mny + 1 }) ∨
      0 < held ∧ ¬many = 0 ∧ divC held many = true ∧ 0 ≤ held.fmod many ∧ held.fmod many < many ∧ FlOk { cells := cells, place := place, held := held.fdiv many, seed := seed, many := mny } := by
    intro cells place held seed mny c b1 b2 b3 b4
    by_cases hh : held ≤ 0
    · exact .inl ⟨hh, pick_A (P := fun i s => 0 ≤ i ∧ i < many ∧ FlOk ⟨cells, place, held, s, mny + 1⟩) b2 b3 h0 fun i s c1 c2 c3 c4 => ⟨c1, c2, b1, c3, c4, b4⟩⟩
    · have d := fmod_lt (a := held) h0
      exact .inr ⟨by omega, by omega, divC_of (b := 64) (by omega) h1 (by omega) (by omega), d.1, d.2, fdiv_nn b1 h0, b2, b3, b4⟩
  by_cases hh : held = 0
  · subst hh
    by_cases hp : place < cells.length
    · obtain ⟨n, rfl⟩ := Int.eq_ofNat_of_zero_le a4
      have hn : n < cells.length := by omega
      have hq : ¬ cells.length ≤ n := by omega
      have e1 : idxN cells.length ((n : Nat) : Int) = some n := idxN_nat hn
      have e2 : cells[n]? = some cells[n] := List.getElem?_eq_getElem hn
      by_cases hx : cells[n] < 1000000000000000000
      · have z := tail cells ((n : Int) + 1) 0 ((seed * 40013 + cells[n].fmod 1000003 + 1).fmod 2147483647) mny none a1 (fmod_lt (by omega)).1 (fmod_lt (by omega)).2 (by omega)
        have y := mulC_small (i := seed) (j := 40013) (by omega) (by omega)
        have hx1 : ¬ 1000000000000000000 ≤ cells[n] := by omega
        simp [hn, hq, e1, e2, hx, hx1, y] at z ⊢
        exact z
      · have hx' : ¬ cells[n] < 1000000000000000000 := hx
        have z := tail cells ((n : Int) + 1) cells[n] seed mny none (by omega) a2 a3 (by omega)
        have hx2 : 1000000000000000000 ≤ cells[n] := by omega
        have hx3 : 0 < cells[n] := by omega
        have hx4 : ¬ cells[n] ≤ 0 := by omega
        simp [hn, hq, e1, e2, hx, hx2, hx3, hx4] at z ⊢
        exact z
    · have hp' : (cells.length : Int) ≤ place := by omega
      have z := tail cells place 0 seed mny none a1 a2 a3 a4
      simp [hp, hp'] at z ⊢
      exact z
  · have z := tail cells place held seed mny none a1 a2 a3 a4
    simp [hh] at z ⊢
    exact z
end NW
namespace NW
open PySem PySem.Spec PyProof.Rows L2
theorem gcd_step (a b : Int) : Int.gcd b (a.fmod b) = Int.gcd a b := by
  rw [Int.fmod_def a b, Int.gcd_sub_mul_left_right, Int.gcd_comm]
theorem fmod_natAbs {a b : Int} (h : b ≠ 0) : (a.fmod b).natAbs < b.natAbs := by
  by_cases hb : 0 < b
  · have := fmod_lt (a := a) hb
    omega
  · have h1 : a.fmod b = -((-a).fmod (-b)) := by
      rw [Int.fmod_def, Int.fmod_def, Int.neg_fdiv_neg]
      rw [Int.neg_mul, Int.sub_eq_add_neg, Int.sub_eq_add_neg, Int.neg_add]
      simp
    have := fmod_lt (a := -a) (b := -b) (by omega)
    omega
theorem common_part_to {a b : Int} {P : PyData → Prop} (h : P (.int (Int.gcd a b : Nat))) : (m_common_part [.int a, .int b]).To P := by
  unfold m_common_part
  rw [pure_to]
  unfold b_common_part
  simp only [startL, List.map_cons, List.map_nil, List.length_cons, List.length_nil, List.cons_append, List.nil_append, List.replicate, to_sSeq]
  refine while_to (I := fun n l s => ∃ x y : Int, l = [some (.d (.int x)), some (.d (.int y))] ∧ s = ⟨none, []⟩ ∧ Int.gcd x y = Int.gcd a b ∧ y.natAbs = n) ?_ b.natAbs _ _ ⟨a, b, rfl, rfl, rfl, rfl⟩
  rintro n l s ⟨x, y, rfl, rfl, hg, rfl⟩
  by_cases hy : y = 0
  · subst hy
    rw [Int.gcd_zero_right] at hg
    have e : (if x < 0 then -x else x) = ((Int.gcd a b : Nat) : Int) := by rw [← hg]; split <;> omega
    simp [e]; exact h
  · simp [hy]
    exact ⟨_, fmod_natAbs hy, _, _, ⟨rfl, rfl⟩, (gcd_step x y).trans hg, rfl⟩
def fracD (q : Rat) : PyData := .tuple [.int q.num, .int q.den]
@[simp] theorem idx_0 {n : Nat} : idxN (n + 1) 0 = some 0 := by unfold idxN; simp
@[simp] theorem idx_1 {n : Nat} : idxN (n + 2) 1 = some 1 := by
  unfold idxN
  rw [if_pos (by decide), if_pos (by omega)]; rfl
theorem frac_parts {t b g : Int} (hb : b ≠ 0) (hg : g = ((Int.gcd t b : Nat) : Int)) : (0 < b → t.fdiv g = (Rat.divInt t b).num ∧ b.fdiv g = ((Rat.divInt t b).den : Int)) ∧ (b < 0 → t.fdiv (0 - g) = (Rat.divInt t b).num ∧ b.fdiv (0 - g) = ((Rat.divInt t b).den : Int)) := by
  have hgt : g ∣ t := by rw [hg]; exact Int.gcd_dvd_left t b
  have hgb : g ∣ b := by rw [hg]; exact Int.gcd_dvd_right t b
  have e1 := Rat.num_divInt t b
  have e2 := Rat.den_divInt t b
  rw [if_neg hb, Int.gcd_comm b t] at e2
  rw [Int.gcd_comm b t, ← hg] at e1
  refine ⟨fun h => ⟨?_, ?_⟩, fun h => ⟨?_, ?_⟩⟩
  · rw [Int.fdiv_eq_ediv_of_dvd hgt, e1, Int.sign_eq_one_of_pos h, Int.one_mul]
  · rw [Int.fdiv_eq_ediv_of_dvd hgb, e2, Int.natCast_ediv, ← hg]
    congr 1
    omega
  · rw [Int.zero_sub, Int.fdiv_eq_ediv_of_dvd ((Int.neg_dvd).mpr hgt), e1, Int.sign_eq_neg_one_of_neg h, Int.ediv_neg, Int.neg_mul, Int.one_mul, Int.neg_ediv_of_dvd hgt]
  · rw [Int.zero_sub, Int.fdiv_eq_ediv_of_dvd ((Int.neg_dvd).mpr hgb), e2, Int.ediv_neg, Int.natCast_ediv, ← hg, ← Int.neg_ediv_of_dvd hgb]
    congr 1
    omega
theorem gcd_lt {t b : Int} {n : Nat} (hb : b ≠ 0) (h : b.natAbs < 2 ^ n) : Int.gcd t b ≠ 0 ∧ Int.gcd t b < 2 ^ n := by
  have h1 : Int.gcd t b ∣ b.natAbs := Int.gcd_dvd_natAbs_right t b
  have h2 : 0 < b.natAbs := by omega
  have h3 := Nat.le_of_dvd h2 h1
  refine ⟨fun e => ?_, by omega⟩
  rw [e] at h1
  have := Nat.eq_zero_of_zero_dvd h1
  omega
theorem fraction_toU {t b : Int} {P : PyData → Prop} (hb : b ≠ 0) (h : P (fracD (Rat.divInt t b))) : (m_fraction [.int t, .int b]).To P := by
  unfold m_fraction
  rw [pure_to]
  unfold b_fraction
  obtain ⟨g0, _⟩ := gcd_lt (t := t) (n := b.natAbs) hb Nat.lt_two_pow_self
  have hp := frac_parts (t := t) hb rfl
  simp [startL]
  refine common_part_to ?_
  generalize hg : ((Int.gcd t b : Nat) : Int) = g at hp ⊢
  have c0 : g ≠ 0 := by omega
  by_cases h0 : b < 0
  · have d1 : divC t (0 - g) = true := divU (by omega)
    have d2 : divC b (0 - g) = true := divU (by omega)
    obtain ⟨e1, e2⟩ := hp.2 h0
    have h0' : ¬ 0 ≤ b := by omega
    simp only [Int.zero_sub] at d1 d2 e1 e2
    simp [h0, h0', d1, d2, e1, e2]
    exact h
  · have d1 : divC t g = true := divU (by omega)
    have d2 : divC b g = true := divU (by omega)
    obtain ⟨e1, e2⟩ := hp.1 (by omega)
    have h0' : 0 ≤ b := by omega
    simp [h0, h0', d1, d2, e1, e2]
    exact h
theorem fraction_to {t b : Int} {P : PyData → Prop} {q9 : Prop} (hb : b ≠ 0) (_ : q9) (h : P (fracD (Rat.divInt t b))) : (m_fraction [.int t, .int b]).To P := fraction_toU hb h
end NW
namespace NW
open PySem PySem.Spec PyProof.Rows L2
theorem L_common_eq : m_L_common = m_common_part := by unfold m_L_common m_common_part; rfl
theorem common_to {a b : Int} {P : PyData → Prop} (h : P (.int (Int.gcd a b : Nat))) : (m_L_common [.int a, .int b]).To P := by rw [L_common_eq]; exact common_part_to h
end NW
namespace NW
open PySem PySem.Spec PyProof.Rows L2
theorem num_le (t b : Int) (hb : b ≠ 0) : (Rat.divInt t b).num.natAbs ≤ t.natAbs := by
  rw [Rat.num_divInt]
  refine Nat.le_trans (Int.natAbs_ediv_le_natAbs _ _) ?_
  rw [Int.natAbs_mul, Int.natAbs_sign_of_ne_zero hb, Nat.one_mul]
  exact Nat.le_refl _
theorem den_le (t b : Int) (hb : b ≠ 0) : (Rat.divInt t b).den ≤ b.natAbs := by
  rw [Rat.den_divInt, if_neg hb]
  exact Nat.div_le_self _ _
theorem lc_map {its : List PyData} {vs : List Nat} {t : MT} {c : MB} {m : ME} {l : Loc} {st : Sto} {g : PyData → PyData} {P : List PyData → Sto → Prop} {xs : List PyData}
    (h : ∀ x, x ∈ xs → (t (.d x) (wipeL l vs) st).To fun l1 s => (c l1 s).To fun b s => b = true ∧ (m l1 s).To fun u s => u = .d (g x) ∧ s = st) (fin : P (xs.map g) st) : (lcM ⟨its, []⟩ vs t c m l xs st).To P := by
  refine (lc_to (I := fun ys acc s => s = st ∧ ∃ zs, xs = zs ++ ys ∧ acc = zs.map g) (P := fun ys s => ys = xs.map g ∧ s = st) (fun _ _ _ _ => chk_nil) ?_ ?_ xs [] st ⟨rfl, [], rfl, rfl⟩).mono ?_
  · rintro x ys acc s ⟨rfl, zs, rfl, rfl⟩
    refine (h x (by simp)).mono ?_
    rintro l1 s1 h1
    refine h1.mono ?_
    rintro b s2 ⟨rfl, h2⟩
    rw [if_pos rfl]
    refine h2.mono ?_
    rintro u s3 ⟨rfl, rfl⟩
    exact ⟨_, rfl, rfl, zs ++ [x], by simp, by simp⟩
  · rintro acc s ⟨rfl, zs, rfl, rfl⟩
    simp
  · rintro ys s ⟨rfl, rfl⟩
    exact fin
theorem cAll_yes {st : Sto} {Q : U → Sto → Prop} {xs : List PyData} (h : Q (.d (.bool true)) st) : (cAll [.d (.list (xs.map fun _ => .bool true))] st).To Q := by
  have e : (xs.map fun _ => PyData.bool true) = (xs.map fun _ => true).map .bool := by rw [List.map_map]; rfl
  rw [e, to_cAll]
  have : (xs.map fun _ => true).all id = true := by simp
  rw [this]; exact h
@[simp] theorem ty_int : tyOk "int" = true := rfl
@[simp] theorem ty_bool : tyOk "bool" = true := rfl
@[simp] theorem ty_str : tyOk "str" = true := rfl
@[simp] theorem ty_list : tyOk "list" = true := rfl
@[simp] theorem ty_tuple : tyOk "tuple" = true := rfl
@[simp] theorem isi_int_int {i : Int} : isiT (.int i) "int" = true := rfl
@[simp] theorem isi_int_bool {i : Int} : isiT (.int i) "bool" = false := rfl
@[simp] theorem isi_int_str {i : Int} : isiT (.int i) "str" = false := rfl
@[simp] theorem isi_int_list {i : Int} : isiT (.int i) "list" = false := rfl
@[simp] theorem isi_int_tuple {i : Int} : isiT (.int i) "tuple" = false := rfl
@[simp] theorem isi_int_dict {i : Int} : isiT (.int i) "dict" = false := rfl
@[simp] theorem isi_bool_int {i : Bool} : isiT (.bool i) "int" = true := rfl
@[simp] theorem isi_bool_bool {i : Bool} : isiT (.bool i) "bool" = true := rfl
@[simp] theorem isi_bool_str {i : Bool} : isiT (.bool i) "str" = false := rfl
@[simp] theorem isi_bool_list {i : Bool} : isiT (.bool i) "list" = false := rfl
@[simp] theorem isi_bool_tuple {i : Bool} : isiT (.bool i) "tuple" = false := rfl
@[simp] theorem isi_bool_dict {i : Bool} : isiT (.bool i) "dict" = false := rfl
@[simp] theorem isi_list_int {i : List PyData} : isiT (.list i) "int" = false := rfl
@[simp] theorem isi_list_bool {i : List PyData} : isiT (.list i) "bool" = false := rfl
@[simp] theorem isi_list_str {i : List PyData} : isiT (.list i) "str" = false := rfl
@[simp] theorem isi_list_list {i : List PyData} : isiT (.list i) "list" = true := rfl
@[simp] theorem isi_list_tuple {i : List PyData} : isiT (.list i) "tuple" = false := rfl
@[simp] theorem isi_list_dict {i : List PyData} : isiT (.list i) "dict" = false := rfl
@[simp] theorem isi_tuple_int {i : List PyData} : isiT (.tuple i) "int" = false := rfl
@[simp] theorem isi_tuple_bool {i : List PyData} : isiT (.tuple i) "bool" = false := rfl
@[simp] theorem isi_tuple_str {i : List PyData} : isiT (.tuple i) "str" = false := rfl
@[simp] theorem isi_tuple_list {i : List PyData} : isiT (.tuple i) "list" = false := rfl
@[simp] theorem isi_tuple_tuple {i : List PyData} : isiT (.tuple i) "tuple" = true := rfl
@[simp] theorem isi_tuple_dict {i : List PyData} : isiT (.tuple i) "dict" = false := rfl
@[simp] theorem isi_none_int  : isiT .none "int" = false := rfl
@[simp] theorem isi_none_bool  : isiT .none "bool" = false := rfl
@[simp] theorem isi_none_str  : isiT .none "str" = false := rfl
@[simp] theorem isi_none_list  : isiT .none "list" = false := rfl
@[simp] theorem isi_none_tuple  : isiT .none "tuple" = false := rfl
@[simp] theorem isi_none_dict  : isiT .none "dict" = false := rfl
@[simp] theorem isi_str_int {i : Str} : isiT (.str i) "int" = false := rfl
@[simp] theorem isi_str_bool {i : Str} : isiT (.str i) "bool" = false := rfl
@[simp] theorem isi_str_str {i : Str} : isiT (.str i) "str" = true := rfl
@[simp] theorem isi_str_list {i : Str} : isiT (.str i) "list" = false := rfl
@[simp] theorem isi_str_tuple {i : Str} : isiT (.str i) "tuple" = false := rfl
@[simp] theorem isi_str_dict {i : Str} : isiT (.str i) "dict" = false := rfl
end NW
namespace NW
open PySem PySem.Spec PyProof.Rows L2
@[simp] theorem shaped_frac {q : Rat} : SeqAt.shaped (fracD q) = true := by
  simp [fracD, SeqAt.shaped, PyData.canLay0, PyData.canLayAll0, PyData.depth, PyData.depthAll]
@[simp] theorem eqv_frac {p q : Rat} : PyData.eqv (fracD p) (fracD q) = decide (p = q) := by
  rw [Bool.eq_iff_iff]
  simp [fracD, PyData.eqv, PyData.eqvAll]
  constructor
  · rintro ⟨a, b⟩
    exact Rat.ext a (by omega)
  · rintro rfl; simp
theorem mul_lt {i j : Int} {a b c : Nat} (ha : i.natAbs < 2 ^ a) (hb : j.natAbs < 2 ^ b) (h : a + b ≤ c) : (i * j).natAbs < 2 ^ c := by
  rw [Int.natAbs_mul]
  refine Nat.lt_of_lt_of_le (Nat.mul_lt_mul'' ha hb) ?_
  rw [← Nat.pow_add]
  exact Nat.pow_le_pow_right (by omega) h
end NW
namespace NW
open PySem PySem.Spec PyProof.Rows L2
section
variable {l : Loc} {st : Sto} {Q : U → Sto → Prop}
@[simp] theorem to_isiT {m : ME} {Ts : List String} : (eIsiT m Ts l st).To Q ↔ (m l st).To fun u s => ∃ x, toTree s u = some x ∧ (Ts.all tyOk && decide (Ts.length ≤ 8)) = true ∧ Q (.d (.bool (Ts.any (isiT x)))) s := by
  unfold eIsiT
  rw [to_bind]
  cases m l st with
  | ok u s => simp only [to_ok]; cases toTree s u <;> simp
  | _ => exact Iff.rfl
end
def Lk : Nat → PyData → Prop
  | 0, _ => False
  | n + 1, .list xs => xs.length ≤ 16777216 ∧ ∀ x ∈ xs, Lk n x
  | n + 1, .tuple xs => xs.length ≤ 16777216 ∧ ∀ x ∈ xs, Lk n x
  | _ + 1, .dict _ => False
  | _ + 1, .str z => (PyData.str z).canLay0 = true
  | _ + 1, _ => True
theorem Lk.mono {n m : Nat} {d : PyData} (h : Lk n d) (k : n ≤ m) : Lk m d := by
  induction n generalizing m d with
  | zero => exact h.elim
  | succ n ih =>
    obtain ⟨m, rfl⟩ : ∃ j, m = j + 1 := ⟨m - 1, by omega⟩
    cases d with
    | list xs => exact ⟨h.1, fun x hx => ih (h.2 x hx) (by omega)⟩
    | tuple xs => exact ⟨h.1, fun x hx => ih (h.2 x hx) (by omega)⟩
    | _ => exact h
theorem range_mem {n : Nat} {x : PyData} (h : x ∈ rangeD 0 1 n) : ∃ i : Nat, i < n ∧ x = .int i := by
  unfold rangeD at h
  obtain ⟨i, hi, rfl⟩ := List.mem_map.mp h
  exact ⟨i, List.mem_range.mp hi, by simp⟩
@[simp] theorem range_len {a b : Int} {n : Nat} : (rangeD a b n).length = n := by simp [rangeD]
theorem alike_to : ∀ (n : Nat) (d : PyData), Lk n d → (m_L_alike n [d, d]).To fun x => x = .bool true := by
  intro n
  induction n with
  | zero => intro d h; exact h.elim
  | succ n ih =>
    intro d h
    rw [s_L_alike, pure_to]
    unfold b_L_alike
    cases d with
    | list xs =>
      have h1 := h.1
      simp [startL, h1]
      refine ⟨decide_eq_true (by omega), by omega, ?_⟩
      refine lc_map (g := fun _ => .bool true) ?_ ?_
      rotate_left
      · exact cAll_yes (by exact rfl)
      intro x hx
      obtain ⟨i, hi, rfl⟩ := range_mem hx
      simp [wipeL, idxN_nat hi, hi]
      exact (ih _ (h.2 _ (List.getElem_mem hi))).mono fun d hd => hd
    | tuple xs => 
      have h1 := h.1
      simp [startL, h1]
      refine ⟨decide_eq_true (by omega), by omega, ?_⟩
      refine lc_map (g := fun _ => .bool true) ?_ ?_
      rotate_left
      · exact cAll_yes (by exact rfl)
      intro x hx
      obtain ⟨i, hi, rfl⟩ := range_mem hx
      simp [wipeL, idxN_nat hi, hi]
      exact (ih _ (h.2 _ (List.getElem_mem hi))).mono fun d hd => hd
    | dict xs => exact h.elim
    | str z =>
      have hs : SeqAt.shaped (.str z) = true := by
        unfold SeqAt.shaped
        rw [show (PyData.str z).canLay0 = true from h]; simp [PyData.depth]
      simp [startL, hs, PySem.SeqAt.eqv_refl _ h]
    | int i => simp [startL]
    | bool i => simp [startL]
    | none => simp [startL]; rfl
end NW
namespace NW
open PySem PySem.Spec PyProof.Rows L2
theorem L_fraction_eq : m_L_fraction = m_fraction := by
  unfold m_L_fraction m_fraction b_L_fraction b_fraction
  rw [L_common_eq]
theorem L_fraction_to {t b : Int} {P : PyData → Prop} (hb : b ≠ 0) {q9 : Prop} (hn : q9) (h : P (fracD (Rat.divInt t b))) : (m_L_fraction [.int t, .int b]).To P := by rw [L_fraction_eq]; exact fraction_toU hb h
def FB (n : Nat) (q : Rat) : Prop := q.num.natAbs < 2 ^ n ∧ q.den < 2 ^ n
theorem FB.mono {n m : Nat} {q : Rat} (h : FB n q) (k : n ≤ m) : FB m q := ⟨Nat.lt_of_lt_of_le h.1 (Nat.pow_le_pow_right (by omega) k), Nat.lt_of_lt_of_le h.2 (Nat.pow_le_pow_right (by omega) k)⟩
theorem FB.of_divInt {n : Nat} {t b : Int} (hb : b ≠ 0) (h1 : t.natAbs < 2 ^ n) (h2 : b.natAbs < 2 ^ n) : FB n (Rat.divInt t b) :=
  ⟨Nat.lt_of_le_of_lt (num_le t b hb) h1, Nat.lt_of_le_of_lt (den_le t b hb) h2⟩
theorem mk_div (a : Int) (m n : Nat) : Rat.divInt a ((m : Int) * (n : Int)) = mkRat a (m * n) := by
  rw [← Int.natCast_mul]; rfl
theorem add_divInt (p q : Rat) : Rat.divInt (p.num * q.den + q.num * p.den) (p.den * q.den) = p + q := by
  rw [Rat.add_def', mk_div]
theorem sub_divInt (p q : Rat) : Rat.divInt (p.num * q.den - q.num * p.den) (p.den * q.den) = p - q := by
  rw [Rat.sub_def', mk_div]
theorem mul_divInt (p q : Rat) : Rat.divInt (p.num * q.num) (p.den * q.den) = p * q := by
  rw [Rat.mul_def', mk_div]
theorem div_divInt (p q : Rat) : Rat.divInt (p.num * q.den) (p.den * q.num) = p / q := by
  rw [Rat.div_def, Rat.inv_def]
  conv => rhs; rw [← Rat.num_divInt_den p]
  rw [Rat.divInt_mul_divInt]
theorem den_ne (q : Rat) : (q.den : Int) ≠ 0 := by have := q.den_pos; omega
theorem FB.m {n : Nat} {i j : Int} (h1 : i.natAbs < 2 ^ n) (h2 : j.natAbs < 2 ^ n) (h0 : 0 < n) (h : n ≤ 499000) : mulC i j = true := mulC_of h1 h2 h0 h0 (by omega)
theorem mx {a b : Nat} {i j : Int} (h1 : i.natAbs < 2 ^ a) (h2 : j.natAbs < 2 ^ b) (h : a + b ≤ 999990) : mulC i j = true := mulC_of (a := a + 1) (b := b + 1) (Nat.lt_of_lt_of_le h1 (Nat.pow_le_pow_right (by omega) (by omega))) (Nat.lt_of_lt_of_le h2 (Nat.pow_le_pow_right (by omega) (by omega))) (by omega) (by omega) (by omega)
section
variable {p q : Rat} {n a' b' : Nat} {P : PyData → Prop}
end
theorem FB.add {p q : Rat} {n : Nat} (hp : FB n p) (hq : FB n q) : FB (2 * n + 1) (p + q) := by
  rw [← add_divInt]
  refine FB.of_divInt (Int.mul_ne_zero (den_ne p) (den_ne q)) ?_ (mul_lt hp.2 hq.2 (by omega))
  have e1 : (p.num * q.den).natAbs < 2 ^ (2 * n) := mul_lt hp.1 hq.2 (by omega)
  have e2 : (q.num * p.den).natAbs < 2 ^ (2 * n) := mul_lt hq.1 hp.2 (by omega)
  have : 2 ^ (2 * n + 1) = 2 * 2 ^ (2 * n) := by rw [Nat.pow_succ, Nat.mul_comm]
  omega
theorem FB.sub {p q : Rat} {n : Nat} (hp : FB n p) (hq : FB n q) : FB (2 * n + 1) (p - q) := by
  rw [← sub_divInt]
  refine FB.of_divInt (Int.mul_ne_zero (den_ne p) (den_ne q)) ?_ (mul_lt hp.2 hq.2 (by omega))
  have e1 : (p.num * q.den).natAbs < 2 ^ (2 * n) := mul_lt hp.1 hq.2 (by omega)
  have e2 : (q.num * p.den).natAbs < 2 ^ (2 * n) := mul_lt hq.1 hp.2 (by omega)
  have : 2 ^ (2 * n + 1) = 2 * 2 ^ (2 * n) := by rw [Nat.pow_succ, Nat.mul_comm]
  omega
theorem FB.mul {p q : Rat} {n : Nat} (hp : FB n p) (hq : FB n q) : FB (2 * n) (p * q) := by
  rw [← mul_divInt]
  exact FB.of_divInt (Int.mul_ne_zero (den_ne p) (den_ne q)) (mul_lt hp.1 hq.1 (by omega)) (mul_lt hp.2 hq.2 (by omega))
theorem FB.neg {p : Rat} {n : Nat} (hp : FB n p) : FB n (-p) := by
  unfold FB; rw [Rat.neg_num, Rat.neg_den, Int.natAbs_neg]; exact hp
theorem FB.zero {n : Nat} (h : 0 < n) : FB n 0 := ⟨Nat.two_pow_pos n, by have : 2 ≤ 2 ^ n := Nat.le_self_pow (by omega) 2; show 1 < 2 ^ n; omega⟩
theorem FB.one {n : Nat} (h : 0 < n) : FB n 1 := ⟨by have : 2 ≤ 2 ^ n := Nat.le_self_pow (by omega) 2; show 1 < 2 ^ n; omega, by have : 2 ≤ 2 ^ n := Nat.le_self_pow (by omega) 2; show 1 < 2 ^ n; omega⟩
end NW
namespace NW
open PySem PySem.Spec PyProof.Rows L2
section
variable {st : Sto} {Q : U → Sto → Prop} {q : Rat}
@[simp] theorem to_ixF0 : (fIx (.d (fracD q)) (.d (.int 0)) st).To Q ↔ Q (.d (.int q.num)) st := Iff.rfl
@[simp] theorem to_ixF1 : (fIx (.d (fracD q)) (.d (.int 1)) st).To Q ↔ Q (.d (.int q.den)) st := Iff.rfl
end
end NW
namespace NW
open PySem PySem.Spec PyProof.Rows L2
theorem lc_draw {its : List PyData} {vs : List Nat} {t : MT} {c : MB} {m : ME} {l : NW.Loc} {o : List Ob} {p : PyData → Prop} {P : List PyData → Sto → Prop} {xs : List PyData} {g : Fl}
    (h : ∀ x, x ∈ xs → ∀ g, FlOk g → (t (.d x) (wipeL l vs) ⟨some g, o⟩).To fun l1 s => (c l1 s).To fun b s => b = true ∧ (m l1 s).To fun u s => ∃ y, u = .d y ∧ ∃ g', s = ⟨some g', o⟩ ∧ FlOk g' ∧ p y) (hg : FlOk g)
    (fin : ∀ ys g', ys.length = xs.length → (∀ y, y ∈ ys → p y) → FlOk g' → P ys ⟨some g', o⟩) : (lcM ⟨its, []⟩ vs t c m l xs ⟨some g, o⟩).To P := by
  refine (lc_to (I := fun ys acc s => ∃ g, s = ⟨some g, o⟩ ∧ FlOk g ∧ (∃ zs, xs = zs ++ ys ∧ acc.length = zs.length) ∧ ∀ y, y ∈ acc → p y) (P := fun ys s => ∃ g, s = ⟨some g, o⟩ ∧ FlOk g ∧ ys.length = xs.length ∧ ∀ y, y ∈ ys → p y) (fun _ _ _ _ => chk_nil) ?_ ?_ xs [] _ ⟨g, rfl, hg, ⟨[], rfl, rfl⟩, by simp⟩).mono ?_
  · rintro x ys acc s ⟨g, rfl, og, ⟨zs, rfl, hz⟩, hp⟩
    refine (h x (by simp) g og).mono ?_
    rintro l1 s1 h1
    refine h1.mono ?_
    rintro b s2 ⟨rfl, h2⟩
    rw [if_pos rfl]
    refine h2.mono ?_
    rintro u s3 ⟨y, rfl, g', rfl, og', py⟩
    refine ⟨_, rfl, g', rfl, og', ⟨zs ++ [x], by simp, by simp [hz]⟩, fun w hw => ?_⟩
    rcases List.mem_append.mp hw with hw | hw
    · exact hp w hw
    · have : w = y := by simpa using hw
      subst this; exact py
  · rintro acc s ⟨g, rfl, og, ⟨zs, rfl, hz⟩, hp⟩
    exact ⟨g, rfl, og, by simp [hz], hp⟩
  · rintro ys s ⟨g, rfl, og, hl, hp⟩
    exact fin ys g hl hp og
end NW
namespace NW
def gs (g : Nat) : List Int → Nat
  | [] => g
  | t :: ts => gs (Int.gcd g t) ts
theorem gs_dvd {d : Nat} : ∀ {ts : List Int} {g : Nat}, d ∣ gs g ts ↔ d ∣ g ∧ ∀ t, t ∈ ts → (d : Int) ∣ t
  | [], g => by simp [gs]
  | t :: ts, g => by
    rw [gs, gs_dvd, Int.gcd]
    rw [Nat.dvd_gcd_iff]
    simp only [List.mem_cons, forall_eq_or_imp, Int.natAbs_natCast]
    rw [and_assoc, ← Int.ofNat_dvd_left]
theorem gs_mul {c : Nat} : ∀ {ts : List Int} {g : Nat}, gs (c * g) (ts.map fun t => (c : Int) * t) = c * gs g ts
  | [], g => rfl
  | t :: ts, g => by
    rw [List.map_cons, gs, gs]
    have : Int.gcd ((c * g : Nat) : Int) ((c : Int) * t) = c * Int.gcd g t := by
      rw [Int.natCast_mul, Int.gcd_mul_left, Int.natAbs_natCast]
    rw [this]; exact gs_mul
theorem gs_pos {ts : List Int} {g : Nat} (h : 0 < g) : 0 < gs g ts := by
  have := (gs_dvd (d := gs g ts)).mp (Nat.dvd_refl _)
  rcases Nat.eq_zero_or_pos (gs g ts) with e | e
  · rw [e] at this
    have := Nat.eq_zero_of_zero_dvd this.1
    omega
  · exact e
def Tr : List Int → Prop
  | [] => True
  | [t] => t ≠ 0
  | _ :: t :: ts => Tr (t :: ts)
theorem Tr.tail {t : Int} {ts : List Int} (h : Tr (t :: ts)) : Tr ts := by
  cases ts with
  | nil => trivial
  | cons u us => exact h
theorem tr_get {ts : List Int} (h : Tr ts) (hn : ts ≠ []) : ts.getD (ts.length - 1) 0 ≠ 0 := by
  induction ts with
  | nil => exact absurd rfl hn
  | cons t ts ih =>
    cases ts with
    | nil => simpa [Tr] using h
    | cons u us =>
      have := ih h (by simp)
      simpa using this
theorem tr_of {ts : List Int} (h : ts ≠ [] → ts.getD (ts.length - 1) 0 ≠ 0) : Tr ts := by
  induction ts with
  | nil => trivial
  | cons t ts ih =>
    cases ts with
    | nil => simpa [Tr] using h
    | cons u us => exact ih fun _ => by simpa using h (by simp)
theorem tr_ext {ts us : List Int} (h : Tr ts) (h' : Tr us) (e : ∀ k, ts.getD k 0 = us.getD k 0) : ts = us := by
  have len : ∀ {ts us : List Int}, Tr ts → (∀ k, ts.getD k 0 = us.getD k 0) → ts.length ≤ us.length := by
    intro ts us h e
    cases ts with
    | nil => simp
    | cons t ts =>
      have h1 := tr_get h (by simp)
      rw [e] at h1
      by_cases hl : (t :: ts).length ≤ us.length
      · exact hl
      · rw [List.getD_eq_getElem?_getD, List.getElem?_eq_none (by simp at hl ⊢; omega)] at h1
        simp at h1
  have l : ts.length = us.length := Nat.le_antisymm (len h e) (len h' fun k => (e k).symm)
  refine List.ext_getElem l fun i h1 h2 => ?_
  have := e i
  simpa [List.getD_eq_getElem?_getD, h1, h2] using this
structure Pol where
  ts : List Int
  b : Nat
  hb : 0 < b
  ht : Tr ts
  hg : gs b ts = 1
def Pol.co (p : Pol) (k : Nat) : Rat := Rat.divInt (p.ts.getD k 0) p.b
theorem Pol.ext_co {p q : Pol} (h : ∀ k, p.co k = q.co k) : p = q := by
  have hp := p.hb
  have hq := q.hb
  have key : ∀ k, (q.b : Int) * p.ts.getD k 0 = (p.b : Int) * q.ts.getD k 0 := fun k => by
    have := (Rat.divInt_eq_divInt_iff (by omega) (by omega)).mp (h k)
    rw [Int.mul_comm, this, Int.mul_comm]
  have dv : ∀ {p q : Pol}, (∀ k, (q.b : Int) * p.ts.getD k 0 = (p.b : Int) * q.ts.getD k 0) → p.b ∣ q.b := by
    intro p q key
    have e := gs_mul (c := q.b) (ts := p.ts) (g := p.b)
    rw [p.hg, Nat.mul_one] at e
    rw [← e]
    refine gs_dvd.mpr ⟨Nat.dvd_mul_left _ _, fun t ht => ?_⟩
    obtain ⟨u, hu, rfl⟩ := List.mem_map.mp ht
    obtain ⟨k, hk, rfl⟩ := List.getElem_of_mem hu
    have := key k
    rw [List.getD_eq_getElem?_getD, List.getElem?_eq_getElem hk] at this
    simp only [Option.getD_some] at this
    rw [this]
    exact Int.dvd_mul_right _ _
  have e : p.b = q.b := Nat.dvd_antisymm (dv key) (dv fun k => (key k).symm)
  have e2 : p.ts = q.ts := tr_ext p.ht q.ht fun k => by
    have := key k
    rw [e] at this
    exact Int.eq_of_mul_eq_mul_left (by omega) this
  cases p; cases q; cases e; cases e2; rfl
end NW
namespace NW
theorem getD_map {f : Int → Int} (h : f 0 = 0) (ts : List Int) (k : Nat) : (ts.map f).getD k 0 = f (ts.getD k 0) := by
  rw [List.getD_eq_getElem?_getD, List.getD_eq_getElem?_getD, List.getElem?_map]
  cases ts[k]? <;> simp [h]
theorem gs_mem {ts : List Int} {g : Nat} {k : Nat} : ((gs g ts : Nat) : Int) ∣ ts.getD k 0 := by
  rw [List.getD_eq_getElem?_getD]
  cases e : ts[k]? with
  | none => simp
  | some t => exact (gs_dvd.mp (Nat.dvd_refl _)).2 t (List.mem_of_getElem? e)
theorem gs_self {ts : List Int} {g : Nat} : gs g ts ∣ g := (gs_dvd.mp (Nat.dvd_refl _)).1
def mkT (ts : List Int) (h : Tr ts) (b : Nat) (hb : 0 < b) : Pol where
  ts := ts.map fun t => t / (gs b ts : Nat)
  b := b / gs b ts
  hb := Nat.div_pos (Nat.le_of_dvd hb gs_self) (gs_pos hb)
  ht := tr_of fun hn => by
    have hn' : ts ≠ [] := fun e => hn (by rw [e]; rfl)
    rw [List.length_map, getD_map (by simp)]
    intro e
    have z := tr_get h hn'
    have d := gs_mem (ts := ts) (g := b) (k := ts.length - 1)
    have c := Int.ediv_mul_cancel d
    rw [e, Int.zero_mul] at c
    exact z c.symm
  hg := by
    have hp := gs_pos (ts := ts) hb
    have e := gs_mul (c := gs b ts) (ts := ts.map fun t => t / (gs b ts : Nat)) (g := b / gs b ts)
    rw [Nat.mul_div_cancel' gs_self, List.map_map] at e
    have e2 : (ts.map ((fun t => ((gs b ts : Nat) : Int) * t) ∘ fun t => t / (gs b ts : Nat))) = ts := by
      conv => rhs; rw [← List.map_id ts]
      refine List.map_congr_left fun t ht => ?_
      exact Int.mul_ediv_cancel' ((gs_dvd.mp (Nat.dvd_refl _)).2 t ht)
    rw [e2] at e
    have : gs b ts * 1 = gs b ts * gs (b / gs b ts) (ts.map fun t => t / (gs b ts : Nat)) := by rw [Nat.mul_one]; exact e
    exact (Nat.eq_of_mul_eq_mul_left hp this).symm
theorem co_mkT {ts : List Int} {h : Tr ts} {b : Nat} {hb : 0 < b} {k : Nat} : (mkT ts h b hb).co k = Rat.divInt (ts.getD k 0) b := by
  have hp := gs_pos (ts := ts) hb
  unfold Pol.co mkT
  rw [getD_map (by simp)]
  show Rat.divInt (ts.getD k 0 / (gs b ts : Nat)) ((b / gs b ts : Nat) : Int) = _
  have e1 := Int.ediv_mul_cancel (gs_mem (ts := ts) (g := b) (k := k))
  have e2 := Nat.div_mul_cancel (gs_self (ts := ts) (g := b))
  have := Rat.divInt_mul_right (n := ts.getD k 0 / (gs b ts : Nat)) (d := ((b / gs b ts : Nat) : Int)) (a := ((gs b ts : Nat) : Int)) (by omega)
  rw [← this, e1, ← Int.natCast_mul, e2]
def tl : List Int → Nat
  | [] => 0
  | t :: ts => if tl ts = 0 then (if t = 0 then 0 else 1) else tl ts + 1
theorem tl_le : ∀ {ts : List Int}, tl ts ≤ ts.length
  | [] => by simp [tl]
  | t :: ts => by
    have := tl_le (ts := ts)
    rw [tl]; simp only [List.length_cons]
    split
    · split <;> omega
    · omega
theorem tl_get : ∀ {ts : List Int} {k : Nat}, (ts.take (tl ts)).getD k 0 = ts.getD k 0
  | [], k => by simp
  | t :: ts, 0 => by
    rw [tl]
    split
    · split
      · rename_i h; simp [h]
      · simp
    · simp
  | t :: ts, k + 1 => by
    have := tl_get (ts := ts) (k := k)
    rw [tl]
    split
    · rename_i h
      rw [h] at this
      split
      · simpa using this
      · simpa using this
    · simpa using this
theorem tl_tr : ∀ {ts : List Int}, Tr (ts.take (tl ts))
  | [] => trivial
  | t :: ts => by
    have := tl_tr (ts := ts)
    rw [tl]
    split
    · split
      · exact trivial
      · rename_i h; simpa [Tr] using h
    · rename_i h
      rw [List.take_succ_cons]
      cases e : ts.take (tl ts) with
      | nil =>
        have l := tl_le (ts := ts)
        have c : (ts.take (tl ts)).length = tl ts := by rw [List.length_take]; omega
        rw [e] at c
        exact absurd c.symm h
      | cons u us => rw [e] at this; exact this
def mk (ts : List Int) (b : Nat) : Pol := if h : 0 < b then mkT (ts.take (tl ts)) tl_tr b h else ⟨[], 1, by decide, trivial, rfl⟩
theorem co_mk {ts : List Int} {b : Nat} (h : 0 < b) (k : Nat) : (mk ts b).co k = Rat.divInt (ts.getD k 0) b := by
  unfold mk
  rw [dif_pos h, co_mkT, tl_get]
def evZ : List Int → Rat → Rat
  | [], _ => 0
  | t :: ts, x => t + x * evZ ts x
def evI : List Int → Int → Int
  | [], _ => 0
  | t :: ts, x => t + x * evI ts x
theorem evI_cast {n : Int} : ∀ {ts : List Int}, evZ ts (n : Rat) = ((evI ts n : Int) : Rat)
  | [] => by simp [evZ, evI]
  | t :: ts => by rw [evZ, evI, evI_cast, Rat.intCast_add, Rat.intCast_mul]
theorem evI_get : ∀ {ts us : List Int}, (∀ n : Int, 0 < n → evI ts n = evI us n) → ∀ k, ts.getD k 0 = us.getD k 0 := by
  have dvd : ∀ {t : Int} {f : Int → Int}, (∀ n : Int, 0 < n → t + n * f n = 0) → t = 0 ∧ ∀ n : Int, 0 < n → f n = 0 := by
    intro t f h
    have h0 : t = 0 := by
      have h1 := h (t.natAbs + 1) (by omega)
      have : ((t.natAbs : Int) + 1) ∣ t := ⟨-f (t.natAbs + 1), by rw [Int.mul_neg]; omega⟩
      have := Int.natAbs_dvd_natAbs.mpr this
      by_cases e : t = 0
      · exact e
      · have := Nat.le_of_dvd (by omega) this
        omega
    refine ⟨h0, fun n hn => ?_⟩
    have h1 := h n hn
    rw [h0, Int.zero_add] at h1
    rcases Int.mul_eq_zero.mp h1 with e | e
    · omega
    · exact e
  have zero : ∀ {ts : List Int}, (∀ n : Int, 0 < n → evI ts n = 0) → ∀ k, ts.getD k 0 = 0 := by
    intro ts
    induction ts with
    | nil => intro _ k; simp
    | cons t ts ih =>
      intro h k
      obtain ⟨a, b⟩ := dvd h
      cases k with
      | zero => simpa using a
      | succ k => simpa using ih b k
  intro ts
  induction ts with
  | nil =>
    intro us h k
    rw [zero (ts := us) fun n hn => (h n hn).symm]; simp
  | cons t ts ih =>
    intro us h k
    cases us with
    | nil => rw [zero h]; simp
    | cons u us =>
      have h' : ∀ n : Int, 0 < n → (t - u) + n * (evI ts n - evI us n) = 0 := fun n hn => by
        have := h n hn
        rw [evI, evI] at this
        rw [Int.mul_sub]; omega
      obtain ⟨a, b⟩ := dvd h'
      cases k with
      | zero => simp; omega
      | succ k => simpa using ih (fun n hn => by have := b n hn; omega) k
theorem evZ_get {x : Rat} : ∀ {ts us : List Int}, (∀ k, ts.getD k 0 = us.getD k 0) → evZ ts x = evZ us x := by
  have zero : ∀ {ts : List Int}, (∀ k, ts.getD k 0 = 0) → evZ ts x = 0 := by
    intro ts
    induction ts with
    | nil => intro _; rfl
    | cons t ts ih =>
      intro h
      have h0 := h 0
      rw [evZ, ih fun k => by simpa using h (k + 1)]
      simp at h0
      rw [h0]; grind
  intro ts
  induction ts with
  | nil => intro us h; rw [zero (ts := us) fun k => by rw [← h k]; simp]; rfl
  | cons t ts ih =>
    intro us h
    cases us with
    | nil => rw [zero (ts := t :: ts) fun k => by rw [h k]; simp]; rfl
    | cons u us =>
      have h0 := h 0
      simp at h0
      rw [evZ, evZ, h0, ih fun k => by simpa using h (k + 1)]
theorem evZ_mul {c : Int} {x : Rat} : ∀ {ts : List Int}, evZ (ts.map fun t => c * t) x = c * evZ ts x
  | [] => by simp [evZ]
  | t :: ts => by rw [List.map_cons, evZ, evZ, evZ_mul, Rat.intCast_mul]; grind
def Pol.ev (p : Pol) (x : Rat) : Rat := evZ p.ts x / (p.b : Int)
theorem Pol.ext_ev {p q : Pol} (h : ∀ x, p.ev x = q.ev x) : p = q := by
  have hp := p.hb
  have hq := q.hb
  have hp' : (((p.b : Int)) : Rat) ≠ 0 := by
    intro e; have := Rat.intCast_eq_zero_iff.mp e; omega
  have hq' : (((q.b : Int)) : Rat) ≠ 0 := by
    intro e; have := Rat.intCast_eq_zero_iff.mp e; omega
  refine Pol.ext_co fun k => ?_
  have key : ∀ n : Int, 0 < n → evI (p.ts.map fun t => (q.b : Int) * t) n = evI (q.ts.map fun t => (p.b : Int) * t) n := fun n _ => by
    refine Rat.intCast_inj.mp ?_
    rw [← evI_cast, ← evI_cast, evZ_mul, evZ_mul]
    have := h n
    unfold Pol.ev at this
    grind
  have := evI_get key k
  rw [getD_map (by simp), getD_map (by simp)] at this
  unfold Pol.co
  refine (Rat.divInt_eq_divInt_iff (by omega) (by omega)).mpr ?_
  rw [Int.mul_comm, this, Int.mul_comm]
theorem ev_mk {ts : List Int} {b : Nat} (h : 0 < b) (x : Rat) : (mk ts b).ev x = evZ ts x / (b : Int) := by
  have hm := (mk ts b).hb
  have h1 : (((b : Int)) : Rat) ≠ 0 := by
    intro e; have := Rat.intCast_eq_zero_iff.mp e; omega
  have h2 : ((((mk ts b).b : Int)) : Rat) ≠ 0 := by
    intro e; have := Rat.intCast_eq_zero_iff.mp e; omega
  have key : ∀ k, ((mk ts b).ts.map fun t => (b : Int) * t).getD k 0 = (ts.map fun t => ((mk ts b).b : Int) * t).getD k 0 := fun k => by
    rw [getD_map (by simp), getD_map (by simp)]
    have := co_mk (ts := ts) h k
    unfold Pol.co at this
    have := (Rat.divInt_eq_divInt_iff (by omega) (by omega)).mp this
    rw [Int.mul_comm, this, Int.mul_comm]
  have := evZ_get (x := x) key
  rw [evZ_mul, evZ_mul] at this
  unfold Pol.ev
  grind
end NW
namespace NW
open PySem PySem.Spec PyProof.Rows L2
def polyD (p : Pol) : PyData := .tuple [.tuple (p.ts.map .int), .int p.b]
theorem sIx_m {n d m : Nat} (h : m ≤ n) : HT.sIx n d (some (m : Int)) = m := by rw [HT.sIx_nat]; omega
theorem cutD_take {xs : List PyData} {m : Nat} (h : m ≤ xs.length) : cutD xs none (some (m : Int)) = xs.take m := by
  unfold cutD
  rw [sIx_m h, HT.sIx_none]; simp
def SeqD (S : PyData) (xs : List PyData) : Prop := S = .list xs ∨ S = .tuple xs
section
variable {S : PyData} {xs : List PyData} {st : Sto} {Q : U → Sto → Prop}
theorem SeqD.len (h : SeqD S xs) : (cLen [.d S] st).To Q ↔ Q (.d (.int xs.length)) st := by rcases h with rfl | rfl <;> exact Iff.rfl
theorem SeqD.ix (h : SeqD S xs) {i : Int} : (fIx (.d S) (.d (.int i)) st).To Q ↔ ∃ x, ((idxN xs.length i).bind fun j => xs[j]?) = some x ∧ Q (.d x) st := by rcases h with rfl | rfl <;> simp
theorem SeqD.ixn (h : SeqD S xs) {i : Nat} (hi : i < xs.length) : (fIx (.d S) (.d (.int i)) st).To Q ↔ Q (.d xs[i]) st := by
  rw [h.ix, idxN_nat hi]
  simp [hi]
theorem SeqD.sl (h : SeqD S xs) {a b : Option Int} : ∃ S', SeqD S' (cutD xs a b) ∧ ∀ (st : Sto) (Q : U → Sto → Prop), (fSl (.d S) a b st).To Q ↔ Q (.d S') st := by
  rcases h with rfl | rfl
  · exact ⟨_, .inl rfl, fun _ _ => Iff.rfl⟩
  · exact ⟨_, .inr rfl, fun _ _ => Iff.rfl⟩
theorem SeqD.src (h : SeqD S xs) : srcOf st (.d S) = some (xs, []) := by rcases h with rfl | rfl <;> rfl
end
@[simp] theorem to_tupL {st : Sto} {Q : U → Sto → Prop} {xs : List PyData} : (cTupOf [.d (.list xs)] st).To Q ↔ Q (.d (.tuple xs)) st := Iff.rfl
@[simp] theorem to_tupT {st : Sto} {Q : U → Sto → Prop} {xs : List PyData} : (cTupOf [.d (.tuple xs)] st).To Q ↔ Q (.d (.tuple xs)) st := Iff.rfl
theorem divC_nat {t : Int} {g : Nat} (h : 0 < g) {q9 : Prop} (hn : q9) : divC t g = true := divU (by omega)
theorem over_to {S : PyData} {ts : List Int} {b : Nat} {P : PyData → Prop} (hS : SeqD S (ts.map .int)) (hb : 0 < b) {q9 : Prop} (hn : q9) (hl : ts.length ≤ 16777216) (h : P (polyD (mk ts b))) : (m_over [S, .int b]).To P := by
  unfold m_over
  rw [pure_to]
  unfold b_over
  simp [startL, hS.len]
  refine while_to (I := fun n l s => s = ⟨none, []⟩ ∧ l = [some (.d S), some (.d (.int b)), some (.d (.int n)), none, none] ∧ n ≤ ts.length ∧ ∀ k, n ≤ k → ts.getD k 0 = 0) ?_ ts.length _ _ ⟨rfl, rfl, Nat.le_refl _, fun k hk => by simp [List.getD_eq_getElem?_getD, List.getElem?_eq_none hk]⟩
  rintro n l s ⟨rfl, rfl, h1, h2⟩
  have post : (n ≠ 0 → ts.getD (n - 1) 0 ≠ 0) → (sSeq (sAsg 3 (eVar 1))
      (sSeq (sFor (mAny (eSlAny (eVar 0) oNone (oSome (eVar 2)))) (gNameM 4) (sAsg 3 (eCallP 2 m_common_part (aCons (eVar 3) (aCons (eVar 4) aNil)))))
      (sRet (eTup (aCons (eCB cTupOf (aCons (eFrz (lLc (mAny (eSlAny (eVar 0) oNone (oSome (eVar 2)))) [4] (gNameM 4) bYes (eOp fDiv (eVar 4) (eVar 3)))) aNil)) (aCons (eOp fDiv (eVar 1) (eVar 3)) aNil))))) [some (.d S), some (.d (.int b)), some (.d (.int n)), none, none] ⟨none, []⟩).To (fun _ _ => P .none) (retP P) := by
    intro hz
    obtain ⟨S', hS', hsl⟩ := hS.sl (a := none) (b := some (n : Int))
    rw [cutD_take (by simpa using h1), ← List.map_take] at hS'
    have tr : Tr (ts.take n) := tr_of fun hne => by
      have hn0 : n ≠ 0 := fun e => by subst e; simp at hne
      have := hz hn0
      rw [List.length_take, Nat.min_eq_left h1]
      rw [List.getD_eq_getElem?_getD, List.getElem?_take_of_lt (by omega), ← List.getD_eq_getElem?_getD]
      exact this
    have eq : mkT (ts.take n) tr b hb = mk ts b := Pol.ext_co fun k => by
      rw [co_mkT, co_mk hb]
      congr 1
      by_cases hk : k < n
      · rw [List.getD_eq_getElem?_getD, List.getElem?_take_of_lt hk, ← List.getD_eq_getElem?_getD]
      · rw [h2 k (by omega), List.getD_eq_getElem?_getD, List.getElem?_eq_none (by simp; omega)]; rfl
    have hly : (ts.take n).length ≤ 16777216 := by simp; omega
    clear hz h2
    generalize ts.take n = ys at hS' tr eq hly
    have hgp := gs_pos (ts := ys) hb
    have hgl : gs b ys ≤ b := Nat.le_of_dvd hb gs_self
    simp [hsl, hS'.src]
    refine ⟨_, _, ⟨rfl, rfl⟩, ?_⟩
    refine for_to (I := fun zs l s => s = ⟨none, []⟩ ∧ ∃ (as bs : List Int) (v : Option U), ys = as ++ bs ∧ zs = bs.map .int ∧ l = [some (.d S), some (.d (.int b)), some (.d (.int n)), some (.d (.int (gs b as))), v]) (fun _ _ _ _ => chk_nil) ?_ ?_ _ _ _ ⟨rfl, [], ys, none, rfl, rfl, rfl⟩
    · rintro x zs l s ⟨rfl, as, bs, v, e1, e2, rfl⟩
      cases bs with
      | nil => cases e2
      | cons c bs =>
        cases e2
        simp
        refine common_part_to ?_
        refine ⟨as ++ [c], bs, by rw [e1]; simp, rfl, ?_⟩
        have : ∀ (as : List Int) (g : Nat), gs g (as ++ [c]) = Int.gcd (gs g as) c := by
          intro as
          induction as with
          | nil => intro g; rfl
          | cons a as ih => intro g; rw [List.cons_append, gs, gs, ih]
        rw [this]
    · rintro l s ⟨rfl, as, bs, v, e1, e2, rfl⟩
      have : bs = [] := by cases bs with | nil => rfl | cons c bs => cases e2
      subst this
      rw [List.append_nil] at e1
      subst e1
      have dv : ∀ t : Int, divC t (gs b ys) = true := fun t => divC_nat hgp trivial
      simp [hsl, hS'.src, dv]
      refine ⟨_, _, ⟨rfl, rfl⟩, by simpa using hly, ?_⟩
      refine lc_map (g := fun x => match x with | .int t => .int (t.fdiv (gs b ys)) | _ => .none) ?_ ?_
      · intro x hx
        obtain ⟨t, ht, rfl⟩ := List.mem_map.mp hx
        simp [wipeL, dv]
      · simp
        have e : polyD (mk ts b) = .tuple [.tuple (List.map ((fun x => match x with | PyData.int t => PyData.int (t.fdiv (gs b ys)) | _ => PyData.none) ∘ PyData.int) ys), .int ((b : Int).fdiv (gs b ys))] := by
          rw [← eq]
          unfold polyD mkT
          simp only [List.map_map]
          congr 3
          · refine List.map_congr_left fun t ht => ?_
            show PyData.int (t / (gs b ys : Nat)) = PyData.int (t.fdiv (gs b ys : Nat))
            rw [Int.fdiv_eq_ediv_of_nonneg _ (by omega)]
          · show PyData.int ((b / gs b ys : Nat) : Int) = PyData.int ((b : Int).fdiv (gs b ys : Nat))
            rw [Int.fdiv_eq_ediv_of_nonneg _ (by omega), Int.natCast_ediv]
        rw [e] at h
        exact h
  have gi : ∀ k (hk : k < ts.length), ts.getD k 0 = ts[k] := fun k hk => by simp [List.getD_eq_getElem?_getD, hk]
  by_cases hn0 : n = 0
  · subst hn0
    simp at post ⊢
    exact post
  · have hlt : n - 1 < ts.length := by omega
    have e1 : ((n : Int) - 1) = ((n - 1 : Nat) : Int) := by omega
    have e2 : (0 : Int) < n := by omega
    by_cases hz : ts.getD (n - 1) 0 = 0
    · have hz' := hz
      rw [gi _ hlt] at hz'
      simp [-List.getD_eq_getElem?_getD, hn0, e1, e2, hS.ixn, hlt, hz']
      clear hn
      refine ⟨by omega, n - 1, by omega, rfl, by omega, fun k hk => ?_⟩
      by_cases e : k = n - 1
      · subst e; exact hz
      · exact h2 k (by omega)
    · have hz' := hz
      rw [gi _ hlt] at hz'
      simp at post
      simp [hn0, e1, e2, hS.ixn, hlt, hz']
      exact ⟨by omega, post fun _ => by simpa using hz⟩
end NW
namespace NW
open PySem PySem.Spec PyProof.Rows L2
def lcms (b : Nat) : List Rat → Nat
  | [] => b
  | q :: qs => lcms (Nat.lcm b q.den) qs
theorem lcms_dvd : ∀ {qs : List Rat} {b : Nat}, b ∣ lcms b qs ∧ ∀ q, q ∈ qs → q.den ∣ lcms b qs
  | [], b => ⟨Nat.dvd_refl _, fun q h => by cases h⟩
  | q :: qs, b => by
    obtain ⟨h1, h2⟩ := lcms_dvd (qs := qs) (b := Nat.lcm b q.den)
    rw [lcms]
    refine ⟨Nat.dvd_trans (Nat.dvd_lcm_left _ _) h1, fun r hr => ?_⟩
    rcases List.mem_cons.mp hr with rfl | hr
    · exact Nat.dvd_trans (Nat.dvd_lcm_right _ _) h1
    · exact h2 r hr
theorem lcms_pos : ∀ {qs : List Rat} {b : Nat}, 0 < b → 0 < lcms b qs
  | [], b, h => h
  | q :: qs, b, h => by rw [lcms]; exact lcms_pos (Nat.lcm_pos h q.den_pos)
def ofC (qs : List Rat) : Pol := mk (qs.map fun q => q.num * ((lcms 1 qs / q.den : Nat) : Int)) (lcms 1 qs)
theorem co_ofC {qs : List Rat} (k : Nat) : (ofC qs).co k = qs.getD k 0 := by
  unfold ofC
  have hb : 0 < lcms 1 qs := lcms_pos (by decide)
  rw [co_mk hb, List.getD_eq_getElem?_getD, List.getD_eq_getElem?_getD, List.getElem?_map]
  cases e : qs[k]? with
  | none => simp
  | some q =>
    have hd := (lcms_dvd (b := 1)).2 q (List.mem_of_getElem? e)
    simp only [Option.map_some, Option.getD_some]
    have e2 := Nat.div_mul_cancel hd
    have hn : ((lcms 1 qs / q.den : Nat) : Int) ≠ 0 := by
      intro h0
      have : lcms 1 qs / q.den = 0 := by omega
      rw [this] at e2; omega
    have := Rat.divInt_mul_right (n := q.num) (d := (q.den : Int)) (a := ((lcms 1 qs / q.den : Nat) : Int)) hn
    rw [Rat.num_divInt_den, ← Int.natCast_mul, Nat.mul_comm q.den, e2] at this
    exact this
theorem lcm_eq (b d : Nat) (h : 0 < b) : ((b : Int) * d).fdiv (Nat.gcd b d : Nat) = ((Nat.lcm b d : Nat) : Int) := by
  rw [Int.fdiv_eq_ediv_of_nonneg _ (by omega), Nat.lcm, Int.natCast_ediv, Int.natCast_mul]
theorem lcm_lt {a b m n : Nat} (h1 : a < 2 ^ m) (h2 : b < 2 ^ n) : Nat.lcm a b < 2 ^ (m + n) := by
  refine Nat.lt_of_le_of_lt (Nat.div_le_self _ _) ?_
  rw [Nat.pow_add]
  exact Nat.mul_lt_mul'' h1 h2
theorem poly_to {S : PyData} {qs : List Rat} {n : Nat} {P : PyData → Prop} (hS : SeqD S (qs.map fracD)) (hq : ∀ q, q ∈ qs → FB n q) (hn : qs.length * n ≤ 400000) (h0 : 0 < n) (hn' : n ≤ 400000) (hl : qs.length ≤ 16777216) (h : P (polyD (ofC qs))) : (m_poly [S]).To P := by
  unfold m_poly
  rw [pure_to]
  unfold b_poly
  simp [startL, hS.src]
  refine ⟨_, _, ⟨rfl, rfl⟩, ?_⟩
  refine for_to (I := fun zs l s => s = ⟨none, []⟩ ∧ ∃ (as bs : List Rat) (v w : Option U) (c : Nat), qs = as ++ bs ∧ zs = bs.map fracD ∧ l = [some (.d S), some (.d (.int c)), v, w] ∧ lcms c bs = lcms 1 qs ∧ 0 < c ∧ c < 2 ^ (as.length * n + 1)) (fun _ _ _ _ => chk_nil) ?_ ?_ _ _ _ ⟨rfl, [], qs, none, none, 1, rfl, rfl, rfl, rfl, by decide, by simp⟩
  · rintro x zs l s ⟨rfl, as, bs, v, w, c, e1, e2, rfl, e3, e4, e5⟩
    cases bs with
    | nil => cases e2
    | cons q bs =>
      cases e2
      have fq := hq q (by rw [e1]; simp)
      have hlen : (as.length + 1) * n ≤ 400000 := Nat.le_trans (Nat.mul_le_mul_right n (by rw [e1]; simp)) hn
      rw [Nat.add_mul, Nat.one_mul] at hlen
      have m1 : mulC c q.den = true := mulC_of (a := as.length * n + 1) (b := n) (by simpa using e5) (by simpa using fq.2) (by omega) h0 (by omega)
      have hg : 0 < Nat.gcd c q.den := Nat.gcd_pos_of_pos_left _ e4
      have hg2 : True := trivial
      simp [fracD, m1]
      refine common_part_to ?_
      simp [divC_nat hg hg2, lcm_eq c q.den e4]
      refine ⟨as ++ [q], bs, by rw [e1]; simp, rfl, _, _, _, ⟨rfl, rfl, rfl⟩, e3, Nat.lcm_pos e4 q.den_pos, ?_⟩
      have := lcm_lt e5 fq.2
      rw [List.length_append, Nat.add_mul]
      refine Nat.lt_of_lt_of_le this (Nat.pow_le_pow_right (by omega) ?_)
      simp; omega
  · rintro l s ⟨rfl, as, bs, v, w, c, e1, e2, rfl, e3, e4, e5⟩
    have : bs = [] := by cases bs with | nil => rfl | cons c bs => cases e2
    subst this
    have e3' : c = lcms 1 qs := e3
    subst e3'
    rw [List.append_nil] at e1
    subst e1
    have hB : True := trivial
    simp [hS.src]
    refine ⟨_, _, ⟨rfl, rfl⟩, by simpa using hl, ?_⟩
    refine lc_mapA (g := fun q => .int (q.num * ((lcms 1 qs / q.den : Nat) : Int))) chk_nil ?_ ?_
    · intro q hq'
      have fq := hq q hq'
      have hd : 0 < q.den := q.den_pos
      have hq1 : True := trivial
      have hl2 : True := trivial
      have e : ((lcms 1 qs : Nat) : Int).fdiv (q.den : Int) = ((lcms 1 qs / q.den : Nat) : Int) := by
        rw [Int.fdiv_eq_ediv_of_nonneg _ (by omega), Int.natCast_ediv]
      have m1 : mulC q.num ((lcms 1 qs / q.den : Nat) : Int) = true := mulC_of (a := n) (b := qs.length * n + 1) fq.1 (by rw [Int.natAbs_natCast]; exact Nat.lt_of_le_of_lt (Nat.div_le_self _ _) e5) h0 (by omega) (by omega)
      rw [Int.natCast_ediv] at m1 e
      simp [wipeL, fracD, divC_nat hd hq1, e, m1]
    · unfold ofC at h
      refine over_to (.inl ?_) (lcms_pos (by decide)) hB ?_ h
      · rw [List.map_map]; rfl
      · simpa using hl
theorem fraction_at_to {p : Pol} {k : Nat} {P : PyData → Prop} {q9 : Prop} (hb : q9) (h : P (fracD (p.co k))) : (m_fraction_at [polyD p, .int k]).To P := by
  unfold m_fraction_at
  rw [pure_to]
  unfold b_fraction_at
  have hp := p.hb
  by_cases hk : p.ts.length ≤ k
  · have e : p.co k = 0 := by
      unfold Pol.co
      rw [List.getD_eq_getElem?_getD, List.getElem?_eq_none hk]; simp
    rw [e] at h
    simp [startL, polyD, hk]
    exact h
  · have e : p.ts.getD k 0 = p.ts[k]'(by omega) := by simp [List.getD_eq_getElem?_getD, List.getElem?_eq_getElem (show k < p.ts.length by omega)]
    have hk' : k < p.ts.length := by omega
    unfold Pol.co at h
    rw [e] at h
    simp [startL, polyD, hk, hk', idxN_nat (show k < p.ts.length by omega)]
    exact fraction_to (by omega) trivial h
theorem len_of {p : Pol} {m : Nat} (h1 : ∀ k, m ≤ k → p.co k = 0) (h2 : m ≠ 0 → p.co (m - 1) ≠ 0) : p.ts.length = m := by
  have hp := p.hb
  have z : ∀ k, p.co k = 0 ↔ p.ts.getD k 0 = 0 := fun k => by
    unfold Pol.co
    constructor
    · intro h
      have e : Rat.divInt (p.ts.getD k 0) p.b = Rat.divInt 0 1 := by rw [h, Rat.zero_divInt]
      have := (Rat.divInt_eq_divInt_iff (by omega) (by omega)).mp e
      omega
    · intro h; rw [h]; simp
  rcases Nat.lt_trichotomy p.ts.length m with h | h | h
  · exfalso
    refine h2 (by omega) ((z _).mpr ?_)
    rw [List.getD_eq_getElem?_getD, List.getElem?_eq_none (by omega)]; rfl
  · exact h
  · exfalso
    have hn : p.ts ≠ [] := fun e => by rw [e] at h; simp at h
    exact tr_get p.ht hn ((z _).mp (h1 _ (by omega)))
end NW
namespace NW
open PySem PySem.Spec PyProof.Rows L2
def evC : Nat → (Nat → Rat) → Rat → Rat
  | 0, _, _ => 0
  | n + 1, f, x => f 0 + x * evC n (fun k => f (k + 1)) x
theorem evC_add {x : Rat} : ∀ {n : Nat} {f g : Nat → Rat}, evC n (fun k => f k + g k) x = evC n f x + evC n g x
  | 0, _, _ => by simp [evC]; grind
  | n + 1, f, g => by rw [evC, evC, evC, evC_add]; grind
theorem evC_mul {x c : Rat} : ∀ {n : Nat} {f : Nat → Rat}, evC n (fun k => c * f k) x = c * evC n f x
  | 0, _ => by simp [evC]
  | n + 1, f => by rw [evC, evC, evC_mul]; grind
theorem evC_evZ {x : Rat} : ∀ {ts : List Int} {n : Nat}, ts.length ≤ n → evC n (fun k => ((ts.getD k 0 : Int) : Rat)) x = evZ ts x
  | [], n, _ => by
    induction n with
    | zero => rfl
    | succ n ih =>
      have := ih (by simp)
      simp [evZ] at this
      rw [evC]
      simp [this, evZ]; grind
  | t :: ts, 0, h => by simp at h
  | t :: ts, n + 1, h => by
    rw [evC, evZ]
    have := evC_evZ (x := x) (ts := ts) (n := n) (by simpa using h)
    simp only [List.getD_cons_zero, List.getD_cons_succ]
    rw [this]
theorem divInt_div (a : Int) (b : Int) : Rat.divInt a b = (a : Rat) / (b : Rat) := by
  rw [Rat.divInt_eq_div]
theorem Pol.bne (p : Pol) : ((p.b : Int) : Rat) ≠ 0 := by
  have := p.hb
  intro e; have := Rat.intCast_eq_zero_iff.mp e; omega
theorem ev_co {p : Pol} {n : Nat} {x : Rat} (h : p.ts.length ≤ n) : p.ev x = evC n p.co x := by
  have e : p.co = fun k => (1 / ((p.b : Int) : Rat)) * ((p.ts.getD k 0 : Int) : Rat) := funext fun k => by
    unfold Pol.co
    rw [divInt_div]; grind
  rw [e, evC_mul, evC_evZ h]
  unfold Pol.ev
  grind
theorem evZ_set {x : Rat} {d : Int} : ∀ {ts : List Int} {k : Nat} {t : Int}, ts[k]? = some t → evZ (ts.set k (t + d)) x = evZ ts x + d * x ^ k
  | [], _, _, h => by simp at h
  | a :: ts, 0, t, h => by
    simp at h; subst h
    rw [List.set_cons_zero, evZ, evZ, Rat.intCast_add]; grind
  | a :: ts, k + 1, t, h => by
    have := evZ_set (x := x) (d := d) (ts := ts) (k := k) (t := t) (by simpa using h)
    rw [List.set_cons_succ, evZ, evZ, this]
    grind
theorem evZ_zero {x : Rat} : ∀ {n : Nat}, evZ (List.replicate n 0) x = 0
  | 0 => rfl
  | n + 1 => by rw [List.replicate_succ, evZ, evZ_zero]; simp; grind
end NW
namespace NW
open PySem PySem.Spec PyProof.Rows L2
section
variable {l : Loc} {st : Sto} {P : List PyData → Sto → Prop}
@[simp] theorem to_lOp {f : U → U → Sto → Res (List PyData)} {a b : ME} : (lOp f a b l st).To P ↔ (a l st).To fun x s => (b l s).To fun y s => (f x y s).To P := by unfold lOp; simp
@[simp] theorem to_rep1 {x : PyData} {k : Int} : (fRep (.d (.list [x])) (.d (.int k)) st).To P ↔ (-(2 ^ 63) ≤ k ∧ k < 2 ^ 63 ∧ k.toNat ≤ 16777216) ∧ P (List.replicate k.toNat x) st := by
  have e : (List.replicate k.toNat [x]).flatten = List.replicate k.toNat x := by
    generalize k.toNat = n
    induction n with
    | zero => rfl
    | succ n ih => rw [List.replicate_succ, List.flatten_cons, ih, List.replicate_succ]; rfl
  show (if (decide (-(2 ^ 63) ≤ k ∧ k < 2 ^ 63) && lenOk ([x].length * k.toNat)) = true then Res.ok (List.replicate k.toNat [x]).flatten st else .no).To P ↔ _
  rw [to_ite, e]
  simp only [Bool.and_eq_true, decide_eq_true_eq, lenOk_small, List.length_singleton, Nat.one_mul]
  split
  · rename_i h; exact ⟨fun z => ⟨⟨h.1.1, h.1.2, h.2⟩, z⟩, fun z => z.2⟩
  · rename_i h; exact ⟨fun z => z.elim, fun z => (h ⟨⟨z.1.1, z.1.2.1⟩, z.1.2.2⟩).elim⟩
end
theorem noLst_poly {p : Pol} : noLst (polyD p) = true := by
  have : ∀ ts : List Int, noLsts (ts.map .int) = true := by
    intro ts
    induction ts with
    | nil => rfl
    | cons t ts ih => rw [List.map_cons, noLsts, ih]; rfl
  simp [polyD, noLst, noLsts, this]
def PBt (n m : Nat) (p : Pol) : Prop := p.ts.length ≤ m ∧ p.b < 2 ^ n ∧ ∀ t, t ∈ p.ts → t.natAbs < 2 ^ n
theorem PBt.get {n m : Nat} {p : Pol} (h : PBt n m p) (k : Nat) : (p.ts.getD k 0).natAbs < 2 ^ n := by
  rw [List.getD_eq_getElem?_getD]
  cases e : p.ts[k]? with
  | none => simp [Nat.two_pow_pos]
  | some t => exact h.2.2 t (List.mem_of_getElem? e)
def sumL (p q : Pol) : List Int := (List.range (max p.ts.length q.ts.length)).map fun k => p.ts.getD k 0 * q.b + q.ts.getD k 0 * p.b
instance : Add Pol := ⟨fun p q => mk (sumL p q) (p.b * q.b)⟩
theorem sumL_get {p q : Pol} {k : Nat} : (sumL p q).getD k 0 = p.ts.getD k 0 * q.b + q.ts.getD k 0 * p.b := by
  unfold sumL
  rw [List.getD_eq_getElem?_getD, List.getElem?_map]
  by_cases h : k < max p.ts.length q.ts.length
  · rw [List.getElem?_range h]; rfl
  · rw [List.getElem?_eq_none (by simp; omega)]
    rw [List.getD_eq_getElem?_getD, List.getD_eq_getElem?_getD, List.getElem?_eq_none (by omega), List.getElem?_eq_none (by omega)]
    simp
theorem co_add {p q : Pol} {k : Nat} : (p + q).co k = p.co k + q.co k := by
  have hp := p.hb
  have hq := q.hb
  show (mk (sumL p q) (p.b * q.b)).co k = _
  rw [co_mk (Nat.mul_pos hp hq), sumL_get]
  unfold Pol.co
  rw [Rat.divInt_add_divInt _ _ (by omega) (by omega), Int.natCast_mul]
theorem ev_add {p q : Pol} {x : Rat} : (p + q).ev x = p.ev x + q.ev x := by
  have e : (p + q).co = fun k => p.co k + q.co k := funext fun k => co_add
  rw [ev_co (n := max (p + q).ts.length (max p.ts.length q.ts.length)) (by omega), e, evC_add, ← ev_co (by omega), ← ev_co (by omega)]
section
variable {st : Sto} {Q : U → Sto → Prop} {p : Pol}
@[simp] theorem to_ixP0 : (fIx (.d (polyD p)) (.d (.int 0)) st).To Q ↔ Q (.d (.tuple (p.ts.map .int))) st := Iff.rfl
@[simp] theorem to_ixP1 : (fIx (.d (polyD p)) (.d (.int 1)) st).To Q ↔ Q (.d (.int p.b)) st := Iff.rfl
end
theorem for_ix {d : ItD} {t : MT} {b : MS} {N : Loc → Sto → Prop} {R : U → Sto → Prop} (I : Nat → Loc → Sto → Prop) {xs : List PyData} {l : Loc} {st : Sto} (hk : ∀ k l st, I k l st → d.chk st) (start : I 0 l st)
    (step : ∀ k x l st, xs[k]? = some x → I k l st → (t (.d x) l st).To fun l s => (b l s).To (I (k + 1)) R) (fin : ∀ l st, I xs.length l st → N l st) : (forM d t b xs l st).To N R := by
  refine for_to (I := fun ys l s => ∃ k, I k l s ∧ ∃ zs, xs = zs ++ ys ∧ zs.length = k) (fun _ _ _ ⟨k, h, _⟩ => hk k _ _ h) ?_ ?_ xs l st ⟨0, start, [], rfl, rfl⟩
  · rintro x ys l s ⟨k, h, zs, rfl, rfl⟩
    refine (step zs.length x l s (by simp) h).mono ?_
    intro l1 s1 h1
    exact h1.mono (fun l2 s2 h2 => ⟨_, h2, zs ++ [x], by simp, by simp⟩) (fun _ _ z => z)
  · rintro l s ⟨k, h, zs, e, rfl⟩
    rw [List.append_nil] at e
    subst e
    exact fin l s h
theorem enum_int {ts : List Int} {k : Nat} {x : PyData} (h : (enumD (ts.map .int))[k]? = some x) : ∃ t, ts[k]? = some t ∧ x = .tuple [.int (k : Nat), .int t] := by
  obtain ⟨y, h1, rfl⟩ := enumD_get h
  rw [List.getElem?_map] at h1
  cases e : ts[k]? with
  | none => rw [e] at h1; cases h1
  | some t => rw [e] at h1; cases h1; exact ⟨t, rfl, rfl⟩
theorem map_set {L : List Int} {k : Nat} {t : Int} : (L.map PyData.int).set k (.int t) = (L.set k t).map .int := by rw [List.map_set]
end NW
namespace NW
open PySem PySem.Spec PyProof.Rows L2
def Pol.sc (p : Pol) (r : Rat) : Pol := NW.mk (p.ts.map fun t => t * r.num) (p.b * r.den)
theorem co_sc {p : Pol} {r : Rat} {k : Nat} : (p.sc r).co k = p.co k * r := by
  have hp := p.hb
  have hr := r.den_pos
  unfold Pol.sc
  rw [co_mk (Nat.mul_pos hp hr), getD_map (by simp)]
  unfold Pol.co
  conv => rhs; rw [← Rat.num_divInt_den r]
  rw [Rat.divInt_mul_divInt, Int.natCast_mul]
theorem evC_mulr {x c : Rat} : ∀ {n : Nat} {f : Nat → Rat}, evC n (fun k => f k * c) x = evC n f x * c
  | 0, _ => by simp [evC]
  | n + 1, f => by rw [evC, evC, evC_mulr]; grind
theorem ev_sc {p : Pol} {r x : Rat} : (p.sc r).ev x = p.ev x * r := by
  have e : (p.sc r).co = fun k => p.co k * r := funext fun k => co_sc
  rw [ev_co (n := max (p.sc r).ts.length p.ts.length) (by omega), e, evC_mulr, ← ev_co (by omega)]
end NW
namespace NW
open PySem PySem.Spec PyProof.Rows L2
theorem idx_last {n : Nat} (h : 0 < n) : idxN n (-1) = some (n - 1) := by
  unfold idxN
  rw [if_neg (by omega), if_pos (by omega)]
  congr 1; omega
@[simp] theorem shaped_poly {p : Pol} : SeqAt.shaped (polyD p) = true := by
  have c : ∀ ts : List Int, PyData.canLayAll0 (ts.map .int) = true ∧ PyData.depthAll (ts.map .int) ≤ 0 := by
    intro ts
    induction ts with
    | nil => exact ⟨rfl, by simp [PyData.depthAll]⟩
    | cons t ts ih => exact ⟨by simp [PyData.canLayAll0, PyData.canLay0, ih.1], by simpa [PyData.depthAll, PyData.depth] using ih.2⟩
  have := c p.ts
  simp [polyD, SeqAt.shaped, PyData.canLay0, PyData.canLayAll0, PyData.depth, PyData.depthAll, this.1]
  omega
theorem eqvAll_ints : ∀ {ts us : List Int}, PyData.eqvAll (ts.map .int) (us.map .int) = decide (ts = us)
  | [], [] => by simp [PyData.eqvAll]
  | [], _ :: _ => by simp [PyData.eqvAll]
  | _ :: _, [] => by simp [PyData.eqvAll]
  | t :: ts, u :: us => by
    rw [List.map_cons, List.map_cons, PyData.eqvAll, eqvAll_ints, eqv_int, ← Bool.decide_and]
    exact decide_eq_decide.mpr (by rw [List.cons.injEq])
@[simp] theorem eqv_poly {p q : Pol} : PyData.eqv (polyD p) (polyD q) = true ↔ p = q := by
  simp only [polyD, PyData.eqv, PyData.eqvAll, eqvAll_ints]
  simp
  constructor
  · rintro ⟨a, b⟩
    cases p; cases q
    simp at a b
    have b' := Int.ofNat.inj b
    subst a; subst b'; rfl
  · rintro rfl; simp
theorem lk_poly {n : Nat} {p : Pol} (h : p.ts.length ≤ 1000) : Lk (n + 3) (polyD p) := ⟨by simp, fun x hx => by
  simp at hx
  rcases hx with rfl | rfl
  · exact ⟨by simp; omega, fun x hx => by
      obtain ⟨t, ht, rfl⟩ := List.mem_map.mp hx
      trivial⟩
  · trivial⟩
theorem ofC_len {qs : List Rat} : (ofC qs).ts.length ≤ qs.length := by
  by_cases h : (ofC qs).ts.length ≤ qs.length
  · exact h
  · exfalso
    have hn : (ofC qs).ts ≠ [] := fun e => by rw [e] at h; simp at h
    have hb := (ofC qs).hb
    have := tr_get (ofC qs).ht hn
    have e := co_ofC (qs := qs) ((ofC qs).ts.length - 1)
    rw [List.getD_eq_getElem?_getD (l := qs), List.getElem?_eq_none (by omega)] at e
    unfold Pol.co at e
    have e2 : Rat.divInt ((ofC qs).ts.getD ((ofC qs).ts.length - 1) 0) (ofC qs).b = Rat.divInt 0 1 := by rw [e, Rat.zero_divInt]; rfl
    have := (Rat.divInt_eq_divInt_iff (by omega) (by omega)).mp e2
    omega
theorem mk_b_le {ts : List Int} {b : Nat} (hb : 0 < b) : (mk ts b).b ≤ b := by
  unfold mk
  rw [dif_pos hb]
  exact Nat.div_le_self _ _
theorem lcms_lt {n : Nat} : ∀ {qs : List Rat} {b m : Nat}, (∀ q, q ∈ qs → FB n q) → b < 2 ^ m → lcms b qs < 2 ^ (m + qs.length * n)
  | [], b, m, _, h => by simpa [lcms] using h
  | q :: qs, b, m, hq, h => by
    rw [lcms]
    have := lcms_lt (fun r hr => hq r (List.mem_cons_of_mem _ hr)) (lcm_lt h (hq q (by simp)).2)
    refine Nat.lt_of_lt_of_le this (Nat.pow_le_pow_right (by omega) ?_)
    simp [Nat.add_mul]; omega
theorem lay_all {xs : List PyData} (h : ∀ x, x ∈ xs → x.canLay0 = true) : PyData.canLayAll0 xs = true := by
  induction xs with
  | nil => rfl
  | cons x xs ih => rw [PyData.canLayAll0, h x (by simp), ih fun y hy => h y (by simp [hy])]; rfl
theorem depth_all {n : Nat} {xs : List PyData} (h : ∀ x, x ∈ xs → x.depth ≤ n) : PyData.depthAll xs ≤ n := by
  induction xs with
  | nil => simp [PyData.depthAll]
  | cons x xs ih => rw [PyData.depthAll]; exact Nat.max_le.mpr ⟨h x (by simp), ih fun y hy => h y (by simp [hy])⟩
theorem lk_lay : ∀ {n : Nat} {d : PyData}, Lk n d → d.canLay0 = true ∧ d.depth ≤ n := by
  intro n
  induction n with
  | zero => intro d h; exact h.elim
  | succ n ih =>
    intro d h
    cases d with
    | list xs =>
      refine ⟨by rw [PyData.canLay0]; exact lay_all fun x hx => (ih (h.2 x hx)).1, ?_⟩
      rw [PyData.depth]
      have := depth_all (n := n) (xs := xs) fun x hx => (ih (h.2 x hx)).2
      omega
    | tuple xs =>
      refine ⟨by rw [PyData.canLay0]; exact lay_all fun x hx => (ih (h.2 x hx)).1, ?_⟩
      rw [PyData.depth]
      have := depth_all (n := n) (xs := xs) fun x hx => (ih (h.2 x hx)).2
      omega
    | dict xs => exact h.elim
    | str z => exact ⟨h, by simp [PyData.depth]⟩
    | _ => exact ⟨rfl, by simp [PyData.depth]⟩
theorem lk_shaped {n : Nat} {d : PyData} (h : Lk n d) (hn : n ≤ 64) : SeqAt.shaped d = true := by
  obtain ⟨a, b⟩ := lk_lay h
  unfold SeqAt.shaped
  rw [a, Bool.true_and]; exact decide_eq_true (by omega)
theorem cutD_takeN {xs : List PyData} {k : Nat} : cutD xs none (some (k : Int)) = xs.take k := by
  unfold cutD
  rw [HT.sIx_nat, HT.sIx_none]
  rw [List.drop_zero, Nat.sub_zero]
  by_cases h : k ≤ xs.length
  · rw [Nat.min_eq_left h]
  · rw [Nat.min_eq_right (by omega), List.take_of_length_le (Nat.le_refl _), List.take_of_length_le (by omega)]
end NW
namespace NW
open PySem PySem.Spec PyProof.Rows L2
def addZ : List Int → List Int → List Int
  | [], us => us
  | t :: ts, [] => t :: ts
  | t :: ts, u :: us => (t + u) :: addZ ts us
def mulZ : List Int → List Int → List Int
  | [], _ => []
  | t :: ts, us => addZ (us.map fun u => t * u) (0 :: mulZ ts us)
theorem evZ_addZ {x : Rat} : ∀ {ts us : List Int}, evZ (addZ ts us) x = evZ ts x + evZ us x
  | [], us => by rw [addZ]; simp [evZ]; grind
  | t :: ts, [] => by rw [addZ]; simp [evZ]; grind
  | t :: ts, u :: us => by rw [addZ, evZ, evZ, evZ, evZ_addZ, Rat.intCast_add]; grind
theorem evZ_mulZ {x : Rat} : ∀ {ts us : List Int}, evZ (mulZ ts us) x = evZ ts x * evZ us x
  | [], us => by rw [mulZ]; simp [evZ]
  | t :: ts, us => by rw [mulZ, evZ_addZ, evZ_mul, evZ, evZ, evZ_mulZ]; simp; grind
theorem addZ_len : ∀ {ts us : List Int} {m : Nat}, ts.length ≤ m → us.length ≤ m → (addZ ts us).length ≤ m
  | [], us, m, _, h => h
  | t :: ts, [], m, h, _ => h
  | t :: ts, u :: us, 0, h, _ => by simp at h
  | t :: ts, u :: us, m + 1, h, h' => by
    rw [addZ, List.length_cons]
    have := addZ_len (ts := ts) (us := us) (m := m) (by simpa using h) (by simpa using h')
    omega
theorem mulZ_len : ∀ {ts us : List Int}, (mulZ ts us).length ≤ ts.length + us.length
  | [], us => by simp [mulZ]
  | t :: ts, us => by
    rw [mulZ]
    refine addZ_len ?_ ?_
    · simp
    · have := mulZ_len (ts := ts) (us := us)
      simp; omega
def BZ (B : Nat) (ts : List Int) : Prop := ∀ t, t ∈ ts → t.natAbs ≤ B
theorem BZ.add {A B : Nat} : ∀ {ts us : List Int}, BZ A ts → BZ B us → BZ (A + B) (addZ ts us)
  | [], us, _, h => fun t ht => Nat.le_trans (h t ht) (by omega)
  | t :: ts, [], h, _ => fun u hu => Nat.le_trans (h u hu) (by omega)
  | t :: ts, u :: us, h, h' => fun w hw => by
    rw [addZ] at hw
    rcases List.mem_cons.mp hw with rfl | hw
    · have a := h t (by simp)
      have b := h' u (by simp)
      omega
    · exact BZ.add (fun x hx => h x (by simp [hx])) (fun x hx => h' x (by simp [hx])) w hw
theorem BZ.mul {A B : Nat} : ∀ {ts us : List Int}, BZ A ts → BZ B us → BZ (ts.length * (A * B)) (mulZ ts us)
  | [], us, _, _ => fun t ht => by rw [mulZ] at ht; cases ht
  | t :: ts, us, h, h' => by
    rw [mulZ]
    have ih := BZ.mul (ts := ts) (us := us) (fun x hx => h x (by simp [hx])) h'
    have := BZ.add (A := A * B) (B := ts.length * (A * B)) (ts := us.map fun u => t * u) (us := 0 :: mulZ ts us) (fun w hw => by
      obtain ⟨u, hu, rfl⟩ := List.mem_map.mp hw
      rw [Int.natAbs_mul]
      exact Nat.mul_le_mul (h t (by simp)) (h' u hu)) (fun w hw => by
      rcases List.mem_cons.mp hw with rfl | hw
      · simp
      · exact ih w hw)
    have e : A * B + ts.length * (A * B) = (t :: ts).length * (A * B) := by
      rw [List.length_cons, Nat.add_mul, Nat.one_mul, Nat.add_comm]
    rw [← e]; exact this
instance : Mul Pol := ⟨fun p q => mk (mulZ p.ts q.ts) (p.b * q.b)⟩
theorem ev_mul {p q : Pol} {x : Rat} : (p * q).ev x = p.ev x * q.ev x := by
  show (mk (mulZ p.ts q.ts) (p.b * q.b)).ev x = _
  rw [ev_mk (Nat.mul_pos p.hb q.hb), evZ_mulZ]
  unfold Pol.ev
  have a := p.bne
  have b := q.bne
  rw [Int.natCast_mul, Rat.intCast_mul]
  grind
theorem evZ_take {x : Rat} : ∀ {ts : List Int} {k : Nat} {t : Int}, ts[k]? = some t → evZ (ts.take (k + 1)) x = evZ (ts.take k) x + t * x ^ k
  | [], _, _, h => by simp at h
  | a :: ts, 0, t, h => by
    simp at h; subst h
    simp [evZ]; grind
  | a :: ts, k + 1, t, h => by
    have := evZ_take (x := x) (ts := ts) (k := k) (t := t) (by simpa using h)
    rw [List.take_succ_cons, List.take_succ_cons, evZ, evZ, this]
    grind
theorem PBt.mk {ts : List Int} {b n m : Nat} (hb : 0 < b) (h1 : ts.length ≤ m) (h2 : b < 2 ^ n) (h3 : ∀ t, t ∈ ts → t.natAbs < 2 ^ n) : PBt n m (NW.mk ts b) := by
  have hbl := mk_b_le (ts := ts) hb
  refine ⟨?_, by omega, fun t ht => ?_⟩
  · unfold NW.mk
    rw [dif_pos hb]
    simp [mkT]; omega
  · unfold NW.mk at ht
    rw [dif_pos hb] at ht
    obtain ⟨u, hu, rfl⟩ := List.mem_map.mp ht
    refine Nat.lt_of_le_of_lt (Int.natAbs_ediv_le_natAbs _ _) (h3 u (List.mem_of_mem_take hu))
theorem PBt.mono {n m n' m' : Nat} {p : Pol} (h : PBt n m p) (hn : n ≤ n') (hm : m ≤ m') : PBt n' m' p :=
  ⟨Nat.le_trans h.1 hm, Nat.lt_of_lt_of_le h.2.1 (Nat.pow_le_pow_right (by omega) hn), fun t ht => Nat.lt_of_lt_of_le (h.2.2 t ht) (Nat.pow_le_pow_right (by omega) hn)⟩
theorem PBt.add {n1 n2 m : Nat} {p q : Pol} (hp : PBt n1 m p) (hq : PBt n2 m q) : PBt (n1 + n2 + 1) m (p + q) := by
  have hpw : 2 ^ (n1 + n2 + 1) = 2 ^ n1 * 2 ^ n2 + 2 ^ n1 * 2 ^ n2 := by rw [Nat.pow_succ, Nat.pow_add]; omega
  have hbb : p.b * q.b < 2 ^ n1 * 2 ^ n2 := Nat.mul_lt_mul'' hp.2.1 hq.2.1
  refine PBt.mk (Nat.mul_pos p.hb q.hb) ?_ (by omega) fun t ht => ?_
  · have := hp.1; have := hq.1
    simp [sumL]; omega
  · obtain ⟨k, hk, rfl⟩ := List.mem_map.mp ht
    have a : (p.ts.getD k 0 * q.b).natAbs < 2 ^ n1 * 2 ^ n2 := by
      rw [Int.natAbs_mul, Int.natAbs_natCast]; exact Nat.mul_lt_mul'' (hp.get k) hq.2.1
    have b : (q.ts.getD k 0 * p.b).natAbs < 2 ^ n1 * 2 ^ n2 := by
      rw [Int.natAbs_mul, Int.natAbs_natCast, Nat.mul_comm]; exact Nat.mul_lt_mul'' hp.2.1 (hq.get k)
    omega
theorem PBt.mul {n1 n2 m1 m2 : Nat} {p q : Pol} (hp : PBt n1 m1 p) (hq : PBt n2 m2 q) (hm : m1 ≤ 1000) : PBt (n1 + n2 + 10) (m1 + m2) (p * q) := by
  have hpw : 2 ^ (n1 + n2 + 10) = 1024 * (2 ^ n1 * 2 ^ n2) := by rw [Nat.pow_add, Nat.pow_add]; omega
  have hbb : p.b * q.b < 2 ^ n1 * 2 ^ n2 := Nat.mul_lt_mul'' hp.2.1 hq.2.1
  have h1 := hp.1
  have h2 := hq.1
  refine PBt.mk (Nat.mul_pos p.hb q.hb) ?_ (by omega) fun t ht => ?_
  · have := mulZ_len (ts := p.ts) (us := q.ts)
    omega
  · have z := BZ.mul (A := 2 ^ n1) (B := 2 ^ n2) (ts := p.ts) (us := q.ts) (fun t ht => Nat.le_of_lt (hp.2.2 t ht)) (fun t ht => Nat.le_of_lt (hq.2.2 t ht)) t ht
    have : p.ts.length * (2 ^ n1 * 2 ^ n2) ≤ 1000 * (2 ^ n1 * 2 ^ n2) := Nat.mul_le_mul_right _ (by omega)
    have : 0 < 2 ^ n1 * 2 ^ n2 := Nat.mul_pos (Nat.two_pow_pos _) (Nat.two_pow_pos _)
    omega
theorem PBt.sc {n1 n2 m : Nat} {p : Pol} {r : Rat} (hp : PBt n1 m p) (hr : FB n2 r) : PBt (n1 + n2) m (p.sc r) := by
  have hpw : 2 ^ (n1 + n2) = 2 ^ n1 * 2 ^ n2 := by rw [Nat.pow_add]
  refine PBt.mk (Nat.mul_pos p.hb r.den_pos) (by simpa using hp.1) (by rw [hpw]; exact Nat.mul_lt_mul'' hp.2.1 hr.2) fun t ht => ?_
  obtain ⟨u, hu, rfl⟩ := List.mem_map.mp ht
  rw [hpw, Int.natAbs_mul]
  exact Nat.mul_lt_mul'' (hp.2.2 u hu) hr.1
end NW
namespace NW
open PySem PySem.Spec PyProof.Rows L2
section
variable {st : Sto} {Q : U → Sto → Prop}
@[simp] theorem to_mPop {k : Nat} : (mPop (.ref k) [] st).To Q ↔ ∃ xs y, st.obs[k]? = some (.lst xs) ∧ xs[xs.length - 1]? = some y ∧ Q (.d y) (st.put k xs.dropLast) := by
  unfold mPop
  cases e : ownL st (.ref k) with
  | none =>
    refine ⟨fun w => w.elim, fun ⟨xs, y, h, _⟩ => ?_⟩
    rw [ownL_ref.mpr ⟨h, rfl⟩] at e; cases e
  | some p =>
    obtain ⟨j, ys⟩ := p
    obtain ⟨e1, rfl⟩ := ownL_ref.mp e
    show (match ys[ys.length - 1]? with
      | some y => Res.ok (U.d y) (st.put j ys.dropLast)
      | none => .no).To Q ↔ _
    cases e2 : ys[ys.length - 1]? with
    | none =>
      refine ⟨fun w => w.elim, fun ⟨xs, y, h, h2, _⟩ => ?_⟩
      rw [e1] at h; cases h; rw [e2] at h2; cases h2
    | some y =>
      refine ⟨fun w => ⟨ys, y, e1, e2, w⟩, fun ⟨xs, z, h, h2, w⟩ => ?_⟩
      rw [e1] at h; cases h; rw [e2] at h2; cases h2; exact w
theorem ixl_to {xs : List PyData} {i : Int} {p : PyData → Prop} (h0 : 0 ≤ i) (h1 : i < xs.length) (hp : ∀ x, x ∈ xs → p x) (h : ∀ x, p x → Q (.d x) st) : (fIx (.d (.list xs)) (.d (.int i)) st).To Q := by
  obtain ⟨n, rfl⟩ := Int.eq_ofNat_of_zero_le h0
  have hn : n < xs.length := by omega
  rw [to_ixL]
  exact ⟨xs[n], by rw [idxN_nat hn]; simp [hn], h _ (hp _ (List.getElem_mem hn))⟩
theorem SeqD.lst {S : PyData} {xs : List PyData} (h : SeqD S xs) {P : List PyData → Sto → Prop} : (cListOf [.d S] st).To P ↔ P xs st := by rcases h with rfl | rfl <;> exact Iff.rfl
end
theorem gs_snoc : ∀ (as : List Int) (g : Nat) (c : Int), gs g (as ++ [c]) = Int.gcd (gs g as) c
  | [], g, c => rfl
  | a :: as, g, c => by rw [List.cons_append, gs, gs, gs_snoc]
theorem idx_end {n : Nat} (h : 0 < n) : idxN n (-1) = some (n - 1) := by
  unfold idxN
  rw [if_neg (by omega), if_pos (by omega)]
  congr 1; omega
theorem L_poly_to {S : PyData} {ts : List Int} {b : Nat} {P : PyData → Prop} (hS : SeqD S (ts.map .int)) (hb : 0 < b) {q9 : Prop} (hn : q9) (hl : ts.length ≤ 16777216) (h : P (polyD (mk ts b))) : (m_L_poly [S, .int b]).To P := by
  unfold m_L_poly
  rw [pure_to]
  unfold b_L_poly
  simp [startL, hS.lst]
  refine while_to (I := fun n l s => s = ⟨none, [.lst ((ts.take n).map .int)]⟩ ∧ l = [some (.ref 0), some (.d (.int b)), none, none] ∧ n ≤ ts.length ∧ ∀ k, n ≤ k → ts.getD k 0 = 0) ?_ ts.length _ _ ⟨by simp, rfl, Nat.le_refl _, fun k hk => by simp [List.getD_eq_getElem?_getD, List.getElem?_eq_none hk]⟩
  rintro n l s ⟨rfl, rfl, h1, h2⟩
  obtain ⟨us, hus⟩ : ∃ us, us = ts.take n := ⟨_, rfl⟩
  rw [← hus]
  have hlen : us.length = n := by rw [hus]; simp; omega
  have post : (n ≠ 0 → ts.getD (n - 1) 0 ≠ 0) → (sSeq (sAsg 2 (eVar 1))
      (sSeq (sFor (mAny (eVar 0)) (gNameM 3) (sAsg 2 (eCallP 2 m_L_common (aCons (eVar 2) (aCons (eVar 3) aNil)))))
      (sRet (eTup (aCons (eCB cTupOf (aCons (eFrz (lLc (mAny (eVar 0)) [3] (gNameM 3) bYes (eOp fDiv (eVar 3) (eVar 2)))) aNil)) (aCons (eOp fDiv (eVar 1) (eVar 2)) aNil))))) [some (.ref 0), some (.d (.int b)), none, none] ⟨none, [.lst (us.map .int)]⟩).To (fun _ _ => P .none) (retP P) := by
    intro hz
    rw [hus] at hlen ⊢
    have tr : Tr (ts.take n) := tr_of fun hne => by
      have hn0 : n ≠ 0 := fun e => by subst e; simp at hne
      have := hz hn0
      rw [hlen]
      rw [List.getD_eq_getElem?_getD, List.getElem?_take_of_lt (by omega), ← List.getD_eq_getElem?_getD]
      exact this
    have eq : mkT (ts.take n) tr b hb = mk ts b := Pol.ext_co fun k => by
      rw [co_mkT, co_mk hb]
      congr 1
      by_cases hk : k < n
      · rw [List.getD_eq_getElem?_getD, List.getElem?_take_of_lt hk, ← List.getD_eq_getElem?_getD]
      · rw [h2 k (by omega), List.getD_eq_getElem?_getD, List.getElem?_eq_none (by simp; omega)]; rfl
    have hly : (ts.take n).length ≤ 16777216 := by simp; omega
    clear hz h2
    generalize ts.take n = ys at tr eq hly
    have hgp := gs_pos (ts := ys) hb
    have hgl : gs b ys ≤ b := Nat.le_of_dvd hb gs_self
    simp
    refine ⟨_, _, ⟨rfl, rfl⟩, ?_⟩
    refine for_to (I := fun zs l s => s = ⟨none, [.lst (ys.map .int)]⟩ ∧ ∃ (as bs : List Int) (v : Option U), ys = as ++ bs ∧ zs = bs.map .int ∧ l = [some (.ref 0), some (.d (.int b)), some (.d (.int (gs b as))), v]) (fun _ _ _ h => by rw [h.1]; exact chk_one rfl) ?_ ?_ _ _ _ ⟨rfl, [], ys, none, rfl, rfl, rfl⟩
    · rintro x zs l s ⟨rfl, as, bs, v, e1, e2, rfl⟩
      cases bs with
      | nil => cases e2
      | cons c bs =>
        cases e2
        simp
        refine common_to ?_
        exact ⟨as ++ [c], bs, by rw [e1]; simp, rfl, by rw [gs_snoc]⟩
    · rintro l s ⟨rfl, as, bs, v, e1, e2, rfl⟩
      have : bs = [] := by cases bs with | nil => rfl | cons c bs => cases e2
      subst this
      rw [List.append_nil] at e1
      subst e1
      have dv : ∀ t : Int, divC t (gs b ys) = true := fun t => divC_nat hgp trivial
      simp
      refine ⟨_, _, ⟨rfl, rfl⟩, by simpa using hly, ?_⟩
      refine lc_mapA (f := PyData.int) (g := fun t => .int (t.fdiv (gs b ys))) (chk_one rfl) ?_ ?_
      · intro t ht
        simp [wipeL, dv]
      · simp [dv]
        have e : polyD (mk ts b) = .tuple [.tuple (ys.map fun t => PyData.int (t.fdiv (gs b ys))), .int ((b : Int).fdiv (gs b ys))] := by
          rw [← eq]
          unfold polyD mkT
          simp only [List.map_map]
          congr 3
          · refine List.map_congr_left fun t ht => ?_
            show PyData.int (t / (gs b ys : Nat)) = PyData.int (t.fdiv (gs b ys : Nat))
            rw [Int.fdiv_eq_ediv_of_nonneg _ (by omega)]
          · show PyData.int ((b / gs b ys : Nat) : Int) = PyData.int ((b : Int).fdiv (gs b ys : Nat))
            rw [Int.fdiv_eq_ediv_of_nonneg _ (by omega), Int.natCast_ediv]
        rw [e] at h
        exact h
  by_cases hn0 : n = 0
  · subst hn0
    have : us = [] := by rw [hus]; simp
    subst this
    simp at post ⊢
    exact post
  · have hlt : n - 1 < ts.length := by omega
    have e2 : (0 : Int) < n := by omega
    have e3 : idxN ts.length.succ (-1) = some ts.length := by rw [idx_end (by omega)]; rfl
    have gi : ts.getD (n - 1) 0 = ts[n - 1] := by simp [List.getD_eq_getElem?_getD, hlt]
    have hne : us ≠ [] := fun e => by rw [e] at hlen; simp at hlen; omega
    have gi3 : us[n - 1]? = some ts[n - 1] := by rw [hus, List.getElem?_take_of_lt (by omega), List.getElem?_eq_getElem hlt]
    by_cases hz : ts.getD (n - 1) 0 = 0
    · have hz' := hz
      rw [gi] at hz'
      simp [-List.getD_eq_getElem?_getD, hn0, hne, e2, hlen, idx_end (show 0 < n by omega), gi3, hz']
      refine ⟨by omega, n - 1, by omega, ?_, by omega, fun k hk => ?_⟩
      · have : us.dropLast = ts.take (n - 1) := by
          rw [List.dropLast_eq_take, hlen, hus, List.take_take]
          congr 1; omega
        rw [← List.map_take, ← this]; simp
      · by_cases e : k = n - 1
        · subst e; exact hz
        · exact h2 k (by omega)
    · have hz' := hz
      rw [gi] at hz'
      simp at post
      simp [hn0, hne, e2, hlen, idx_end (show 0 < n by omega), gi3, hz']
      exact ⟨by omega, post fun _ => by simpa using hz⟩
theorem all_int {p : Int → Prop} {ys : List PyData} (h : ∀ y, y ∈ ys → ∃ t, y = .int t ∧ p t) : ∃ ts : List Int, ys = ts.map .int ∧ ∀ t, t ∈ ts → p t := by
  induction ys with
  | nil => exact ⟨[], rfl, by simp⟩
  | cons y ys ih =>
    obtain ⟨q, rfl, hq⟩ := h y (by simp)
    obtain ⟨qs, rfl, hqs⟩ := ih fun z hz => h z (by simp [hz])
    refine ⟨q :: qs, rfl, fun r hr => ?_⟩
    rcases List.mem_cons.mp hr with rfl | hr
    · exact hq
    · exact hqs r hr
end NW
namespace NW
open PySem PySem.Spec PyProof.Rows L2
def Pol.one : Pol := ⟨[1], 1, by decide, by simp [Tr], rfl⟩
def Pol.zero : Pol := ⟨[], 1, by decide, trivial, rfl⟩
def Pol.X : Pol := ⟨[0, 1], 1, by decide, by simp [Tr], rfl⟩
theorem ev_X {x : Rat} : Pol.X.ev x = x := by simp [Pol.ev, Pol.X, evZ]; grind
theorem PBt.one : PBt 1 1 Pol.one := ⟨by simp [Pol.one], by decide, by simp [Pol.one]⟩
theorem PBt.zero : PBt 1 1 Pol.zero := ⟨by simp [Pol.zero], by decide, by simp [Pol.zero]⟩
theorem PBt.X : PBt 1 2 Pol.X := ⟨by simp [Pol.X], by decide, by simp [Pol.X]⟩
def Pol.pw (p : Pol) : Nat → Pol
  | 0 => Pol.one
  | k + 1 => p.pw k * p
theorem PBt.pw {n m : Nat} {p : Pol} (h : PBt n m p) : ∀ {k : Nat}, k * m + 1 ≤ 1000 → PBt (k * (n + 10) + 1) (k * m + 1) (p.pw k)
  | 0, _ => PBt.one.mono (by omega) (by omega)
  | k + 1, hk => by
    have e : (k + 1) * m = k * m + m := by rw [Nat.add_mul, Nat.one_mul]
    have e2 : (k + 1) * (n + 10) = k * (n + 10) + (n + 10) := by rw [Nat.add_mul, Nat.one_mul]
    exact ((PBt.pw h (k := k) (by omega)).mul h (by omega)).mono (by omega) (by omega)
def hz (b : Nat) (g : Pol) : List Int → Pol
  | [] => Pol.zero
  | t :: ts => hz b g ts * g + mk [t] b
def Pol.comp (f g : Pol) : Pol := hz f.b g f.ts
theorem hz_sz {b n n2 m : Nat} {g : Pol} (hb : 0 < b) (hbn : b < 2 ^ n) (hg : PBt n2 m g) : ∀ {ts : List Int}, (∀ t, t ∈ ts → t.natAbs < 2 ^ n) → ts.length * m + 1 ≤ 1000 → PBt (ts.length * (n + n2 + 11) + 1) (ts.length * m + 1) (hz b g ts)
  | [], _, _ => by simpa [hz] using PBt.zero
  | t :: ts, ht, hl => by
    rw [List.length_cons] at hl ⊢
    have e : (ts.length + 1) * m = ts.length * m + m := by rw [Nat.add_mul, Nat.one_mul]
    have e2 : (ts.length + 1) * (n + n2 + 11) = ts.length * (n + n2 + 11) + (n + n2 + 11) := by rw [Nat.add_mul, Nat.one_mul]
    have ih := hz_sz hb hbn hg (ts := ts) (fun u hu => ht u (by simp [hu])) (by omega)
    have h1 := ih.mul hg (by omega)
    have h2 : PBt n (ts.length * m + 1 + m) (mk [t] b) := PBt.mk hb (by simp; omega) hbn (by simpa using ht t (by simp))
    exact (h1.add h2).mono (by omega) (by omega)
theorem PBt.comp {n n2 m1 m : Nat} {f g : Pol} (hf : PBt n m1 f) (hg : PBt n2 m g) (hl : m1 * m + 1 ≤ 1000) : PBt (m1 * (n + n2 + 11) + 1) (m1 * m + 1) (f.comp g) := by
  have h1 : f.ts.length * m ≤ m1 * m := Nat.mul_le_mul_right _ hf.1
  have h2 : f.ts.length * (n + n2 + 11) ≤ m1 * (n + n2 + 11) := Nat.mul_le_mul_right _ hf.1
  exact (hz_sz f.hb hf.2.1 hg hf.2.2 (by omega)).mono (by omega) (by omega)
theorem FB.mul2 {p q : Rat} {a b : Nat} (hp : FB a p) (hq : FB b q) : FB (a + b) (p * q) := by
  rw [← mul_divInt]
  exact FB.of_divInt (Int.mul_ne_zero (den_ne p) (den_ne q)) (by rw [Int.natAbs_mul, Nat.pow_add]; exact Nat.mul_lt_mul'' hp.1 hq.1) (by rw [Int.natAbs_mul, Nat.pow_add]; exact Nat.mul_lt_mul'' hp.2 hq.2)
theorem FB.div2 {p q : Rat} {a b : Nat} (hp : FB a p) (hq : FB b q) (hz : q ≠ 0) : FB (a + b) (p / q) := by
  have hz' : q.num ≠ 0 := fun e => hz (Rat.num_eq_zero.mp e)
  rw [← div_divInt]
  exact FB.of_divInt (Int.mul_ne_zero (den_ne p) hz') (by rw [Int.natAbs_mul, Nat.pow_add]; exact Nat.mul_lt_mul'' hp.1 hq.2) (by rw [Int.natAbs_mul, Nat.pow_add]; exact Nat.mul_lt_mul'' hp.2 hq.1)
theorem FB.int {n : Nat} {t : Int} (h : t.natAbs < 2 ^ n) (h0 : 0 < n) : FB n (t : Rat) := ⟨h, by have : 2 ≤ 2 ^ n := Nat.le_self_pow (by omega) 2; show 1 < 2 ^ n; omega⟩
end NW
namespace NW
open PySem PySem.Spec PyProof.Rows L2
instance : Sub Pol := ⟨fun p q => p + q.sc (-1)⟩
theorem ev_sub {p q : Pol} {x : Rat} : (p - q).ev x = p.ev x - q.ev x := by
  show (p + q.sc (-1)).ev x = _
  rw [ev_add, ev_sc]; grind
theorem FB_m1 : FB 1 (-1) := ⟨by decide, by decide⟩
theorem PBt.sub {n1 n2 m : Nat} {p q : Pol} (hp : PBt n1 m p) (hq : PBt n2 m q) : PBt (n1 + n2 + 2) m (p - q) := (hp.add (hq.sc FB_m1)).mono (by omega) (by omega)
theorem alike_poly {p q : Pol} (h : p = q) (hl : p.ts.length ≤ 1000) : (m_L_alike 8 [polyD p, polyD q]).To fun d => d = .bool true := by
  subst h; exact alike_to 8 _ (lk_poly (n := 5) hl)
theorem co_zero_of {p : Pol} {k : Nat} (h : p.ts.length ≤ k) : p.co k = 0 := by
  unfold Pol.co
  rw [List.getD_eq_getElem?_getD, List.getElem?_eq_none h]; simp
@[simp] theorem ex_src {α β : Type} {A : α} {B : β} {C : α → β → Prop} : (∃ xs own, (A = xs ∧ own = B) ∧ C xs own) ↔ C A B := ⟨fun ⟨_, _, ⟨rfl, rfl⟩, h⟩ => h, fun h => ⟨_, _, ⟨rfl, rfl⟩, h⟩⟩
end NW
namespace NW
open PySem PySem.Spec PyProof.Rows L2
def smI : Nat → (Nat → Int) → Int
  | 0, _ => 0
  | n + 1, f => smI n f + f n
def sm : Nat → (Nat → Rat) → Rat
  | 0, _ => 0
  | n + 1, f => sm n f + f n
theorem smI_succ {f : Nat → Int} : ∀ {n : Nat}, smI (n + 1) f = f 0 + smI n fun k => f (k + 1)
  | 0 => by simp [smI]
  | n + 1 => by rw [smI, smI_succ, smI]; omega
theorem smI_cast {f : Nat → Int} : ∀ {n : Nat}, ((smI n f : Int) : Rat) = sm n fun k => (f k : Rat)
  | 0 => by simp [smI, sm]
  | n + 1 => by rw [smI, sm, Rat.intCast_add, smI_cast]
theorem sm_mul {c : Rat} {f : Nat → Rat} : ∀ {n : Nat}, sm n (fun k => c * f k) = c * sm n f
  | 0 => by simp [sm]
  | n + 1 => by rw [sm, sm_mul, sm]; grind
theorem sm_congr {f g : Nat → Rat} : ∀ {n : Nat}, (∀ k, k < n → f k = g k) → sm n f = sm n g
  | 0, _ => rfl
  | n + 1, h => by rw [sm, sm, sm_congr fun k hk => h k (by omega), h n (by omega)]
theorem sm_zero {f : Nat → Rat} {n : Nat} (h : ∀ k, k < n → f k = 0) : sm n f = 0 := by
  induction n with
  | zero => rfl
  | succ n ih => rw [sm, ih fun k hk => h k (by omega), h n (by omega)]; grind
theorem smI_zero {f : Nat → Int} {n : Nat} (h : ∀ k, k < n → f k = 0) : smI n f = 0 := by
  induction n with
  | zero => rfl
  | succ n ih => rw [smI, ih fun k hk => h k (by omega), h n (by omega)]; rfl
theorem addZ_get : ∀ {ts us : List Int} {k : Nat}, (addZ ts us).getD k 0 = ts.getD k 0 + us.getD k 0
  | [], us, k => by simp [addZ]
  | t :: ts, [], k => by simp [addZ]
  | t :: ts, u :: us, 0 => by simp [addZ]
  | t :: ts, u :: us, k + 1 => by
    have := addZ_get (ts := ts) (us := us) (k := k)
    simpa [addZ] using this
theorem mulZ_get : ∀ {ts us : List Int} {k : Nat}, (mulZ ts us).getD k 0 = smI (k + 1) fun j => ts.getD j 0 * us.getD (k - j) 0
  | [], us, k => by rw [mulZ, smI_zero fun j _ => by simp]; simp
  | t :: ts, us, 0 => by rw [mulZ, addZ_get, getD_map (by simp)]; simp [smI]
  | t :: ts, us, k + 1 => by
    rw [mulZ, addZ_get, getD_map (by simp), List.getD_cons_succ, mulZ_get]
    conv => rhs; rw [smI_succ]
    simp only [List.getD_cons_zero, List.getD_cons_succ, Nat.sub_zero, Nat.add_sub_add_right]
theorem co_mul {p q : Pol} {k : Nat} : (p * q).co k = sm (k + 1) fun j => p.co j * q.co (k - j) := by
  show (mk (mulZ p.ts q.ts) (p.b * q.b)).co k = _
  have a := p.bne
  have b := q.bne
  rw [co_mk (Nat.mul_pos p.hb q.hb), mulZ_get, divInt_div, smI_cast, Int.natCast_mul, Rat.intCast_mul]
  have : ∀ x : Rat, x / (((p.b : Int) : Rat) * ((q.b : Int) : Rat)) = (1 / (((p.b : Int) : Rat) * ((q.b : Int) : Rat))) * x := fun x => by grind
  rw [this, ← sm_mul]
  refine sm_congr fun j _ => ?_
  unfold Pol.co
  rw [divInt_div, divInt_div, Rat.intCast_mul]
  grind
theorem len_le {p : Pol} {m : Nat} (h : ∀ k, m ≤ k → p.co k = 0) : p.ts.length ≤ m := by
  by_cases hl : p.ts.length ≤ m
  · exact hl
  · exfalso
    have hn : p.ts ≠ [] := fun e => by rw [e] at hl; simp at hl
    have hb := p.hb
    have e := h (p.ts.length - 1) (by omega)
    unfold Pol.co at e
    have e2 : Rat.divInt (p.ts.getD (p.ts.length - 1) 0) p.b = Rat.divInt 0 1 := by rw [e, Rat.zero_divInt]
    have := (Rat.divInt_eq_divInt_iff (by omega) (by omega)).mp e2
    exact tr_get p.ht hn (by omega)
theorem co_lead {p : Pol} (h : p.ts ≠ []) : p.co (p.ts.length - 1) ≠ 0 := by
  have hb := p.hb
  intro e
  unfold Pol.co at e
  have e2 : Rat.divInt (p.ts.getD (p.ts.length - 1) 0) p.b = Rat.divInt 0 1 := by rw [e, Rat.zero_divInt]
  have := (Rat.divInt_eq_divInt_iff (by omega) (by omega)).mp e2
  exact tr_get p.ht h (by omega)
theorem mul_len {p q : Pol} : (p * q).ts.length ≤ p.ts.length + q.ts.length - 1 := len_le fun k hk => by
  rw [co_mul]
  refine sm_zero fun j hj => ?_
  by_cases h : p.ts.length ≤ j
  · rw [co_zero_of h]; simp
  · rw [co_zero_of (p := q) (k := k - j) (by omega)]; simp
end NW
namespace NW
open PySem PySem.Spec PyProof.Rows L2
theorem L_sumx {p q : Pol} {n n2 m : Nat} {P : PyData → Prop} (hp : PBt n m p) (hq : PBt n2 m q) (hm : m ≤ 1000) (hn : n + n2 ≤ 999990) (hP : P (polyD (p + q))) : (m_L_sum [polyD p, polyD q]).To P := by
  unfold m_L_sum
  rw [pure_to]
  unfold b_L_sum
  have hpl := hp.1
  have hql := hq.1
  simp [startL]
  have eM : (if p.ts.length < q.ts.length then (q.ts.length : Int) else (p.ts.length : Int)) = ((max p.ts.length q.ts.length : Nat) : Int) := by
    split <;> omega
  rw [eM]
  generalize hM : max p.ts.length q.ts.length = M
  have hM1 : p.ts.length ≤ M := by omega
  have hM2 : q.ts.length ≤ M := by omega
  refine ⟨by omega, ?_⟩
  obtain ⟨I, hI⟩ : ∃ I : Nat → NW.Loc → Sto → Prop, ∀ k l s, I k l s ↔ ∃ (L : List Int) (v w : Option U), l = [some (.d (polyD p)), some (.d (polyD q)), some (.d (.int M)), some (.ref 0), v, w] ∧ s = ⟨none, [.lst (L.map .int)]⟩ ∧ L.length = M ∧ ∀ x, evZ L x = evZ (p.ts.take k) x * (q.b : Int) := ⟨_, fun _ _ _ => Iff.rfl⟩
  refine for_ix I (fun _ _ _ _ => chk_nil) ((hI _ _ _).mpr ⟨List.replicate M 0, none, none, rfl, by simp, by simp, fun x => by rw [evZ_zero]; simp [evZ]⟩) ?_ ?_
  · rintro k x l s hx h
    obtain ⟨L, v, w, rfl, rfl, hL, hg⟩ := (hI _ _ _).mp h
    obtain ⟨t, ht, rfl⟩ := enum_int hx
    have hk : k < p.ts.length := (List.getElem?_eq_some_iff.mp ht).1
    have mc : mulC t q.b = true := mx (hp.2.2 t (List.mem_of_getElem? ht)) (by simpa using hq.2.1) hn
    have hkM : k < L.length := by omega
    simp [mc, idxN_nat hkM, hkM]
    refine (hI _ _ _).mpr ⟨L.set k (L[k] + t * q.b), _, _, rfl, by rw [map_set], by simpa using hL, fun x => ?_⟩
    rw [evZ_set (by simp [hkM]), hg x, evZ_take ht, Rat.intCast_mul]
    grind
  · intro l s h
    obtain ⟨L, v, w, rfl, rfl, hL, hg⟩ := (hI _ _ _).mp h
    have el : (enumD (p.ts.map PyData.int)).length = p.ts.length := by simp [enumD]
    rw [el, List.take_length] at hg
    clear h
    simp
    obtain ⟨J, hJ⟩ : ∃ J : Nat → NW.Loc → Sto → Prop, ∀ k l s, J k l s ↔ ∃ (L : List Int) (v w : Option U), l = [some (.d (polyD p)), some (.d (polyD q)), some (.d (.int M)), some (.ref 0), v, w] ∧ s = ⟨none, [.lst (L.map .int)]⟩ ∧ L.length = M ∧ ∀ x, evZ L x = evZ p.ts x * (q.b : Int) + evZ (q.ts.take k) x * (p.b : Int) := ⟨_, fun _ _ _ => Iff.rfl⟩
    refine for_ix J (fun _ _ _ _ => chk_nil) ((hJ _ _ _).mpr ⟨L, v, w, rfl, rfl, hL, fun x => by rw [hg x]; simp [evZ]; grind⟩) ?_ ?_
    · rintro k x l s hx h
      obtain ⟨L, v, w, rfl, rfl, hL, hg⟩ := (hJ _ _ _).mp h
      obtain ⟨t, ht, rfl⟩ := enum_int hx
      have hk : k < q.ts.length := (List.getElem?_eq_some_iff.mp ht).1
      have mc : mulC t p.b = true := mx (hq.2.2 t (List.mem_of_getElem? ht)) (by simpa using hp.2.1) (by omega)
      have hkM : k < L.length := by omega
      simp [mc, idxN_nat hkM, hkM]
      refine (hJ _ _ _).mpr ⟨L.set k (L[k] + t * p.b), _, _, rfl, by rw [map_set], by simpa using hL, fun x => ?_⟩
      rw [evZ_set (by simp [hkM]), hg x, evZ_take ht, Rat.intCast_mul]
      grind
    · intro l s h
      obtain ⟨L, v, w, rfl, rfl, hL, hg⟩ := (hJ _ _ _).mp h
      have el : (enumD (q.ts.map PyData.int)).length = q.ts.length := by simp [enumD]
      rw [el, List.take_length] at hg
      have mc : mulC p.b q.b = true := mx (a := n) (b := n2) (by simpa using hp.2.1) (by simpa using hq.2.1) hn
      have hbb : True := trivial
      simp [mc]
      have e := L_poly_to (S := .list (L.map .int)) (ts := L) (b := p.b * q.b) (P := fun d => noLst d = true ∧ P d) (.inl rfl) (Nat.mul_pos p.hb q.hb) hbb (by omega) ?_
      · rw [Int.natCast_mul] at e; exact e
      · refine ⟨noLst_poly, ?_⟩
        have ee : NW.mk L (p.b * q.b) = p + q := Pol.ext_ev fun x => by
          rw [ev_mk (Nat.mul_pos p.hb q.hb), ev_add, hg x, Int.natCast_mul, Rat.intCast_mul]
          unfold Pol.ev
          have := p.bne
          have := q.bne
          grind
        rw [ee]; exact hP
theorem mk_len {ts : List Int} {b : Nat} : (mk ts b).ts.length ≤ ts.length := by
  unfold mk
  split
  · simp [mkT]; omega
  · simp
end NW
namespace NW
open PySem PySem.Spec PyProof.Rows L2
theorem pickx {f : Fl} (hf : FlOk f) {many : Int} (h0 : 0 < many) {b : Nat} (hb0 : 0 < b) (hb9 : b ≤ 9000) (h1 : many.natAbs < 2 ^ b) : (m_L_pick [.int many] f).To fun d f' => ∃ i, d = .int i ∧ 0 ≤ i ∧ i < many ∧ FlOk f' := by
  unfold m_L_pick
  rw [flow_to]
  obtain ⟨cells, place, held, seed, mny⟩ := f
  obtain ⟨a1, a2, a3, a4⟩ := hf
  simp only at a1 a2 a3 a4
  unfold b_L_pick
  simp only [startL, List.map_cons, List.map_nil, List.length_cons, List.length_nil, List.cons_append, List.nil_append, List.replicate]
  have tail : ∀ (cells : List Int) (place held seed mny : Int) (c : Option U), 0 ≤ held → 0 ≤ seed → seed < 2147483647 → 0 ≤ place →
      (held ≤ 0 ∧ mulC seed 48271 = true ∧ divC ((seed * 48271 + 12820163 + (mny + 1)).fmod 2147483647) 65521 = true ∧
    mulC (((seed * 48271 + 12820163 + (mny + 1)).fmod 2147483647).fmod 65521 + 1) (((seed * 48271 + 12820163 + (mny + 1)).fmod 2147483647).fdiv 65521 + 7919) = true ∧
    divC (((((seed * 48271 + 12820163 + (mny + 1)).fmod 2147483647).fmod 65521 + 1) * (((seed * 48271 + 12820163 + (mny + 1)).fmod 2147483647).fdiv 65521 + 7919)).fmod 1000003) 7 = true ∧ ¬many = 0 ∧
      0 ≤ (((((((seed * 48271 + 12820163 + (mny + 1)).fmod 2147483647).fmod 65521 + 1) * (((seed * 48271 + 12820163 + (mny + 1)).fmod 2147483647).fdiv 65521 + 7919)).fmod 1000003).fdiv 7).fmod many) ∧
      (((((((seed * 48271 + 12820163 + (mny + 1)).fmod 2147483647).fmod 65521 + 1) * (((seed * 48271 + 12820163 + (mny + 1)).fmod 2147483647).fdiv 65521 + 7919)).fmod 1000003).fdiv 7).fmod many) < many ∧
      FlOk { cells := cells, place := place, held := held, seed := (seed * 48271 + 12820163 + (mny + 1)).fmod 2147483647, many := mny + 1 }) ∨
      0 < held ∧ ¬many = 0 ∧ divC held many = true ∧ 0 ≤ held.fmod many ∧ held.fmod many < many ∧ FlOk { cells := cells, place := place, held := held.fdiv many, seed := seed, many := mny } := by
    intro cells place held seed mny c b1 b2 b3 b4
    by_cases hh : held ≤ 0
    · exact .inl ⟨hh, pick_A (P := fun i s => 0 ≤ i ∧ i < many ∧ FlOk ⟨cells, place, held, s, mny + 1⟩) b2 b3 h0 fun i s c1 c2 c3 c4 => ⟨c1, c2, b1, c3, c4, b4⟩⟩
    · have d := fmod_lt (a := held) h0
      exact .inr ⟨by omega, by omega, divC_of (b := b) (by omega) h1 hb0 hb9, d.1, d.2, fdiv_nn b1 h0, b2, b3, b4⟩
  by_cases hh : held = 0
  · subst hh
    by_cases hp : place < cells.length
    · obtain ⟨n, rfl⟩ := Int.eq_ofNat_of_zero_le a4
      have hn : n < cells.length := by omega
      have hq : ¬ cells.length ≤ n := by omega
      have e1 : idxN cells.length ((n : Nat) : Int) = some n := idxN_nat hn
      have e2 : cells[n]? = some cells[n] := List.getElem?_eq_getElem hn
      by_cases hx : cells[n] < 1000000000000000000
      · have z := tail cells ((n : Int) + 1) 0 ((seed * 40013 + cells[n].fmod 1000003 + 1).fmod 2147483647) mny none a1 (fmod_lt (by omega)).1 (fmod_lt (by omega)).2 (by omega)
        have y := mulC_small (i := seed) (j := 40013) (by omega) (by omega)
        have hx1 : ¬ 1000000000000000000 ≤ cells[n] := by omega
        simp [hn, hq, e1, e2, hx, hx1, y] at z ⊢
        exact z
      · have hx' : ¬ cells[n] < 1000000000000000000 := hx
        have z := tail cells ((n : Int) + 1) cells[n] seed mny none (by omega) a2 a3 (by omega)
        have hx2 : 1000000000000000000 ≤ cells[n] := by omega
        have hx3 : 0 < cells[n] := by omega
        have hx4 : ¬ cells[n] ≤ 0 := by omega
        simp [hn, hq, e1, e2, hx, hx2, hx3, hx4] at z ⊢
        exact z
    · have hp' : (cells.length : Int) ≤ place := by omega
      have z := tail cells place 0 seed mny none a1 a2 a3 a4
      simp [hp, hp'] at z ⊢
      exact z
  · have z := tail cells place held seed mny none a1 a2 a3 a4
    simp [hh] at z ⊢
    exact z
theorem PBt.ofC {qs : List Rat} {n : Nat} (hq : ∀ q, q ∈ qs → FB n q) (h0 : 0 < n) : PBt (n + 1 + qs.length * n) qs.length (NW.ofC qs) := by
  have hb : 0 < lcms 1 qs := lcms_pos (by decide)
  have hB : lcms 1 qs < 2 ^ (1 + qs.length * n) := lcms_lt hq (by decide)
  refine PBt.mk hb (by simp) (Nat.lt_of_lt_of_le hB (Nat.pow_le_pow_right (by omega) (by omega))) fun t ht => ?_
  obtain ⟨q, hq', rfl⟩ := List.mem_map.mp ht
  rw [Int.natAbs_mul, Int.natAbs_natCast, Nat.add_assoc, Nat.pow_add]
  exact Nat.mul_lt_mul'' (hq q hq').1 (Nat.lt_of_le_of_lt (Nat.div_le_self _ _) hB)
def Pol.lin (a b : Rat) : Pol := NW.ofC [b, a]
theorem PBt.lin {a b : Rat} {n : Nat} (ha : FB n a) (hb : FB n b) (h0 : 0 < n) : PBt (3 * n + 1) 2 (Pol.lin a b) :=
  (PBt.ofC (qs := [b, a]) (by simp [ha, hb]) h0).mono (by simp; omega) (by simp)
def Pol.inv (l : Pol) : Pol := Pol.lin (1 / l.co 1) (-(1 / l.co 1 * l.co 0))
theorem co_FB {p : Pol} {n m k : Nat} (h : PBt n m p) : FB n (p.co k) := by
  unfold Pol.co
  have := p.hb
  exact FB.of_divInt (by omega) (h.get k) (by simpa using h.2.1)
theorem inv_FB {l : Pol} {n m : Nat} (h : PBt n m l) (h0 : 0 < n) (hz : l.co 1 ≠ 0) : FB (n + 1) (1 / l.co 1) ∧ FB (2 * n + 1) (-(1 / l.co 1 * l.co 0)) := by
  have h1 : FB (n + 1) (1 / l.co 1) := ((FB.one (n := 1) (by omega)).div2 (co_FB h) hz).mono (by omega)
  exact ⟨h1, ((h1.mul2 (co_FB (k := 0) h)).neg).mono (by omega)⟩
theorem PBt.inv {l : Pol} {n m : Nat} (h : PBt n m l) (h0 : 0 < n) (hz : l.co 1 ≠ 0) : PBt (6 * n + 4) 2 l.inv := by
  obtain ⟨f1, f2⟩ := inv_FB h h0 hz
  exact (PBt.lin (f1.mono (by omega)) f2 (by omega)).mono (by omega) (by omega)
end NW
namespace NW
open PySem PySem.Spec PyProof.Rows L2
theorem L_number_to {f : Fl} (hf : FlOk f) {most : Int} (h0 : 0 ≤ most) (h1 : most ≤ 10 ^ 40) : (m_L_number [.int most] f).To fun d f' => ∃ i, d = .int i ∧ -most ≤ i ∧ i ≤ most ∧ FlOk f' := by
  unfold m_L_number
  rw [flow_to]
  unfold b_L_number
  have mc : mulC 2 most = true := mulC_of (a := 2) (b := 140) (by decide) (by omega) (by omega) (by omega) (by omega)
  simp [startL, mc]
  refine (pickx (b := 200) hf (by omega) (by omega) (by omega) (by omega)).mono ?_
  rintro _ g1 ⟨i, rfl, i1, i2, o1⟩
  simp
  exact ⟨by omega, by omega, o1⟩
theorem pw_le {a b : Nat} (h : a ≤ b) : 2 ^ a ≤ 2 ^ b := Nat.pow_le_pow_right (by omega) h
def Pol.tu (A : Rat) : Nat → Pol
  | 0 => NW.mk [2] 1
  | 1 => Pol.X
  | n + 2 => Pol.X * Pol.tu A (n + 1) - (Pol.tu A n).sc A
theorem ev_tu0 {A x : Rat} : (Pol.tu A 0).ev x = 2 := by rw [Pol.tu, ev_mk (by decide)]; simp [evZ]; grind
theorem ev_tu1 {A x : Rat} : (Pol.tu A 1).ev x = x := ev_X
theorem ev_tu2 {A x : Rat} {n : Nat} : (Pol.tu A (n + 2)).ev x = x * (Pol.tu A (n + 1)).ev x - A * (Pol.tu A n).ev x := by rw [Pol.tu, ev_sub, ev_mul, ev_sc, ev_X]; grind
theorem BZ.scale {A B : Nat} {c : Int} {ts : List Int} (h : BZ A ts) (hc : c.natAbs ≤ B) : BZ (B * A) (ts.map fun t => c * t) := fun w hw => by
  obtain ⟨t, ht, rfl⟩ := List.mem_map.mp hw
  rw [Int.natAbs_mul]
  exact Nat.mul_le_mul hc (h t ht)
theorem tu_rep {A : Rat} {b : Nat} (hA : FB b A) : ∀ (n : Nat), ∃ ts : List Int, (∀ x, (Pol.tu A n).ev x = evZ ts x / (((A.den ^ n : Nat) : Int) : Rat)) ∧ ts.length ≤ n + 1 ∧ BZ (2 ^ ((b + 1) * n + 1)) ts
  | 0 => ⟨[2], fun x => by rw [ev_tu0]; simp [evZ]; grind, by simp, by simp [BZ]⟩
  | 1 => ⟨[0, (A.den : Int)], fun x => by
      rw [ev_tu1]
      have : ((A.den : Int) : Rat) ≠ 0 := fun e => den_ne A (Rat.intCast_eq_zero_iff.mp e)
      simp [evZ]
      grind, by simp, by
      have := hA.2
      have h2 : 2 ^ b ≤ 2 ^ ((b + 1) * 1 + 1) := pw_le (by omega)
      intro t ht
      simp at ht
      rcases ht with rfl | rfl
      · simp
      · simp; omega⟩
  | n + 2 => by
    obtain ⟨ts, e1, l1, s1⟩ := tu_rep hA n
    obtain ⟨us, e2, l2, s2⟩ := tu_rep hA (n + 1)
    refine ⟨addZ (0 :: us.map fun t => (A.den : Int) * t) (ts.map fun t => (-(A.num * A.den)) * t), fun x => ?_, addZ_len (by simp; omega) (by simp; omega), ?_⟩
    · rw [ev_tu2, e1, e2, evZ_addZ, evZ_mul, evZ, evZ_mul]
      have h1 : ((A.den : Int) : Rat) ≠ 0 := fun e => den_ne A (Rat.intCast_eq_zero_iff.mp e)
      have h2 : (((A.den ^ n : Nat) : Int) : Rat) ≠ 0 := fun e => by
        have := Rat.intCast_eq_zero_iff.mp e
        have := Nat.pow_pos (n := n) A.den_pos
        omega
      have h3 : (((A.den ^ (n + 1) : Nat) : Int) : Rat) = (((A.den ^ n : Nat) : Int) : Rat) * ((A.den : Int) : Rat) := by rw [Nat.pow_succ, Int.natCast_mul, Rat.intCast_mul]
      have h4 : (((A.den ^ (n + 2) : Nat) : Int) : Rat) = (((A.den ^ n : Nat) : Int) : Rat) * ((A.den : Int) : Rat) * ((A.den : Int) : Rat) := by rw [Nat.pow_succ, Int.natCast_mul, Rat.intCast_mul, h3]
      have eA := Rat.num_divInt_den A
      rw [divInt_div] at eA
      rw [h3, h4, Rat.intCast_neg, Rat.intCast_mul]
      generalize evZ ts x = u
      generalize evZ us x = v
      conv => lhs; rw [← eA]
      simp
      grind
    · have z0 : BZ (2 ^ b * 2 ^ ((b + 1) * (n + 1) + 1)) (0 :: us.map fun t => (A.den : Int) * t) := fun w hw => by
        rcases List.mem_cons.mp hw with rfl | hw
        · simp
        · exact s2.scale (by have := hA.2; omega) w hw
      have z1 := s1.scale (c := -(A.num * A.den)) (B := 2 ^ b * 2 ^ b) (by
        rw [Int.natAbs_neg, Int.natAbs_mul]
        exact Nat.mul_le_mul (Nat.le_of_lt hA.1) (Nat.le_of_lt hA.2))
      have z := z0.add z1
      refine fun w hw => Nat.le_trans (z w hw) ?_
      have q1 : (b + 1) * (n + 1) = (b + 1) * n + b + 1 := by rw [Nat.mul_add]; omega
      have q2 : (b + 1) * (n + 2) = (b + 1) * n + 2 * b + 2 := by rw [Nat.mul_add]; omega
      rw [← Nat.pow_add, ← Nat.pow_add, ← Nat.pow_add]
      have p1 : 2 ^ (b + ((b + 1) * (n + 1) + 1)) ≤ 2 ^ ((b + 1) * n + 2 * b + 2) := pw_le (by omega)
      have p2 : 2 ^ (b + b + ((b + 1) * n + 1)) ≤ 2 ^ ((b + 1) * n + 2 * b + 2) := pw_le (by omega)
      have p3 : 2 ^ ((b + 1) * (n + 2) + 1) = 2 * 2 ^ ((b + 1) * n + 2 * b + 2) := by
        rw [q2, Nat.pow_succ, Nat.mul_comm]
      omega
theorem PBt.tu {A : Rat} {b : Nat} (hA : FB b A) (n : Nat) : PBt ((b + 1) * n + 2) (n + 1) (Pol.tu A n) := by
  obtain ⟨ts, e, hl, hs⟩ := tu_rep hA n
  have hp := Nat.pow_pos (n := n) A.den_pos
  have : Pol.tu A n = NW.mk ts (A.den ^ n) := Pol.ext_ev fun x => by rw [e, ev_mk hp]
  rw [this]
  refine PBt.mk hp hl ?_ fun t ht => ?_
  · have h1 : A.den ^ n ≤ (2 ^ b) ^ n := Nat.pow_le_pow_left (Nat.le_of_lt hA.2) n
    rw [← Nat.pow_mul] at h1
    have h2 : 2 ^ (b * n) < 2 ^ ((b + 1) * n + 2) := Nat.pow_lt_pow_right (by omega) (by rw [Nat.add_mul]; omega)
    omega
  · refine Nat.lt_of_le_of_lt (hs t ht) (Nat.pow_lt_pow_right (by omega) (by omega))
@[simp] theorem idx_2 {n : Nat} : idxN (n + 3) 2 = some 2 := by
  unfold idxN
  rw [if_pos (by decide), if_pos (by omega)]; rfl
@[simp] theorem idx_3 {n : Nat} : idxN (n + 4) 3 = some 3 := by
  unfold idxN
  rw [if_pos (by decide), if_pos (by omega)]; rfl
end NW
namespace NW
open PySem PySem.Spec PyProof.Rows L2
def Pol.deg (p : Pol) : Nat := p.ts.length - 1
theorem co_mul_top {p q : Pol} : (p * q).co (p.deg + q.deg) = p.co p.deg * q.co q.deg := by
  rw [co_mul]
  have key : ∀ (n i : Nat) (f : Nat → Rat), i < n → (∀ j, j < n → j ≠ i → f j = 0) → sm n f = f i := by
    intro n
    induction n with
    | zero => intro i f h; omega
    | succ n ih =>
      intro i f hi hz
      rw [sm]
      by_cases e : i = n
      · subst e
        rw [sm_zero fun k hk => hz k (by omega) (by omega)]; grind
      · rw [ih i f (by omega) fun j hj => hz j (by omega), hz n (by omega) (Ne.symm e)]; grind
  rw [key (p.deg + q.deg + 1) p.deg _ (by omega) fun j hj hne => ?_]
  · congr 1
    congr 1
    omega
  · unfold Pol.deg at *
    by_cases h : p.ts.length ≤ j
    · rw [co_zero_of h]; simp
    · rw [co_zero_of (p := q) (k := p.ts.length - 1 + (q.ts.length - 1) - j) (by omega)]; simp
theorem len_mul {p q : Pol} (hp : p.ts ≠ []) (hq : q.ts ≠ []) : (p * q).ts.length = p.ts.length + q.ts.length - 1 := by
  have h1 := List.length_pos_iff.mpr hp
  have h2 := List.length_pos_iff.mpr hq
  refine Nat.le_antisymm mul_len ?_
  by_cases hl : p.ts.length + q.ts.length - 1 ≤ (p * q).ts.length
  · exact hl
  · exfalso
    have := co_mul_top (p := p) (q := q)
    rw [co_zero_of (by unfold Pol.deg; omega)] at this
    have a := co_lead hp
    have b := co_lead hq
    unfold Pol.deg at this
    grind
end NW
namespace NW
open PySem PySem.Spec PyProof.Rows L2
theorem mk_len_eq {ts : List Int} {t : Int} {b : Nat} (hb : 0 < b) (ht : t ≠ 0) : (mk (ts ++ [t]) b).ts.length = ts.length + 1 := len_of (fun k hk => by
  rw [co_mk hb, List.getD_eq_getElem?_getD, List.getElem?_eq_none (by simp; omega)]; simp) fun _ => by
  have e0 : (ts ++ [t])[ts.length + 1 - 1]? = some t := by simp
  rw [co_mk hb, List.getD_eq_getElem?_getD, e0]
  intro e
  have e2 : Rat.divInt t b = Rat.divInt 0 1 := by rw [Rat.zero_divInt]; exact e
  have := (Rat.divInt_eq_divInt_iff (by omega) (by omega)).mp e2
  omega
theorem any_poly_to {f : Fl} (hf : FlOk f) {many : Nat} {most : Int} {n : Nat} (hm : many ≤ 30) (h0 : 1 ≤ most) (h1 : most ≤ 10 ^ 40) (hn : most < 2 ^ n) (h2 : 3 ≤ n) (h3 : n ≤ 400000) : (m_L_any_poly [.int many, .int most] f).To fun d f' => ∃ p, d = polyD p ∧ PBt n (many + 1) p ∧ p.ts.length = many + 1 ∧ FlOk f' := by
  unfold m_L_any_poly
  rw [flow_to]
  unfold b_L_any_poly
  have hc : ((2 ^ n : Nat) : Int) = 2 ^ n := by simp
  have h4 : 2 ^ 3 ≤ 2 ^ n := pw_le h2
  simp [startL]
  refine ⟨decide_eq_true (by omega), by omega, ?_⟩
  refine lc_draw (p := fun y => ∃ t, y = .int t ∧ t.natAbs < 2 ^ n) ?_ hf ?_
  · intro x hx g og
    simp [wipeL]
    refine (L_number_to og (by omega) h1).mono ?_
    rintro _ g1 ⟨v, rfl, v1, v2, o1⟩
    refine (pick_to o1 (by omega) (by omega)).mono ?_
    rintro _ g2 ⟨i, rfl, i1, i2, o2⟩
    simp
    have hv : v.natAbs < 2 ^ n := by omega
    by_cases hi : 0 < i
    · have mc : mulC v 1 = true := mx hv (b := 1) (by decide) (by omega)
      simp [hi, mc]
      exact ⟨o2, hv⟩
    · have mc : mulC v 0 = true := mx hv (b := 1) (by decide) (by omega)
      simp [hi, mc]
      exact ⟨o2, by omega⟩
  · intro ys g1 hl hy o1
    obtain ⟨ts, rfl, ht⟩ := all_int hy
    have hl' : ts.length = many := by simpa using hl
    simp
    refine (pickx (b := 200) o1 (by omega) (by omega) (by omega) (by omega)).mono ?_
    rintro _ g2 ⟨u, rfl, u1, u2, o2⟩
    simp
    refine (pickx (b := 200) o2 (by omega) (by omega) (by omega) (by omega)).mono ?_
    rintro _ g3 ⟨v, rfl, v1, v2, o3⟩
    simp
    refine (pick_to o3 (by omega) (by omega)).mono ?_
    rintro _ g4 ⟨i, rfl, i1, i2, o4⟩
    refine ixl_to (p := fun x => ∃ j : Int, x = .int j ∧ j ≠ 0 ∧ j.natAbs < 2 ^ n) i1 i2 (by simp; omega) ?_
    rintro _ ⟨first, rfl, fz, fb⟩
    simp
    refine ⟨by omega, ?_⟩
    refine (pick_to o4 (by omega) (by omega)).mono ?_
    rintro _ g5 ⟨i, rfl, i1, i2, o5⟩
    refine ixl_to (p := fun x => ∃ j : Int, x = .int j ∧ 1 ≤ j ∧ j ≤ 6) i1 i2 (by simp) ?_
    rintro _ ⟨mb, rfl, mb0, mb1⟩
    simp
    refine (pick_to o5 (by omega) (by omega)).mono ?_
    rintro _ g6 ⟨w, rfl, w1, w2, o6⟩
    simp
    obtain ⟨B, hB⟩ : ∃ B : Nat, 1 + w = (B : Int) := ⟨(1 + w).toNat, by omega⟩
    rw [hB]
    have hB1 : B < 2 ^ n := by omega
    refine L_poly_to (ts := ts ++ [first]) (.inl (by simp)) (by omega) trivial (by simp; omega) ?_
    refine ⟨_, rfl, PBt.mk (by omega) (by simp [hl']) hB1 fun t h => ?_, by rw [mk_len_eq (by omega) fz, hl'], o6⟩
    rcases List.mem_append.mp h with h | h
    · exact ht t h
    · have : t = first := by simpa using h
      subst this; exact fb
end NW
namespace NW
open PySem PySem.Spec PyProof.Rows L2
theorem PBt.rep {p : Pol} {n m D : Nat} {N : Nat → Int} (hD : 0 < D) (h1 : ∀ k, p.co k = Rat.divInt (N k) D) (h2 : D < 2 ^ n) (h3 : ∀ k, (N k).natAbs < 2 ^ n) (h4 : ∀ k, m ≤ k → p.co k = 0) : PBt n m p := by
  have : p = NW.mk ((List.range m).map N) D := Pol.ext_co fun k => by
    rw [co_mk hD, List.getD_eq_getElem?_getD, List.getElem?_map]
    by_cases hk : k < m
    · rw [List.getElem?_range hk]; exact h1 k
    · rw [List.getElem?_eq_none (by simp; omega), h4 k (by omega)]; simp
  rw [this]
  refine PBt.mk hD (by simp) h2 fun t ht => ?_
  obtain ⟨k, _, rfl⟩ := List.mem_map.mp ht
  exact h3 k
def Pol.mid (f : Pol) : Rat := f.co (f.deg - 1) / (((f.deg : Int) : Rat) * f.co f.deg)
def Pol.sh (f : Pol) : Pol := f.comp (Pol.lin 1 (-f.mid))
def Pol.pl (f : Pol) : Pol := (f.sh - NW.ofC [f.sh.co 0]).sc (1 / f.co f.deg)
end NW
namespace NW
open PySem PySem.Spec PyProof.Rows L2
end NW
namespace NW
open PySem PySem.Spec PyProof.Rows L2
end NW
namespace NW
open PySem PySem.Spec PyProof.Rows L2
def Pol.nm (w : Pol) : Pol := (w - NW.ofC [w.co 0]).sc (1 / w.co w.deg)
end NW
namespace NW
open PySem PySem.Spec PyProof.Rows L2
theorem evC_snoc {x : Rat} : ∀ {n : Nat} {f : Nat → Rat}, evC (n + 1) f x = evC n f x + f n * x ^ n
  | 0, f => by simp [evC]; grind
  | n + 1, f => by
    rw [evC, evC_snoc (n := n) (f := fun k => f (k + 1)), evC]
    grind
theorem rpow_add {x : Rat} {a : Nat} : ∀ {b : Nat}, x ^ (a + b) = x ^ a * x ^ b
  | 0 => by simp
  | b + 1 => by rw [← Nat.add_assoc, Rat.pow_succ, rpow_add, Rat.pow_succ]; grind
theorem mul0 (t : Int) (us : List Int) : (us.map fun u => t * u).getD 0 0 = t * us.getD 0 0 := getD_map (by simp) us 0
theorem mulZ_zero {t : Int} {ts us : List Int} : (mulZ (t :: ts) us).getD 0 0 = t * us.getD 0 0 := by
  rw [mulZ, addZ_get, mul0]; simp
theorem mulZ_succ {t : Int} {ts us : List Int} {k : Nat} : (mulZ (t :: ts) us).getD (k + 1) 0 = t * us.getD (k + 1) 0 + (mulZ ts us).getD k 0 := by
  rw [mulZ, addZ_get, getD_map (by simp)]; simp
theorem addZ_length : ∀ {ts us : List Int}, (addZ ts us).length = max ts.length us.length
  | [], us => by simp [addZ]
  | t :: ts, [] => by simp [addZ]
  | t :: ts, u :: us => by rw [addZ, List.length_cons, addZ_length]; simp
theorem mulZ_length : ∀ {ts us : List Int}, us ≠ [] → ts ≠ [] → (mulZ ts us).length + 1 = ts.length + us.length
  | [], us, _, h => absurd rfl h
  | [t], us, h, _ => by
    have := List.length_pos_iff.mpr h
    simp [mulZ, addZ_length]; omega
  | t :: u :: ts, us, h, _ => by
    have ih := mulZ_length (ts := u :: ts) h (by simp)
    have := List.length_pos_iff.mpr h
    rw [mulZ, addZ_length]
    simp at ih ⊢
    omega
def WB (C E : Nat) (F : List Int) : Prop := ∀ k, (F.getD k 0).natAbs ≤ C * E ^ k
theorem WB.mul' : ∀ {F G : List Int} {C C' E : Nat}, WB C E F → WB C' E G → ∀ k, ((mulZ F G).getD k 0).natAbs ≤ (k + 1) * (C * C' * E ^ k)
  | [], G, C, C', E, _, _, k => by simp [mulZ]
  | t :: ts, G, C, C', E, hF, hG, 0 => by
    rw [mulZ_zero, Int.natAbs_mul]
    have a := hF 0
    have b := hG 0
    simp at a b ⊢
    exact Nat.mul_le_mul a (by simpa using b)
  | t :: ts, G, C, C', E, hF, hG, k + 1 => by
    rw [mulZ_succ]
    have ih := WB.mul' (F := ts) (G := G) (C := C * E) (C' := C') (E := E) (fun j => by
      have := hF (j + 1)
      rw [List.getD_cons_succ, Nat.pow_succ, Nat.mul_comm (E ^ j), ← Nat.mul_assoc] at this
      exact this) hG k
    have a := hF 0
    have b := hG (k + 1)
    simp at a
    have c := Nat.mul_le_mul a b
    rw [← Int.natAbs_mul] at c
    have e1 : C * (C' * E ^ (k + 1)) = C * C' * E ^ (k + 1) := by rw [Nat.mul_assoc]
    have e2 : C * E * C' * E ^ k = C * C' * E ^ (k + 1) := by rw [Nat.pow_succ]; ac_rfl
    rw [e1] at c
    rw [e2] at ih
    have := Int.natAbs_add_le (t * G.getD (k + 1) 0) ((mulZ ts G).getD k 0)
    have e3 : (k + 1 + 1) * (C * C' * E ^ (k + 1)) = (k + 1) * (C * C' * E ^ (k + 1)) + C * C' * E ^ (k + 1) := by rw [Nat.add_mul (k + 1) 1, Nat.one_mul]
    omega
theorem WB.mul {F G : List Int} {C C' E : Nat} (hF : WB C E F) (hG : WB C' E G) : WB (C * C') (2 * E) (mulZ F G) := fun k => by
  refine Nat.le_trans (WB.mul' hF hG k) ?_
  have h2 : k + 1 ≤ 2 ^ k := Nat.lt_two_pow_self
  rw [Nat.mul_pow]
  calc (k + 1) * (C * C' * E ^ k) ≤ 2 ^ k * (C * C' * E ^ k) := Nat.mul_le_mul_right _ h2
    _ = C * C' * (2 ^ k * E ^ k) := by ac_rfl
theorem WB.mono {F : List Int} {C C' E E' : Nat} (h : WB C E F) (hC : C ≤ C') (hE : E ≤ E') : WB C' E' F := fun k => Nat.le_trans (h k) (Nat.mul_le_mul hC (Nat.pow_le_pow_left hE k))
structure W (d D c : Nat) (F : List Int) (p : Pol) : Prop where
  len : F.length = d + 1
  D0 : 0 < D
  c0 : 0 < c
  co : ∀ k, k ≤ d → p.co (d - k) = (F.getD k 0 : Rat) / (((c * D ^ k : Nat) : Int) : Rat)
  out : ∀ j, d < j → p.co j = 0
theorem nat_ne {n : Nat} (h : 0 < n) : (((n : Nat) : Int) : Rat) ≠ 0 := fun e => by have := Rat.intCast_eq_zero_iff.mp e; omega
theorem W.plen {d D c : Nat} {F : List Int} {p : Pol} (h : W d D c F p) : p.ts.length ≤ d + 1 := by
  rcases Nat.lt_or_ge (d + 1) p.ts.length with g | g
  · have := h.out (p.ts.length - 1) (by omega)
    exact absurd this (co_lead fun e => by rw [e] at g; simp at g)
  · exact g
theorem evW {x : Rat} (hx : x ≠ 0) {D : Nat} (hD : 0 < D) : ∀ {F : List Int} {d c : Nat} {f : Nat → Rat}, 0 < c → F.length = d + 1 → (∀ k, k ≤ d → f (d - k) = (F.getD k 0 : Rat) / (((c * D ^ k : Nat) : Int) : Rat)) → evC (d + 1) f x * (((c : Nat) : Int) : Rat) = x ^ d * evZ F (1 / ((((D : Nat) : Int) : Rat) * x))
  | [], d, c, f, _, hl, _ => by simp at hl
  | [t], d, c, f, hc, hl, h => by
    have d0 : d = 0 := by simpa using hl.symm
    subst d0
    have h0 := h 0 (by omega)
    have nc := nat_ne hc
    simp at h0
    simp [evC, evZ]
    rw [h0]
    grind
  | t :: u :: F, d, c, f, hc, hl, h => by
    obtain ⟨e, rfl⟩ : ∃ e, d = e + 1 := ⟨d - 1, by simp at hl; omega⟩
    have nc := nat_ne hc
    have nD := nat_ne hD
    have ih := evW hx hD (F := u :: F) (d := e) (c := c * D) (f := f) (Nat.mul_pos hc hD) (by simpa using hl) fun k hk => by
      have := h (k + 1) (by omega)
      rw [show e + 1 - (k + 1) = e - k by omega, List.getD_cons_succ, Nat.pow_succ, Nat.mul_comm (D ^ k), ← Nat.mul_assoc] at this
      exact this
    have h0 := h 0 (by omega)
    simp at h0
    rw [evC_snoc, evZ, h0]
    rw [Int.natCast_mul, Rat.intCast_mul] at ih
    have e1 : evC (e + 1) f x * (((c : Nat) : Int) : Rat) = x ^ e * evZ (u :: F) (1 / ((((D : Nat) : Int) : Rat) * x)) / (((D : Nat) : Int) : Rat) := by grind
    rw [Rat.add_mul, e1]
    generalize evZ (u :: F) (1 / ((((D : Nat) : Int) : Rat) * x)) = Z
    grind
theorem W.ev {d D c : Nat} {F : List Int} {p : Pol} (h : W d D c F p) {x : Rat} (hx : x ≠ 0) : p.ev x * (((c : Nat) : Int) : Rat) = x ^ d * evZ F (1 / ((((D : Nat) : Int) : Rat) * x)) := by
  rw [ev_co h.plen]
  exact evW hx h.D0 h.c0 h.len h.co
theorem Pol.ext_pos {p q : Pol} (h : ∀ n : Int, 0 < n → p.ev (n : Rat) = q.ev (n : Rat)) : p = q := by
  have hp := p.hb
  have hq := q.hb
  have hp' := p.bne
  have hq' := q.bne
  refine Pol.ext_co fun k => ?_
  have key : ∀ n : Int, 0 < n → evI (p.ts.map fun t => (q.b : Int) * t) n = evI (q.ts.map fun t => (p.b : Int) * t) n := fun n hn => by
    refine Rat.intCast_inj.mp ?_
    rw [← evI_cast, ← evI_cast, evZ_mul, evZ_mul]
    have := h n hn
    unfold Pol.ev at this
    grind
  have := evI_get key k
  rw [getD_map (by simp), getD_map (by simp)] at this
  unfold Pol.co
  refine (Rat.divInt_eq_divInt_iff (by omega) (by omega)).mpr ?_
  rw [Int.mul_comm, this, Int.mul_comm]
def ofW (d D c : Nat) (F : List Int) : Pol := NW.mk ((List.range (d + 1)).map fun j => F.getD (d - j) 0 * ((D ^ j : Nat) : Int)) (c * D ^ d)
theorem ofW_W {d D c : Nat} {F : List Int} (hl : F.length = d + 1) (hD : 0 < D) (hc : 0 < c) : W d D c F (ofW d D c F) := by
  have hb : 0 < c * D ^ d := Nat.mul_pos hc (Nat.pow_pos hD)
  have g : ∀ j, (ofW d D c F).co j = if j ≤ d then Rat.divInt (F.getD (d - j) 0 * ((D ^ j : Nat) : Int)) ((c * D ^ d : Nat) : Int) else 0 := fun j => by
    unfold ofW
    rw [co_mk hb, List.getD_eq_getElem?_getD, List.getElem?_map]
    by_cases hj : j ≤ d
    · rw [List.getElem?_range (by omega), if_pos hj]; rfl
    · rw [List.getElem?_eq_none (by simp; omega), if_neg hj]; simp
  refine ⟨hl, hD, hc, fun k hk => ?_, fun j hj => by rw [g, if_neg (by omega)]⟩
  rw [g, if_pos (by omega), show d - (d - k) = k by omega, divInt_div]
  have e : D ^ d = D ^ k * D ^ (d - k) := by rw [← Nat.pow_add]; congr 1; omega
  rw [e, ← Nat.mul_assoc, Int.natCast_mul (c * D ^ k), Rat.intCast_mul, Rat.intCast_mul]
  have n1 := nat_ne (n := D ^ (d - k)) (Nat.pow_pos hD)
  have n2 := nat_ne (n := c * D ^ k) (Nat.mul_pos hc (Nat.pow_pos hD))
  grind
theorem W.of_ev {d D c : Nat} {F : List Int} {p : Pol} (hl : F.length = d + 1) (hD : 0 < D) (hc : 0 < c) (h : ∀ x : Rat, x ≠ 0 → p.ev x * (((c : Nat) : Int) : Rat) = x ^ d * evZ F (1 / ((((D : Nat) : Int) : Rat) * x))) : W d D c F p := by
  have w := ofW_W hl hD hc
  have : p = ofW d D c F := Pol.ext_pos fun n hn => by
    have nx : (n : Rat) ≠ 0 := fun e => by have := Rat.intCast_eq_zero_iff.mp e; omega
    have a := h n nx
    have b := w.ev nx
    have nc := nat_ne hc
    grind
  rw [this]; exact w
theorem W.eq_ofW {d D c : Nat} {F : List Int} {p : Pol} (h : W d D c F p) : p = ofW d D c F := Pol.ext_co fun j => by
  have w := ofW_W h.len h.D0 h.c0
  by_cases hj : j ≤ d
  · have a := h.co (d - j) (by omega)
    have b := w.co (d - j) (by omega)
    rw [show d - (d - j) = j by omega] at a b
    rw [a, b]
  · rw [h.out j (by omega), w.out j (by omega)]
theorem W.mul {d d' D c c' : Nat} {F G : List Int} {p q : Pol} (hp : W d D c F p) (hq : W d' D c' G q) : W (d + d') D (c * c') (mulZ F G) (p * q) := by
  refine W.of_ev ?_ hp.D0 (Nat.mul_pos hp.c0 hq.c0) fun x hx => ?_
  · have := mulZ_length (ts := F) (us := G) (fun e => by have := hq.len; rw [e] at this; simp at this) (fun e => by have := hp.len; rw [e] at this; simp at this)
    have := hp.len
    have := hq.len
    omega
  · have a := hp.ev hx
    have b := hq.ev hx
    rw [ev_mul, evZ_mulZ, Int.natCast_mul, Rat.intCast_mul, rpow_add]
    grind
theorem W.sz {d D c C E n : Nat} {F : List Int} {p : Pol} (h : W d D c F p) (hF : WB C E F) (hE : D ≤ E) (h1 : c * D ^ d < 2 ^ n) (h2 : C * E ^ d < 2 ^ n) : PBt n (d + 1) p := by
  rw [h.eq_ofW]
  refine PBt.mk (Nat.mul_pos h.c0 (Nat.pow_pos h.D0)) (by simp) h1 fun t ht => ?_
  obtain ⟨j, hj, rfl⟩ := List.mem_map.mp ht
  have hj' : j < d + 1 := List.mem_range.mp hj
  rw [Int.natAbs_mul, Int.natAbs_natCast]
  refine Nat.lt_of_le_of_lt (Nat.mul_le_mul (hF _) (Nat.pow_le_pow_left hE j)) ?_
  rw [Nat.mul_assoc, ← Nat.pow_add, show d - j + j = d by omega]
  exact h2
end NW
namespace NW
open PySem PySem.Spec PyProof.Rows L2
def pwZ (F : List Int) : Nat → List Int
  | 0 => [1]
  | i + 1 => mulZ (pwZ F i) F
theorem W.one {D : Nat} (hD : 0 < D) : W 0 D 1 [1] Pol.one := ⟨rfl, hD, by omega, fun k hk => by
  have : k = 0 := by omega
  subst this
  simp [Pol.co, Pol.one, divInt_div], fun j hj => by
  obtain ⟨i, rfl⟩ : ∃ i, j = i + 1 := ⟨j - 1, by omega⟩
  simp [Pol.co, Pol.one]⟩
theorem W.pw {d D : Nat} {F : List Int} {p : Pol} (h : W d D 1 F p) : ∀ {i : Nat}, W (i * d) D 1 (pwZ F i) (p.pw i)
  | 0 => by rw [Nat.zero_mul]; exact W.one h.D0
  | i + 1 => by
    rw [Nat.add_mul, Nat.one_mul]
    exact (W.pw h (i := i)).mul h
theorem WB.pw {E : Nat} {F : List Int} (h : WB 1 E F) : ∀ {i : Nat}, WB 1 (2 ^ i * E) (pwZ F i)
  | 0 => fun k => by
    cases k with
    | zero => simp [pwZ]
    | succ k => simp [pwZ]
  | i + 1 => by
    have a := (WB.pw h (i := i)).mul (h.mono (Nat.le_refl 1) (show E ≤ 2 ^ i * E from Nat.le_mul_of_pos_left _ (Nat.two_pow_pos i)))
    rw [show 2 ^ (i + 1) * E = 2 * (2 ^ i * E) by rw [Nat.pow_succ]; ac_rfl]
    exact a
def Dm (m : Int) (F : List Int) : Prop := F.getD 0 0 = 1 ∧ ∀ k, m ∣ F.getD (k + 1) 0
theorem mul_mod2 {m : Int} {G : List Int} (hG : Dm m G) : ∀ {ts : List Int}, (∀ k, m ∣ ts.getD k 0) → ∀ k, m * m ∣ (mulZ ts G).getD k 0 - ts.getD k 0
  | [], _, k => by simp [mulZ]
  | t :: ts, h, 0 => by
    rw [mulZ_zero, hG.1]; simp
  | t :: ts, h, k + 1 => by
    rw [mulZ_succ, List.getD_cons_succ]
    have ih := mul_mod2 hG (ts := ts) (fun j => by simpa using h (j + 1)) k
    have a : m * m ∣ t * G.getD (k + 1) 0 := Int.mul_dvd_mul (by simpa using h 0) (hG.2 k)
    have := Int.dvd_add a ih
    rwa [← Int.add_sub_assoc] at this
theorem cons_of {F : List Int} (h : F.getD 0 0 = 1) : ∃ ts, F = 1 :: ts := by
  cases F with
  | nil => simp at h
  | cons t ts => simp at h; exact ⟨ts, by rw [h]⟩
theorem Dm.mul {m : Int} {F G : List Int} (hF : Dm m F) (hG : Dm m G) : ∀ k, m * m ∣ (mulZ F G).getD (k + 1) 0 - (G.getD (k + 1) 0 + F.getD (k + 1) 0) := fun k => by
  obtain ⟨ts, rfl⟩ := cons_of hF.1
  have a := mul_mod2 hG (ts := ts) (fun j => by simpa using hF.2 j) k
  rw [mulZ_succ, Int.one_mul, List.getD_cons_succ]
  rwa [show G.getD (k + 1) 0 + (mulZ ts G).getD k 0 - (G.getD (k + 1) 0 + ts.getD k 0) = (mulZ ts G).getD k 0 - ts.getD k 0 by omega]
theorem Dm.prod {m : Int} {F G : List Int} (hF : Dm m F) (hG : Dm m G) : Dm m (mulZ F G) := by
  refine ⟨?_, fun k => ?_⟩
  · obtain ⟨ts, rfl⟩ := cons_of hF.1
    rw [mulZ_zero, hG.1]; rfl
  · have a := Int.dvd_trans (Int.dvd_mul_right m m) (hF.mul hG k)
    have b := Int.dvd_add (hG.2 k) (hF.2 k)
    have := Int.dvd_add a b
    rwa [show (mulZ F G).getD (k + 1) 0 - (G.getD (k + 1) 0 + F.getD (k + 1) 0) + (G.getD (k + 1) 0 + F.getD (k + 1) 0) = (mulZ F G).getD (k + 1) 0 by omega] at this
theorem Dm.one {m : Int} : Dm m [1] := ⟨rfl, fun k => by simp⟩
theorem Dm.pw {m : Int} {F : List Int} (h : Dm m F) : ∀ {i : Nat}, Dm m (pwZ F i)
  | 0 => Dm.one
  | i + 1 => (Dm.pw h (i := i)).prod h
theorem smI_congr {f g : Nat → Int} : ∀ {n : Nat}, (∀ j, j < n → f j = g j) → smI n f = smI n g
  | 0, _ => rfl
  | n + 1, h => by rw [smI, smI, smI_congr fun j hj => h j (by omega), h n (by omega)]
def Ag (k : Nat) (δ : Int) (A B : List Int) : Prop := (∀ j, j < k → A.getD j 0 = B.getD j 0) ∧ A.getD k 0 = B.getD k 0 + δ
theorem Ag.mul {k : Nat} {α β : Int} {A A' G G' : List Int} (hA : Ag (k + 1) α A A') (hG : Ag (k + 1) β G G') : Ag (k + 1) (α * G'.getD 0 0 + A'.getD 0 0 * β) (mulZ A G) (mulZ A' G') := by
  refine ⟨fun j hj => ?_, ?_⟩
  · rw [mulZ_get, mulZ_get]
    exact smI_congr fun i hi => by rw [hA.1 i (by omega), hG.1 (j - i) (by omega)]
  · rw [mulZ_get, mulZ_get, smI_succ, smI_succ (n := k + 1), smI, smI]
    rw [smI_congr (n := k) (g := fun i => A'.getD (i + 1) 0 * G'.getD (k + 1 - (i + 1)) 0) fun i hi => by rw [hA.1 (i + 1) (by omega), hG.1 (k + 1 - (i + 1)) (by omega)]]
    rw [hA.1 0 (by omega), Nat.sub_self, hG.1 0 (by omega), hA.2, show k + 1 - 0 = k + 1 by omega, hG.2]
    rw [Int.mul_add, Int.add_mul]
    omega
theorem Ag.pw {k : Nat} {δ : Int} {F G : List Int} (h : Ag (k + 1) δ F G) (h1 : G.getD 0 0 = 1) : ∀ {i : Nat}, Ag (k + 1) ((i : Int) * δ) (pwZ F i) (pwZ G i) ∧ (pwZ G i).getD 0 0 = 1
  | 0 => ⟨⟨fun j hj => rfl, by simp [pwZ]⟩, rfl⟩
  | i + 1 => by
    obtain ⟨a, b⟩ := Ag.pw h h1 (i := i)
    have := a.mul h
    rw [h1, b] at this
    refine ⟨?_, ?_⟩
    · rw [pwZ, pwZ, show ((i + 1 : Nat) : Int) * δ = (i : Int) * δ * 1 + 1 * δ by rw [Int.natCast_add, Int.add_mul]; omega]
      exact this
    · rw [pwZ]
      obtain ⟨ts, e⟩ := cons_of b
      rw [e, mulZ_zero, h1]; rfl
end NW
namespace NW
open PySem PySem.Spec PyProof.Rows L2
def mono (c : Rat) (e : Nat) : Pol := NW.ofC (List.replicate e 0 ++ [c])
theorem co_mono {c : Rat} {e j : Nat} : (mono c e).co j = if j = e then c else 0 := by
  unfold mono
  rw [co_ofC, List.getD_eq_getElem?_getD]
  rcases Nat.lt_trichotomy j e with h | h | h
  · rw [List.getElem?_append_left (by simpa using h), if_neg (by omega), List.getElem?_replicate, if_pos h]; rfl
  · rw [List.getElem?_append_right (by simp; omega), if_pos h]
    simp [h]
  · rw [List.getElem?_eq_none (by simp; omega), if_neg (by omega)]; rfl
theorem mono_sz {c : Rat} {e n : Nat} (h : FB n c) : PBt n (e + 1) (mono c e) := by
  refine PBt.rep (D := c.den) (N := fun j => if j = e then c.num else 0) c.den_pos (fun j => ?_) h.2 (fun j => ?_) fun j hj => by rw [co_mono, if_neg (by omega)]
  · rw [co_mono]
    split
    · exact (Rat.num_divInt_den c).symm
    · simp
  · show (if j = e then c.num else 0).natAbs < _
    split
    · exact h.1
    · simp [Nat.two_pow_pos]
theorem flat1 {x : PyData} : ∀ n : Nat, (List.replicate n [x]).flatten = List.replicate n x
  | 0 => rfl
  | n + 1 => by rw [List.replicate_succ, List.flatten_cons, flat1, List.replicate_succ]; rfl
theorem fMulA_k {x : PyData} {k : Int} {st : Sto} (h0 : 0 ≤ k) (h1 : k ≤ 1000) {r : Nat} (hr : k.toNat = r) : fMulA (.d (.list [x])) (.d (.int k)) st = .ok (.d (.list (List.replicate r x))) st := by
  have e : fMulA (.d (.list [x])) (.d (.int k)) st = if (decide (-(2 ^ 63) ≤ k ∧ k < 2 ^ 63) && lenOk ([x].length * k.toNat)) = true then Res.ok (U.d (.list (List.replicate k.toNat [x]).flatten)) st else .no := rfl
  have c : (decide (-(2 ^ 63) ≤ k ∧ k < 2 ^ 63) && lenOk ([x].length * k.toNat)) = true := by
    rw [Bool.and_eq_true, decide_eq_true_eq, lenOk_small, List.length_singleton, Nat.one_mul]
    exact ⟨⟨by omega, by omega⟩, by omega⟩
  rw [e, if_pos c, flat1, hr]
end NW
namespace NW
open PySem PySem.Spec PyProof.Rows L2
theorem cut {a b : MS} {l : NW.Loc} {st : Sto} {N : NW.Loc → Sto → Prop} {R : U → Sto → Prop} (M : NW.Loc → Sto → Prop) (h1 : (a l st).To M R) (h2 : ∀ l s, M l s → (b l s).To N R) : (sSeq a b l st).To N R := by
  rw [to_sSeq]
  exact h1.mono h2 fun _ _ h => h
end NW
namespace NW
open PySem PySem.Spec PyProof.Rows L2
def S (l : List Nat) : Str := ⟨l.toArray⟩
@[simp] theorem tl_S (l : List Nat) : TL.tl (S l) = l := TL.tl_mk l
theorem S_tl (x : Str) : S (TL.tl x) = x := TL.mk_tl x
theorem S_inj {a b : List Nat} : S a = S b ↔ a = b := ⟨fun h => by have := congrArg TL.tl h; simpa using this, fun h => by rw [h]⟩
@[simp] theorem S_add {a b : List Nat} : S a ++ S b = S (a ++ b) := TL.ext_tl (by rw [TL.tl_append]; simp)
theorem S_of {x : Str} {l : List Nat} (h : TL.tl x = l) : x = S l := by rw [← h, S_tl]
@[simp] theorem S_len {l : List Nat} : (S l).length = l.length := by show (S l).cps.size = _; unfold S; simp
theorem S_cps {l : List Nat} : (S l).cps.toList = l := by unfold S; simp
@[simp] theorem c_empty : ("" : Str) = S [] := S_of (by decide +kernel)
@[simp] theorem c_Empty : Str.empty = S [] := S_of (by decide +kernel)
@[simp] theorem c_minus : ("-" : Str) = S [45] := S_of (by decide +kernel)
@[simp] theorem c_plus : ("+" : Str) = S [43] := S_of (by decide +kernel)
@[simp] theorem c_slash : ("/" : Str) = S [47] := S_of (by decide +kernel)
@[simp] theorem c_blank : (" " : Str) = S [32] := S_of (by decide +kernel)
@[simp] theorem c_x : ("x" : Str) = S [120] := S_of (by decide +kernel)
@[simp] theorem c_xh : ("x^" : Str) = S [120, 94] := S_of (by decide +kernel)
@[simp] theorem c_0 : ("0" : Str) = S [48] := S_of (by decide +kernel)
@[simp] theorem c_1 : ("1" : Str) = S [49] := S_of (by decide +kernel)
@[simp] theorem c_9 : ("9" : Str) = S [57] := S_of (by decide +kernel)
@[simp] theorem c_bp : (" + " : Str) = S [32, 43, 32] := S_of (by decide +kernel)
@[simp] theorem c_bm : (" - " : Str) = S [32, 45, 32] := S_of (by decide +kernel)
@[simp] theorem c_figs : ("0123456789" : Str) = S [48, 49, 50, 51, 52, 53, 54, 55, 56, 57] := S_of (by decide +kernel)
@[simp] theorem c_of : (" of " : Str) = S [32, 111, 102, 32] := S_of (by decide +kernel)
def Asc (l : List Nat) : Prop := ∀ c, c ∈ l → c < 128
theorem Asc.ok {l : List Nat} (h : Asc l) : PyData.strOk (S l) = true := by
  rw [strOk_iff, tl_S]
  intro c hc
  have := h c hc
  omega
theorem Asc.sh {l : List Nat} (h : Asc l) : SeqAt.shaped (.str (S l)) = true := str_sh h.ok
theorem Asc.append {a b : List Nat} (h : Asc a) (h' : Asc b) : Asc (a ++ b) := fun c hc => (List.mem_append.mp hc).elim (h c) (h' c)
theorem eqv_S {a b : List Nat} : PyData.eqv (.str (S a)) (.str (S b)) = decide (a = b) := by
  have e : decide (S a = S b) = decide (a = b) := by rw [Bool.eq_iff_iff, decide_eq_true_iff, decide_eq_true_iff]; exact S_inj
  rw [← e]
  by_cases h : S a = S b
  · rw [h]; simp [PyData.eqv]
  · simp [PyData.eqv, h]
section
variable {st : Sto} {Q : U → Sto → Prop}
theorem to_eqS {neg : Bool} {a b : List Nat} (ha : Asc a) (hb : Asc b) : (opEq neg (.d (.str (S a))) (.d (.str (S b))) st).To Q ↔ Q (.d (.bool (if neg then !decide (a = b) else decide (a = b)))) st := by
  have h : (SeqAt.shaped (.str (S a)) && SeqAt.shaped (.str (S b))) = true := by rw [ha.sh, hb.sh]; rfl
  show (if (SeqAt.shaped (.str (S a)) && SeqAt.shaped (.str (S b))) = true then Res.ok (U.d (.bool (if neg then !PyData.eqv (.str (S a)) (.str (S b)) else PyData.eqv (.str (S a)) (.str (S b))))) st else .no).To Q ↔ _
  rw [if_pos h, eqv_S]
  exact Iff.rfl
theorem to_addS {a b : List Nat} (h : a.length + b.length ≤ 16777216) : (fAddA (.d (.str (S a))) (.d (.str (S b))) st).To Q ↔ Q (.d (.str (S (a ++ b)))) st := by
  have : lenOk ((S a).length + (S b).length) = true := decide_eq_true (by rw [sizeLine_eq, S_len, S_len]; exact h)
  show (if lenOk ((S a).length + (S b).length) = true then Res.ok (U.d (.str (S a ++ S b))) st else .no).To Q ↔ _
  rw [if_pos this, S_add]
  exact Iff.rfl
end
def intL (i : Int) : List Nat := if i < 0 then 45 :: TL.numL i.natAbs else TL.numL i.natAbs
theorem numT_eq (i : Int) : numT i = S (intL i) := by
  unfold numT intL
  cases i with
  | ofNat n =>
    have hn : ¬ (Int.ofNat n < 0) := Int.not_lt.mpr (Int.natCast_nonneg n)
    rw [if_neg hn]
    exact S_of (TL.tl_num n)
  | negSucc n =>
    rw [if_pos (by omega)]
    refine S_of ?_
    have e : (toString (Int.negSucc n) : String) = "-" ++ toString (((n + 1 : Nat)) : Int) := rfl
    show TL.tl (Str.ofString (toString (Int.negSucc n))) = _
    rw [e, TL.tl_ofString, String.toList_append, List.map_append]
    have e2 := TL.tl_num (n + 1)
    rw [TL.tl_ofString] at e2
    rw [e2]
    rfl
theorem numL_asc (n : Nat) : Asc (TL.numL n) := fun c hc => by
  have := TL.numL_digits n c hc
  omega
theorem intL_asc (i : Int) : Asc (intL i) := by
  unfold intL
  split
  · intro c hc
    rcases List.mem_cons.mp hc with rfl | hc
    · omega
    · exact numL_asc _ c hc
  · exact numL_asc _
theorem numL_len600 {n : Nat} (h : n < 2 ^ 1900) : (TL.numL n).length ≤ 600 := TL.numL_len (by omega) (Nat.lt_of_lt_of_le h (by decide +kernel))
theorem intL_len {i : Int} (h : i.natAbs < 2 ^ 1900) : (intL i).length ≤ 601 := by
  have := numL_len600 h
  unfold intL
  split
  · simp; omega
  · omega
theorem numOk_of {i : Int} (h : i.natAbs < 2 ^ 1900) : numOk i = true := by
  refine decide_eq_true ?_
  by_cases h0 : i.natAbs = 0
  · rw [h0]; decide
  · have := (Nat.log2_lt h0).mpr h
    omega
def frL (q : Rat) : List Nat := if q.den = 1 then intL q.num else intL q.num ++ 47 :: TL.numL q.den
theorem frL_asc (q : Rat) : Asc (frL q) := by
  unfold frL
  split
  · exact intL_asc _
  · refine (intL_asc _).append fun c hc => ?_
    rcases List.mem_cons.mp hc with rfl | hc
    · omega
    · exact numL_asc _ c hc
theorem frL_len {q : Rat} (h : FB 1900 q) : (frL q).length ≤ 1300 := by
  have h1 := intL_len h.1
  have h2 := numL_len600 h.2
  unfold frL
  split
  · omega
  · simp; omega
theorem fraction_text_to {q : Rat} (h : FB 1900 q) {P : PyData → Prop} (hP : P (.str (S (frL q)))) : (m_fraction_text [fracD q]).To P := by
  unfold m_fraction_text
  rw [pure_to]
  unfold b_fraction_text
  have h1 := intL_len h.1
  have h2 := numL_len600 h.2
  have n1 := numOk_of h.1
  have n2 : numOk (q.den : Int) = true := numOk_of (by simpa using h.2)
  have e2 : intL (q.den : Int) = TL.numL q.den := by unfold intL; rw [if_neg (by omega)]; rfl
  unfold frL at hP
  by_cases hd : q.den = 1
  · rw [if_pos hd] at hP
    simp [startL, fracD, hd, n1, numT_eq]
    exact hP
  · rw [if_neg hd] at hP
    have hd' : ¬ ((q.den : Int) = 1) := by omega
    simp [startL, fracD, hd, hd', n1, n2, numT_eq, e2]
    exact ⟨by omega, by omega, by omega, hP⟩
def leL (k : Nat) : List Nat := if k = 1 then [120] else 120 :: 94 :: TL.numL k
theorem leL_asc (k : Nat) : Asc (leL k) := by
  unfold leL
  split
  · intro c hc; have : c = 120 := by simpa using hc
    omega
  · intro c hc
    rcases List.mem_cons.mp hc with rfl | hc
    · omega
    rcases List.mem_cons.mp hc with rfl | hc
    · omega
    · exact numL_asc _ c hc
theorem numL_len4 {k : Nat} (h : k ≤ 1000) : (TL.numL k).length ≤ 4 := TL.numL_len (by omega) (by omega)
theorem leL_len {k : Nat} (h : k ≤ 1000) : (leL k).length ≤ 6 := by
  have := numL_len4 h
  unfold leL
  split
  · simp
  · simp; omega
theorem letter_text_to {k : Nat} (h : k ≤ 1000) {P : PyData → Prop} (hP : P (.str (S (leL k)))) : (m_letter_text [.int k]).To P := by
  unfold m_letter_text
  rw [pure_to]
  unfold b_letter_text
  have n1 : numOk (k : Int) = true := numOk_of (by show k < 2 ^ 1900; exact Nat.lt_of_le_of_lt h (by decide +kernel))
  have l4 := numL_len4 h
  have e2 : intL (k : Int) = TL.numL k := by unfold intL; rw [if_neg (by omega)]; rfl
  unfold leL at hP
  by_cases hk : k = 1
  · rw [if_pos hk] at hP
    simp [startL, hk]
    exact hP
  · rw [if_neg hk] at hP
    have hk' : ¬ ((k : Int) = 1) := by omega
    simp [startL, hk, hk', n1, numT_eq, e2]
    exact ⟨by omega, hP⟩
def woL (r : Rat) (k : Nat) : List Nat := if k = 0 then frL r else if r = 1 then leL k else frL r ++ 32 :: leL k
theorem woL_asc (r : Rat) (k : Nat) : Asc (woL r k) := by
  unfold woL
  split
  · exact frL_asc r
  · split
    · exact leL_asc k
    · refine (frL_asc r).append fun c hc => ?_
      rcases List.mem_cons.mp hc with rfl | hc
      · omega
      · exact leL_asc k c hc
theorem woL_len {r : Rat} {k : Nat} (h : FB 1900 r) (hk : k ≤ 1000) : (woL r k).length ≤ 1310 := by
  have h1 := frL_len h
  have h2 := leL_len hk
  unfold woL
  split
  · omega
  · split
    · omega
    · simp; omega
theorem frac_one {r : Rat} : PyData.eqv (fracD r) (.tuple [.int 1, .int 1]) = decide (r = 1) := by
  unfold fracD
  simp only [PyData.eqv, PyData.eqvAll, Bool.and_true]
  rw [Bool.eq_iff_iff, decide_eq_true_iff, Bool.and_eq_true]
  constructor
  · rintro ⟨h1, h2⟩
    have h1' : r.num = 1 := by simpa using h1
    have h2' : (r.den : Int) = 1 := by simpa using h2
    exact Rat.ext (by rw [h1']; rfl) (by rw [show r.den = 1 by omega]; rfl)
  · rintro rfl
    exact ⟨by decide, by decide⟩
theorem word_text_to {r : Rat} {k : Nat} (h : FB 1900 r) (hk : k ≤ 1000) {P : PyData → Prop} (hP : P (.str (S (woL r k)))) : (m_word_text [fracD r, .int k]).To P := by
  unfold m_word_text
  rw [pure_to]
  unfold b_word_text
  have h1 := frL_len h
  have h2 := leL_len hk
  unfold woL at hP
  by_cases h0 : k = 0
  · rw [if_pos h0] at hP
    simp [startL, h0]
    exact fraction_text_to h hP
  · rw [if_neg h0] at hP
    simp [startL, h0, frac_one]
    refine ⟨by decide +kernel, ?_⟩
    by_cases hr : r = 1
    · rw [if_pos hr] at hP
      exact .inr ⟨hr, letter_text_to hk hP⟩
    · rw [if_neg hr] at hP
      refine .inl ⟨hr, fraction_text_to h ?_⟩
      rw [to_addS (by simp; omega)]
      refine letter_text_to hk ?_
      rw [to_addS (by simp; omega)]
      simpa using hP
def teL (p : Pol) (n : Nat) : List (Nat × Rat) := ((List.range n).reverse.filter fun k => !decide (p.co k = 0)).map fun k => (k, p.co k)
def moreL (k : Nat) (r : Rat) : List Nat := (if r < 0 then [32, 45, 32] else [32, 43, 32]) ++ woL (if r < 0 then -r else r) k
def firstL (k : Nat) (r : Rat) : List Nat := (if r < 0 then [45] else []) ++ woL (if r < 0 then -r else r) k
def accL : List (Nat × Rat) → List Nat
  | [] => []
  | (k, r) :: ts => firstL k r ++ ts.flatMap fun t => moreL t.1 t.2
def poL (p : Pol) : List Nat := match teL p p.ts.length with
  | [] => [48]
  | ts => accL ts
theorem accL_snoc {ts : List (Nat × Rat)} {k : Nat} {r : Rat} : accL (ts ++ [(k, r)]) = accL ts ++ (if ts = [] then firstL k r else moreL k r) := by
  cases ts with
  | nil => simp [accL]
  | cons t ts =>
    obtain ⟨k', r'⟩ := t
    rw [if_neg (by simp)]
    simp [accL]
theorem frL_ne (q : Rat) : frL q ≠ [] := by
  have h : intL q.num ≠ [] := by
    unfold intL
    split
    · simp
    · exact TL.numL_ne _
  unfold frL
  split
  · exact h
  · simp
theorem leL_ne (k : Nat) : leL k ≠ [] := by unfold leL; split <;> simp
theorem woL_ne (r : Rat) (k : Nat) : woL r k ≠ [] := by
  unfold woL
  split
  · exact frL_ne r
  · split
    · exact leL_ne k
    · simp
theorem accL_ne {ts : List (Nat × Rat)} : accL ts = [] ↔ ts = [] := by
  cases ts with
  | nil => simp [accL]
  | cons t ts =>
    obtain ⟨k, r⟩ := t
    simp [accL, firstL, woL_ne]
theorem abs_frac {r : Rat} : PyData.tuple [.int (if r.num < 0 then -r.num else r.num), .int r.den] = fracD (if r < 0 then -r else r) := by
  have h : r.num < 0 ↔ r < 0 := by rw [← Int.not_le, ← Rat.not_le, Rat.num_nonneg]
  by_cases hr : r < 0
  · rw [if_pos hr, if_pos (h.mpr hr)]; rfl
  · rw [if_neg hr, if_neg (fun z => hr (h.mp z))]; rfl
theorem FB.abs {n : Nat} {r : Rat} (h : FB n r) : FB n (if r < 0 then -r else r) := by
  split
  · exact ⟨by simpa using h.1, by simpa using h.2⟩
  · exact h
theorem moreL_asc (k : Nat) (r : Rat) : Asc (moreL k r) := by
  unfold moreL
  refine Asc.append (fun c hc => ?_) (woL_asc _ _)
  split at hc <;> (simp at hc; omega)
theorem firstL_asc (k : Nat) (r : Rat) : Asc (firstL k r) := by
  unfold firstL
  refine Asc.append (fun c hc => ?_) (woL_asc _ _)
  split at hc <;> (simp at hc; try omega)
theorem accL_asc (ts : List (Nat × Rat)) : Asc (accL ts) := by
  cases ts with
  | nil => intro c hc; simp [accL] at hc
  | cons t ts =>
    obtain ⟨k, r⟩ := t
    refine (firstL_asc k r).append fun c hc => ?_
    obtain ⟨t, ht, hc⟩ := List.mem_flatMap.mp hc
    exact moreL_asc _ _ c hc
theorem poL_asc (p : Pol) : Asc (poL p) := by
  unfold poL
  split
  · intro c hc; simp at hc; omega
  · exact accL_asc _
theorem accL_len {ts : List (Nat × Rat)} (h : ∀ t, t ∈ ts → FB 1900 t.2 ∧ t.1 ≤ 1000) : (accL ts).length ≤ ts.length * 1313 := by
  cases ts with
  | nil => simp [accL]
  | cons t ts =>
    obtain ⟨k, r⟩ := t
    have h0 := h (k, r) (by simp)
    have l0 : (firstL k r).length ≤ 1313 := by
      have := woL_len h0.1.abs h0.2
      dsimp only at this
      have h1 : (if r < 0 then [45] else [] : List Nat).length ≤ 1 := by split <;> simp
      simp only [firstL, List.length_append]
      omega
    have l1 : ∀ us : List (Nat × Rat), (∀ t, t ∈ us → FB 1900 t.2 ∧ t.1 ≤ 1000) → (us.flatMap fun t => moreL t.1 t.2).length ≤ us.length * 1313 := by
      intro us
      induction us with
      | nil => intro _; simp
      | cons u us ih =>
        intro hu
        have h1 := hu u (by simp)
        have := woL_len h1.1.abs h1.2
        have h2 : (moreL u.1 u.2).length ≤ 1313 := by
          have h3 : (if u.2 < 0 then [32, 45, 32] else [32, 43, 32] : List Nat).length ≤ 3 := by split <;> simp
          simp only [moreL, List.length_append]
          omega
        have h3 := ih fun t ht => hu t (by simp [ht])
        rw [List.flatMap_cons, List.length_append, List.length_cons, Nat.add_mul]
        omega
    have h4 := l1 ts fun t ht => h t (by simp [ht])
    rw [accL, List.length_append, List.length_cons, Nat.add_mul]
    omega
end NW
namespace NW
open PySem PySem.Spec PyProof.Rows L2
def hiL (p : Pol) (n i : Nat) : List (Nat × Rat) := (((List.range n).reverse.take i).filter fun k => !decide (p.co k = 0)).map fun k => (k, p.co k)
theorem rev_at {n i : Nat} (h : i < n) : (List.range n).reverse[i]? = some (n - 1 - i) := by
  rw [List.getElem?_reverse (by simpa using h), List.length_range, List.getElem?_range (by omega)]
theorem hiL_succ {p : Pol} {n i : Nat} (h : i < n) : hiL p n (i + 1) = if p.co (n - 1 - i) = 0 then hiL p n i else hiL p n i ++ [(n - 1 - i, p.co (n - 1 - i))] := by
  unfold hiL
  rw [List.take_add_one, rev_at h, List.filter_append, List.map_append]
  by_cases hc : p.co (n - 1 - i) = 0
  · rw [if_pos hc]; simp [hc]
  · rw [if_neg hc]; simp [hc]
theorem hiL_all {p : Pol} {n : Nat} : hiL p n n = teL p n := by
  unfold hiL teL
  rw [List.take_of_length_le (by simp)]
theorem hiL_mem {p : Pol} {n i : Nat} {t : Nat × Rat} (h : t ∈ hiL p n i) : t.1 < n ∧ t.2 = p.co t.1 ∧ t.2 ≠ 0 := by
  obtain ⟨k, hk, rfl⟩ := List.mem_map.mp h
  rw [List.mem_filter] at hk
  have h1 := List.mem_range.mp (List.mem_reverse.mp (List.mem_of_mem_take hk.1))
  exact ⟨h1, rfl, by simpa using hk.2⟩
theorem hiL_len {p : Pol} {n i : Nat} : (hiL p n i).length ≤ i := by
  unfold hiL
  rw [List.length_map]
  exact Nat.le_trans (List.length_filter_le _ _) (by rw [List.length_take]; omega)
theorem PBt.co_FB {n m : Nat} {p : Pol} (h : PBt n m p) (k : Nat) : FB n (p.co k) := by
  have hb := p.hb
  exact FB.of_divInt (by omega) (h.get k) (by simpa using h.2.1)
theorem poly_text_toG {p : Pol} (hl : p.ts.length ≤ 1000) (h : ∀ k, FB 1900 (p.co k)) {P : PyData → Prop} (hP : P (.str (S (poL p)))) : (m_poly_text [polyD p]).To P := by
  unfold m_poly_text
  rw [pure_to]
  unfold b_poly_text
  simp [startL, polyD]
  refine ⟨decide_eq_true (by omega), ?_⟩
  obtain ⟨I, hI⟩ : ∃ I : Nat → NW.Loc → Sto → Prop, ∀ j l s, I j l s ↔ ∃ (v w x y : Option U), l = [some (.d (polyD p)), some (.d (.str (S (accL (hiL p p.ts.length j))))), v, w, x, y] ∧ s = ⟨none, []⟩ := ⟨_, fun _ _ _ => Iff.rfl⟩
  refine for_ix I (fun _ _ _ _ => chk_nil) ((hI _ _ _).mpr ⟨none, none, none, none, by simp [hiL, accL, polyD], rfl⟩) ?_ ?_
  · rintro j x l s hx h'
    obtain ⟨v, w, z, y, rfl, rfl⟩ := (hI _ _ _).mp h'
    have hj := (List.getElem?_eq_some_iff.mp hx).1
    simp [rangeD] at hj
    have ex : x = .int ((p.ts.length - 1 - j : Nat) : Int) := by
      simp only [rangeD, Int.toNat_natCast] at hx
      rw [List.getElem?_map, List.getElem?_range hj] at hx
      have e : PyData.int (((p.ts.length : Nat) : Int) - 1 + ((j : Nat) : Int) * (-1)) = x := Option.some.inj hx
      rw [← e]
      exact congrArg PyData.int (by omega)
    subst ex
    generalize hk : p.ts.length - 1 - j = k
    have hs := hiL_succ (p := p) hj
    rw [hk] at hs
    simp only [to_gName]
    refine cut (fun l s => l = [some (.d (polyD p)), some (.d (.str (S (accL (hiL p p.ts.length j))))), some (.d (.int k)), some (.d (.int (p.co k).num)), some (.d (.int (p.co k).den)), y] ∧ s = ⟨none, []⟩) ?_ ?_
    · simp
      refine fraction_at_to trivial ?_
      simp [fracD]
    rintro l s ⟨rfl, rfl⟩
    have la := accL_len (ts := hiL p p.ts.length j) fun t ht => by
      obtain ⟨h1, h2, _⟩ := hiL_mem ht
      rw [h2]
      exact ⟨h _, by omega⟩
    have ln := hiL_len (p := p) (n := p.ts.length) (i := j)
    have asc := accL_asc (hiL p p.ts.length j)
    have fb := (h k).abs
    have lw := woL_len fb (show k ≤ 1000 by omega)
    have sq : (p.co k).num < 0 ↔ p.co k < 0 := by rw [← Int.not_le, ← Rat.not_le, Rat.num_nonneg]
    have step : ∀ (v w x y : Option U) (L : List Nat), accL (hiL p p.ts.length (j + 1)) = L → I (j + 1) [some (.d (polyD p)), some (.d (.str (S L))), v, w, x, y] ⟨none, []⟩ := fun v w x y L e => (hI _ _ _).mpr ⟨v, w, x, y, by rw [e], rfl⟩
    simp
    by_cases h0 : p.co k = 0
    · exact .inl ⟨h0, step _ _ _ _ _ (by rw [hs, if_pos h0])⟩
    · refine .inr ⟨h0, ?_⟩
      have sgn : ∀ a b : PyData, ((idxN 2 (if (p.co k).num < 0 then 1 else 0)).bind fun j => [a, b][j]?) = some (if p.co k < 0 then b else a) := fun a b => by
        by_cases hn : p.co k < 0
        · rw [if_pos (sq.mpr hn), if_pos hn]; rfl
        · rw [if_neg (fun z => hn (sq.mp z)), if_neg hn]; rfl
      refine ⟨_, sgn _ _, ⟨asc.sh, by decide +kernel⟩, ?_⟩
      rw [eqv_S, abs_frac]
      by_cases he : accL (hiL p p.ts.length j) = []
      · refine .inr ⟨by rw [he]; rfl, _, sgn _ _, ?_⟩
        have e1 : (if p.co k < 0 then PyData.str (S [45]) else PyData.str (S [])) = .str (S (if p.co k < 0 then [45] else [])) := by split <;> rfl
        rw [e1, he, to_addS (by split <;> simp)]
        refine word_text_to fb (by omega) ?_
        have l1 : (if p.co k < 0 then [45] else [] : List Nat).length ≤ 1 := by split <;> simp
        rw [to_addS (by rw [List.length_append]; simp only [List.length_nil]; omega)]
        refine step _ _ _ _ _ ?_
        rw [hs, if_neg h0, accL_snoc, if_pos (accL_ne.mp he), accL_ne.mp he]
        rfl
      · refine .inl ⟨by rw [decide_eq_false he], ?_⟩
        have e1 : (if p.co k < 0 then PyData.str (S [32, 45, 32]) else PyData.str (S [32, 43, 32])) = .str (S (if p.co k < 0 then [32, 45, 32] else [32, 43, 32])) := by split <;> rfl
        have l3 : (if p.co k < 0 then [32, 45, 32] else [32, 43, 32] : List Nat).length = 3 := by split <;> rfl
        rw [e1, to_addS (by omega)]
        refine word_text_to fb (by omega) ?_
        rw [to_addS (by rw [List.length_append]; omega)]
        refine step _ _ _ _ _ ?_
        rw [hs, if_neg h0, accL_snoc, if_neg (fun z => he (accL_ne.mpr z)), List.append_assoc]
        rfl
  · rintro l s h'
    obtain ⟨v, w, z, y, rfl, rfl⟩ := (hI _ _ _).mp h'
    have e0 : (rangeD ((p.ts.length : Int) - 1) (-1) p.ts.length).length = p.ts.length := by simp [rangeD]
    rw [e0, hiL_all]
    refine ⟨_, rfl, ?_⟩
    rw [to_eqS (accL_asc _) (fun c hc => by simp at hc)]
    unfold poL at hP
    cases e : teL p p.ts.length with
    | nil =>
      rw [e] at hP
      exact .inr ⟨by simp [accL], hP⟩
    | cons t ts =>
      rw [e] at hP
      refine .inl ⟨?_, _, rfl, hP⟩
      have : accL (t :: ts) ≠ [] := fun z => by have := accL_ne.mp z; cases this
      simp [this]
end NW
namespace NW
open PySem PySem.Spec PyProof.Rows L2
theorem starts_S {a b : List Nat} (hb : b ≠ []) : Txt.startswith (S a) (S b) = TL.pre b a := by
  have h := TL.at_iff (x := S a) (y := S b) (by simpa using hb) 0
  simp only [tl_S, List.drop_zero] at h
  rw [Bool.eq_iff_iff, ← h]
  unfold Txt.startswith
  rw [Bool.and_eq_true, decide_eq_true_iff]
  exact Iff.rfl
theorem cut_from {a : List Nat} {i : Int} (h : 0 ≤ i) : cutS (S a) (some i) none = S (a.drop i.toNat) := by
  rw [C8.cutS_slice]
  exact SX.slice_from h
def isNum (l : List Nat) : Prop := l ≠ [] ∧ l.length ≤ 40 ∧ (∀ c, c ∈ l → 48 ≤ c ∧ c ≤ 57) ∧ (l = [48] ∨ l.head? ≠ some 48)
theorem numL_head {n : Nat} (h : n ≠ 0) : (TL.numL n).head? ≠ some 48 := by
  induction n using Nat.strongRecOn with
  | _ n ih =>
    by_cases hn : n < 10
    · rw [TL.numL_lt hn]; simp; omega
    · rw [TL.numL_step (by omega)]
      have := ih (n / 10) (by omega) (by omega)
      cases e : TL.numL (n / 10) with
      | nil => exact absurd e (TL.numL_ne _)
      | cons c r => rw [e] at this; simpa using this
theorem numL_isNum {n : Nat} (h : n < 10 ^ 40) : isNum (TL.numL n) := by
  refine ⟨TL.numL_ne n, TL.numL_len (by omega) h, fun c hc => ?_, ?_⟩
  · have := TL.numL_digits n c hc
    omega
  · by_cases h0 : n = 0
    · left; rw [h0]; decide +kernel
    · exact .inr (numL_head h0)
theorem isNum.asc {l : List Nat} (h : isNum l) : Asc l := fun c hc => by have := h.2.2.1 c hc; omega
theorem signsS {l : List Nat} : signsD (S l) = l.map fun c => .str (S [c]) := by
  unfold signsD
  rw [S_cps]
  rfl
section
variable {st : Sto} {Q : U → Sto → Prop}
@[simp] theorem to_lenStr {z : Str} : (cLen [.d (.str z)] st).To Q ↔ z.length ≤ 16777216 ∧ Q (.d (.int (z.length : Nat))) st := by
  show (if lenOk z.length = true then Res.ok (U.d (.int (z.length : Nat))) st else .no).To Q ↔ _
  by_cases h : lenOk z.length = true
  · rw [if_pos h]
    have := of_decide_eq_true h
    rw [sizeLine_eq] at this
    simp [this]
  · rw [if_neg h]
    have : ¬ z.length ≤ 16777216 := fun z => h (decide_eq_true (by rw [sizeLine_eq]; exact z))
    simp [this]
theorem to_ixStr {c : Nat} {r : List Nat} (h : r.length < 16777216) : (fIx (.d (.str (S (c :: r)))) (.d (.int 0)) st).To Q ↔ Q (.d (.str (S [c]))) st := by
  have e : strAt (S (c :: r)) 0 = some (S [c]) := by
    unfold strAt
    rw [if_pos (decide_eq_true (by rw [S_len, sizeLine_eq, List.length_cons]; omega)), S_cps]
    have : atI (c :: r) 0 = some c := by simp [atI, ixN]
    rw [this]
    rfl
  show (match strAt (S (c :: r)) 0 with | some y => Res.ok (U.d (.str y)) st | none => .no).To Q ↔ _
  rw [e]
  exact Iff.rfl
end
theorem all_true {α : Type} {xs : List α} {st : Sto} {Q : U → Sto → Prop} (h : Q (.d (.bool true)) st) : (cAll [.d (.list (xs.map fun _ => .bool true))] st).To Q := by
  have e : (xs.map fun _ => PyData.bool true) = (xs.map fun _ => true).map .bool := by rw [List.map_map]; rfl
  rw [e, to_cAll]
  have : (xs.map fun _ => true).all id = true := by simp
  rw [this]; exact h
theorem is_number_to {l : List Nat} (h : isNum l) {P : PyData → Prop} (hP : P (.bool true)) : (m_is_number [.str (S l)]).To P := by
  unfold m_is_number
  rw [pure_to]
  unfold b_is_number
  have h0 : ¬ (l.length = 0) := fun z => h.1 (List.length_eq_zero_iff.mp z)
  have h0' : ¬ (l = []) := h.1
  have hl := h.2.1
  have hl2 : l.length ≤ 16777216 := by omega
  simp [startL, c_MOST_FIGURES, h0, h0', hl2]
  refine .inl ⟨by omega, ?_⟩
  rw [signsS]
  refine ⟨by rw [List.length_map]; omega, ?_⟩
  refine lc_mapA (f := fun c => PyData.str (S [c])) (g := fun _ => PyData.bool true) chk_nil (fun c hc => ?_) ?_
  · have hc' := h.2.2.1 c hc
    simp [c_FIGURES, oneS, S_cps, wipeL]
    try trace_state
    omega
  · refine all_true ?_
    refine .inr ⟨rfl, ⟨h.asc.sh, str_sh (by decide +kernel)⟩, ?_⟩
    rw [eqv_S]
    by_cases hz : l = [48]
    · exact .inr ⟨decide_eq_true hz, hP⟩
    · refine .inl ⟨decide_eq_false hz, ?_⟩
      cases l with
      | nil => exact absurd rfl h0'
      | cons c r =>
        have hc : c ≠ 48 := by
          rcases h.2.2.2 with z | z
          · exact absurd z hz
          · intro z2; exact z (by rw [z2]; rfl)
        rw [to_ixStr (by simp at hl; omega), to_eqS (fun d hd => by have := h.2.2.1 d (by simp at hd; simp [hd]); omega) (fun d hd => by simp at hd; omega)]
        simp [hc]
        exact hP
def absL (q : Rat) : List Nat := if q.den = 1 then TL.numL q.num.natAbs else TL.numL q.num.natAbs ++ 47 :: TL.numL q.den
theorem frL_abs (q : Rat) : frL q = (if q.num < 0 then [45] else []) ++ absL q := by
  unfold frL absL intL
  by_cases h : q.num < 0 <;> by_cases h2 : q.den = 1 <;> simp [h, h2]
theorem absL_asc (q : Rat) : Asc (absL q) := by
  unfold absL
  split
  · exact numL_asc _
  · refine (numL_asc _).append fun c hc => ?_
    rcases List.mem_cons.mp hc with rfl | hc
    · omega
    · exact numL_asc _ c hc
theorem absL_head (q : Rat) : ∃ c r, absL q = c :: r ∧ 48 ≤ c := by
  have : ∃ c r, TL.numL q.num.natAbs = c :: r ∧ 48 ≤ c := by
    cases e : TL.numL q.num.natAbs with
    | nil => exact absurd e (TL.numL_ne _)
    | cons c r => exact ⟨c, r, rfl, (TL.numL_digits q.num.natAbs c (by rw [e]; simp)).1⟩
  obtain ⟨c, r, e, h⟩ := this
  unfold absL
  rw [e]
  split
  · exact ⟨c, r, rfl, h⟩
  · exact ⟨c, _, rfl, h⟩
def F40 (q : Rat) : Prop := q.num.natAbs < 10 ^ 40 ∧ q.den < 10 ^ 40
theorem F40.fb {q : Rat} (h : F40 q) : FB 1900 q := ⟨Nat.lt_of_lt_of_le h.1 (by decide +kernel), Nat.lt_of_lt_of_le h.2 (by decide +kernel)⟩
theorem F40.absL_len {q : Rat} (h : F40 q) : (absL q).length ≤ 81 := by
  have h1 := TL.numL_len (k := 40) (by omega) h.1
  have h2 := TL.numL_len (k := 40) (by omega) h.2
  unfold absL
  split
  · omega
  · simp; omega
theorem int_of {n : Nat} (h : n < 10 ^ 40) : PySem.intText? (S (TL.numL n)) = some (n : Int) := by
  have := TL.numL_len (k := 40) (by omega) h
  rw [← S_of (TL.tl_num n)]
  exact TL.int_num (by omega)
theorem part_abs (q : Rat) : partD (S (absL q)) (S [47]) = .tuple [.str (S (TL.numL q.num.natAbs)), .str (S (if q.den = 1 then [] else [47])), .str (S (if q.den = 1 then [] else TL.numL q.den))] := by
  have hf : (47 : Nat) ∉ TL.numL q.num.natAbs := TL.numL_free (by omega)
  unfold partD absL
  by_cases h : q.den = 1
  · rw [if_pos h, if_pos h, if_pos h]
    have := SX.partition_none (a := TL.numL q.num.natAbs) (b := [47]) (by simp) (SX.par_head_none hf)
    rw [show S (TL.numL q.num.natAbs) = SX.S (TL.numL q.num.natAbs) from rfl, show S [47] = SX.S [47] from rfl, this]
    rfl
  · rw [if_neg h, if_neg h, if_neg h]
    have := SX.partition_some (a := TL.numL q.num.natAbs ++ 47 :: TL.numL q.den) (b := [47]) (by simp) (SX.par_head (TL.numL q.den) hf)
    rw [show S (TL.numL q.num.natAbs ++ 47 :: TL.numL q.den) = SX.S (TL.numL q.num.natAbs ++ 47 :: TL.numL q.den) from rfl, show S [47] = SX.S [47] from rfl, this]
    rfl
@[simp] theorem callX_1 {m : List PyData → Rp} {x : PyData} {st : Sto} {Q : U → Sto → Prop} : (fCallX 1 m [.d x] st).To Q ↔ (m [x]).To fun d => Q (.d d) st := by
  show (if [x].length = 1 ∧ [U.d x].any isRef = false then (match m [x] with | .ok d _ => Res.ok (U.d d) st | .ex e => .ex e st | .no => .no) else .no).To Q ↔ _
  rw [if_pos ⟨rfl, rfl⟩]
  cases m [x] <;> exact Iff.rfl
@[simp] theorem callX0_1 {m : List PyData → Rp} {x : PyData} {st : Sto} {Q : U → Sto → Prop} : (fCallX0 1 m [.d x] st).To Q ↔ (m [x]).To fun d => Q (.d d) st := by
  show (if [x].length = 1 ∧ [U.d x].any isRef = false then (match m [x] with | .ok d _ => Res.ok (U.d d) st | _ => .no) else .no).To Q ↔ _
  rw [if_pos ⟨rfl, rfl⟩]
  cases m [x] <;> exact Iff.rfl
@[simp] theorem to_eCallX {k : Nat} {m : List PyData → Rp} {a : MA} {l : Loc} {st : Sto} {Q : U → Sto → Prop} : (eCallX k m a l st).To Q ↔ (a l st).To fun us s => (fCallX k m us s).To Q := by unfold eCallX; simp
@[simp] theorem to_eCallX0 {k : Nat} {m : List PyData → Rp} {a : MA} {l : Loc} {st : Sto} {Q : U → Sto → Prop} : (eCallX0 k m a l st).To Q ↔ (a l st).To fun us s => (fCallX0 k m us s).To Q := by unfold eCallX0; simp
theorem to_slS {z : Str} {a b : Option Int} {st : Sto} {Q : U → Sto → Prop} (h : z.length ≤ 16777216) : (fSl (.d (.str z)) a b st).To Q ↔ Q (.d (.str (cutS z a b))) st := by
  show (if lenOk z.length = true then Res.ok (U.d (.str (cutS z a b))) st else .no).To Q ↔ _
  have hk : lenOk z.length = true := decide_eq_true (by rw [sizeLine_eq]; exact h)
  rw [if_pos hk]
  exact Iff.rfl
theorem den_zero (q : Rat) : TL.numL q.den ≠ [48] := fun z => by
  have h : TL.numL 0 = [48] := by decide +kernel
  have := TL.numL_inj (z.trans h.symm)
  exact q.den_nz this
theorem read_fraction_to {q : Rat} (h : F40 q) {P : PyData → Prop} (hP : P (fracD q)) : (m_read_fraction [.str (S (frL q))]).To P := by
  unfold m_read_fraction
  rw [pure_to]
  unfold b_read_fraction
  have hl := frL_len h.fb
  have ha := h.absL_len
  have hfa := frL_asc q
  obtain ⟨c, r, eh, hc⟩ := absL_head q
  have n1 := numL_isNum h.1
  have n2 := numL_isNum h.2
  have i1 := int_of h.1
  have i2 := int_of h.2
  have l1 := n1.2.1
  have l2 := n2.2.1
  have hst : Txt.startswith (S (frL q)) (S [45]) = decide (q.num < 0) := by
    rw [starts_S (by simp), frL_abs, eh]
    by_cases h : q.num < 0
    · simp [h, TL.pre]
    · simp [h, TL.pre]
      omega
  have hcut : q.num < 0 → cutS (S (frL q)) (some 1) none = S (absL q) := fun h => by
    rw [cut_from (by omega), frL_abs, if_pos h]; rfl
  have hnc : ¬ q.num < 0 → S (frL q) = S (absL q) := fun h => by rw [frL_abs, if_neg h]; rfl
  have hne : q.num < 0 → absL q ≠ frL q := fun h e => by
    have := congrArg List.length e
    rw [frL_abs q, if_pos h] at this
    simp at this
  refine cut (fun l s => l = [some (.d (.str (S (frL q)))), some (.d (.str (S (frL q)))), none, none, none, none] ∧ s = ⟨none, []⟩) ?_ fun l s hs => ?_
  · simp [startL]
  obtain ⟨rfl, rfl⟩ := hs
  refine cut (fun l s => l = [some (.d (.str (S (frL q)))), some (.d (.str (S (absL q)))), none, none, none, none] ∧ s = ⟨none, []⟩) ?_ fun l s hs => ?_
  · by_cases h0 : q.num < 0
    · simp [hst, h0]
      rw [to_slS (by rw [S_len]; omega), hcut h0]
      simp
    · have hst2 := hst
      rw [hnc h0] at hst2
      simp [hst2, h0, hnc h0]
  obtain ⟨rfl, rfl⟩ := hs
  refine cut (fun l s => l = [some (.d (.str (S (frL q)))), some (.d (.str (S (absL q)))), some (.d (.str (S (TL.numL q.num.natAbs)))), some (.d (.str (S (if q.den = 1 then [] else [47])))), some (.d (.str (S (if q.den = 1 then [] else TL.numL q.den)))), none] ∧ s = ⟨none, []⟩) ?_ fun l s hs => ?_
  · simp [part_abs]
    omega
  obtain ⟨rfl, rfl⟩ := hs
  refine cut (fun l s => l = [some (.d (.str (S (frL q)))), some (.d (.str (S (absL q)))), some (.d (.str (S (TL.numL q.num.natAbs)))), some (.d (.str (S (if q.den = 1 then [] else [47])))), some (.d (.str (S (TL.numL q.den)))), none] ∧ s = ⟨none, []⟩) ?_ fun l s hs => ?_
  · by_cases h0 : q.den = 1
    · simp [h0, eqv_S]
      exact ⟨str_sh (by decide +kernel), by decide +kernel⟩
    · simp [h0, eqv_S]
      exact ⟨str_sh (by decide +kernel), str_sh (by decide +kernel)⟩
  obtain ⟨rfl, rfl⟩ := hs
  refine cut (fun l s => l = [some (.d (.str (S (frL q)))), some (.d (.str (S (absL q)))), some (.d (.str (S (TL.numL q.num.natAbs)))), some (.d (.str (S (if q.den = 1 then [] else [47])))), some (.d (.str (S (TL.numL q.den)))), none] ∧ s = ⟨none, []⟩) ?_ fun l s hs => ?_
  · simp
    refine is_number_to n1 ?_
    simp
    refine is_number_to n2 ?_
    simp [eqv_S, den_zero]
    exact ⟨n2.asc.sh, str_sh (by decide +kernel)⟩
  obtain ⟨rfl, rfl⟩ := hs
  refine cut (fun l s => l = [some (.d (.str (S (frL q)))), some (.d (.str (S (absL q)))), some (.d (.str (S (TL.numL q.num.natAbs)))), some (.d (.str (S (if q.den = 1 then [] else [47])))), some (.d (.str (S (TL.numL q.den)))), some (.d (fracD q))] ∧ s = ⟨none, []⟩) ?_ fun l s hs => ?_
  · have hm : q.num < 0 → (q.num.natAbs : Int) * (-1) = q.num := by omega
    have hm2 : ¬ q.num < 0 → (q.num.natAbs : Int) = q.num := by omega
    by_cases h0 : q.num < 0
    · have he : PyData.eqv (.str (S (absL q))) (.str (S (frL q))) = false := by rw [eqv_S]; exact decide_eq_false (hne h0)
      simp [i1, i2, he]
      refine ⟨by omega, ⟨(absL_asc q).sh, hfa.sh⟩, mulC_of (a := 1900) (b := 2) (by simpa using h.fb.1) (by decide) (by omega) (by omega) (by omega), by omega, ?_⟩
      refine fraction_to (by have := q.den_nz; omega) trivial ?_
      rw [show -(((q.num.natAbs : Nat) : Int)) = q.num by omega, Rat.num_divInt_den]
    · have he : PyData.eqv (.str (S (absL q))) (.str (S (frL q))) = true := by rw [hnc h0, eqv_S]; simp
      simp [i1, i2, he]
      refine ⟨by omega, ⟨(absL_asc q).sh, hfa.sh⟩, mulC_of (a := 1900) (b := 2) (by simpa using h.fb.1) (by decide) (by omega) (by omega) (by omega), by omega, ?_⟩
      refine fraction_to (by have := q.den_nz; omega) trivial ?_
      rw [show (((q.num.natAbs : Nat) : Int)) = q.num by omega, Rat.num_divInt_den]
  obtain ⟨rfl, rfl⟩ := hs
  simp
  refine fraction_text_to h.fb ?_
  simp [eqv_S]
  exact ⟨hfa.sh, hP⟩
theorem frL_head (q : Rat) : ∃ c r, frL q = c :: r ∧ c ≤ 57 := by
  rw [frL_abs]
  by_cases h : q.num < 0
  · rw [if_pos h]; exact ⟨45, absL q, rfl, by omega⟩
  · rw [if_neg h]
    have : ∃ c r, TL.numL q.num.natAbs = c :: r ∧ c ≤ 57 := by
      cases e : TL.numL q.num.natAbs with
      | nil => exact absurd e (TL.numL_ne _)
      | cons c r => exact ⟨c, r, rfl, (TL.numL_digits q.num.natAbs c (by rw [e]; simp)).2⟩
    obtain ⟨c, r, e, h⟩ := this
    unfold absL
    rw [e]
    split
    · exact ⟨c, r, rfl, h⟩
    · exact ⟨c, _, rfl, h⟩
theorem read_power_no {q : Rat} {P : PyData → Prop} (hP : P .none) : (m_read_power [.str (S (frL q))]).To P := by
  unfold m_read_power
  rw [pure_to]
  unfold b_read_power
  obtain ⟨c, r, e, hc⟩ := frL_head q
  have h1 : frL q ≠ [120] := by rw [e]; intro z; injection z with z1 z2; omega
  have h2 : Txt.startswith (S (frL q)) (S [120, 94]) = false := by
    rw [starts_S (by simp), e]
    exact TL.pre_of_head _ _ (by omega)
  simp [startL, eqv_S, h1, h2]
  exact ⟨⟨(frL_asc q).sh, str_sh (by decide +kernel)⟩, hP⟩
theorem read_power_to {k : Nat} (h1 : 1 ≤ k) (h2 : k ≤ 24) {P : PyData → Prop} (hP : P (.int k)) : (m_read_power [.str (S (leL k))]).To P := by
  unfold m_read_power
  rw [pure_to]
  unfold b_read_power
  by_cases hk : k = 1
  · have e : leL k = [120] := by unfold leL; rw [if_pos hk]
    simp [startL, eqv_S, e]
    refine ⟨str_sh (by decide +kernel), ?_⟩
    rw [hk] at hP; exact hP
  · have e : leL k = 120 :: 94 :: TL.numL k := by unfold leL; rw [if_neg hk]
    have n1 : isNum (TL.numL k) := numL_isNum (by omega)
    have hst : Txt.startswith (S (leL k)) (S [120, 94]) = true := by
      rw [starts_S (by simp), e]; simp [TL.pre]
    have hl := leL_len (k := k) (by omega)
    have hc : cutS (S (leL k)) (some 2) none = S (TL.numL k) := by rw [cut_from (by omega), e]; rfl
    have hi := int_of (n := k) (by omega)
    have l1 := n1.2.1
    have sl : ∀ {st : Sto} {Q : U → Sto → Prop}, (fSl (.d (.str (S (leL k)))) (some 2) none st).To Q ↔ Q (.d (.str (S (TL.numL k)))) st := by
      intro st Q
      rw [to_slS (by rw [S_len]; omega), hc]
    simp [startL, eqv_S, hst, sl, hi, c_MOST, hk, eChain]
    refine ⟨⟨(leL_asc k).sh, str_sh (by decide +kernel)⟩, .inl ⟨by rw [e]; simp, ?_⟩⟩
    refine is_number_to n1 ?_
    simp
    refine ⟨by omega, ?_⟩
    rw [if_pos (by omega)]
    exact .inr ⟨by omega, hP⟩
def wordsL (r : Rat) (k : Nat) : List (List Nat) := if k = 0 then [frL r] else if r = 1 then [leL k] else [frL r, leL k]
theorem woL_join (r : Rat) (k : Nat) : woL r k = TL.joinL [32] (wordsL r k) := by
  unfold woL wordsL
  split
  · rfl
  · split <;> rfl
theorem read_words_to {r : Rat} {k : Nat} (h : F40 r) (hk : k ≤ 24) {P : PyData → Prop} (hP : P (.tuple [fracD r, .int k])) : (m_read_words [.list ((wordsL r k).map fun l => .str (S l))]).To P := by
  unfold m_read_words
  rw [pure_to]
  unfold b_read_words
  unfold wordsL
  by_cases h0 : k = 0
  · rw [if_pos h0]
    subst h0
    simp [startL]
    refine ⟨_, rfl, read_power_no ?_⟩
    simp [isNon]
    exact read_fraction_to h hP
  rw [if_neg h0]
  by_cases h1 : r = 1
  · rw [if_pos h1]
    subst h1
    refine cut (fun l s => l = [some (.d (.list [.str (S (leL k))])), some (.d (.int k)), none] ∧ s = ⟨none, []⟩) ?_ fun l s hs => ?_
    · simp [startL]
      exact ⟨_, rfl, read_power_to (by omega) hk (by simp)⟩
    obtain ⟨rfl, rfl⟩ := hs
    have e : cutD [PyData.str (S (leL k))] none (some (-1)) = [] := rfl
    simp [isNon, e]
    exact .inr ⟨by omega, .inl ⟨h0, hP⟩⟩
  · rw [if_neg h1]
    refine cut (fun l s => l = [some (.d (.list [.str (S (frL r)), .str (S (leL k))])), some (.d (.int k)), none] ∧ s = ⟨none, []⟩) ?_ fun l s hs => ?_
    · simp [startL]
      exact ⟨_, rfl, read_power_to (by omega) hk (by simp)⟩
    obtain ⟨rfl, rfl⟩ := hs
    have e : cutD [PyData.str (S (frL r)), PyData.str (S (leL k))] none (some (-1)) = [PyData.str (S (frL r))] := rfl
    simp [isNon, e]
    exact .inr ⟨by omega, read_fraction_to h hP⟩
end NW
namespace NW
open PySem PySem.Spec PyProof.Rows L2
theorem num_pos' {r : Rat} (h : 0 < r) : 0 < r.num := by
  have h1 : 0 ≤ r.num := Rat.num_nonneg.mpr (Rat.le_of_lt h)
  have h2 : r.num ≠ 0 := fun z => by
    have : r = 0 := Rat.num_eq_zero.mp z
    rw [this] at h
    exact absurd h (by decide)
  omega
def sgn (r : Rat) : Int := if r < 0 then -1 else 1
def ab (r : Rat) : Rat := if r < 0 then -r else r
def tailL (ts : List (Nat × Rat)) : List (List Nat) := ts.flatMap fun t => [if t.2 < 0 then 45 else 43] :: wordsL (ab t.2) t.1
theorem wordsL_ne (r : Rat) (k : Nat) : wordsL r k ≠ [] := by
  unfold wordsL
  split
  · simp
  · split <;> simp
theorem joinL_app : ∀ {a b : List (List Nat)}, a ≠ [] → b ≠ [] → TL.joinL [32] (a ++ b) = TL.joinL [32] a ++ [32] ++ TL.joinL [32] b
  | [], _, h, _ => absurd rfl h
  | [x], [], _, h => absurd rfl h
  | [x], y :: b, _, _ => by
    simp [TL.joinL]
  | x :: y :: a, b, _, hb => by
    have := joinL_app (a := y :: a) (b := b) (by simp) hb
    have e1 : TL.joinL [32] (x :: y :: a ++ b) = x ++ ([32] ++ TL.joinL [32] (y :: a ++ b)) := by simp [TL.joinL]
    have e2 : TL.joinL [32] (x :: y :: a) = x ++ ([32] ++ TL.joinL [32] (y :: a)) := by simp [TL.joinL]
    rw [e1, e2, this]
    simp
theorem tail_join {a : List (List Nat)} (ha : a ≠ []) : ∀ {ts : List (Nat × Rat)}, TL.joinL [32] (a ++ tailL ts) = TL.joinL [32] a ++ ts.flatMap fun t => moreL t.1 t.2 := by
  intro ts
  induction ts generalizing a with
  | nil => simp [tailL]
  | cons t ts ih =>
    have e : a ++ tailL (t :: ts) = (a ++ ([if t.2 < 0 then 45 else 43] :: wordsL (ab t.2) t.1)) ++ tailL ts := by simp [tailL]
    rw [e, ih (by simp), joinL_app ha (by simp)]
    have e2 : TL.joinL [32] ([if t.2 < 0 then 45 else 43] :: wordsL (ab t.2) t.1) = [if t.2 < 0 then 45 else 43] ++ [32] ++ woL (ab t.2) t.1 := by
      rw [show ([if t.2 < 0 then 45 else 43] :: wordsL (ab t.2) t.1) = [[if t.2 < 0 then 45 else 43]] ++ wordsL (ab t.2) t.1 from rfl, joinL_app (by simp) (wordsL_ne _ _), woL_join]
      rfl
    rw [e2, List.flatMap_cons]
    unfold moreL ab
    by_cases h : t.2 < 0 <;> simp [h]
theorem frL_in {q : Rat} : ∀ c, c ∈ frL q → 45 ≤ c ∧ c ≤ 57 := fun c hc => by
  have d : ∀ n c, c ∈ TL.numL n → 48 ≤ c ∧ c ≤ 57 := fun n c h => TL.numL_digits n c h
  rw [frL_abs] at hc
  rcases List.mem_append.mp hc with h | h
  · split at h
    · have : c = 45 := by simpa using h
      omega
    · simp at h
  · unfold absL at h
    split at h
    · have := d _ c h; omega
    · rcases List.mem_append.mp h with h | h
      · have := d _ c h; omega
      · rcases List.mem_cons.mp h with rfl | h
        · omega
        · have := d _ c h; omega
theorem leL_in {k : Nat} : ∀ c, c ∈ leL k → 48 ≤ c := fun c hc => by
  unfold leL at hc
  split at hc
  · have : c = 120 := by simpa using hc
    omega
  · rcases List.mem_cons.mp hc with rfl | hc
    · omega
    rcases List.mem_cons.mp hc with rfl | hc
    · omega
    exact (TL.numL_digits _ c hc).1
theorem wordsL_free {r : Rat} {k : Nat} : ∀ w, w ∈ wordsL r k → (32 : Nat) ∉ w := fun w hw h => by
  have f : w = frL r ∨ w = leL k := by
    unfold wordsL at hw
    split at hw
    · simp at hw; exact .inl hw
    · split at hw
      · simp at hw; exact .inr hw
      · simp at hw; exact hw
  rcases f with rfl | rfl
  · have := frL_in 32 h; omega
  · have := leL_in 32 h; omega
theorem tailL_free {ts : List (Nat × Rat)} : ∀ w, w ∈ tailL ts → (32 : Nat) ∉ w := fun w hw h => by
  obtain ⟨t, ht, hw⟩ := List.mem_flatMap.mp hw
  rcases List.mem_cons.mp hw with rfl | hw
  · split at h <;> simp at h
  · exact wordsL_free w hw h
theorem split_words {a : List (List Nat)} (ha : a ≠ []) (hf : ∀ w, w ∈ a → (32 : Nat) ∉ w) : Txt.split (S (TL.joinL [32] a)) " " = a.map S := by
  rw [c_blank]
  have := SX.split_S (a := TL.joinL [32] a) (b := [32]) (by simp) (by decide)
  rw [SX.spl_join ha hf] at this
  exact this
theorem words_no {r : Rat} {k : Nat} (hr : 0 < r) : ∀ w, w ∈ wordsL r k → ¬ (S w = "+" ∨ S w = "-") := fun w hw h => by
  have e : w = [43] ∨ w = [45] := by
    rw [c_plus, c_minus] at h
    exact h.imp S_inj.mp S_inj.mp
  have hp : 0 < r.num := num_pos' hr
  have hd : ∀ c s, frL r = c :: s → 48 ≤ c := fun c s he => by
    rw [frL_abs, if_neg (by omega)] at he
    obtain ⟨c', s', e', h'⟩ := absL_head r
    rw [List.nil_append, e'] at he
    injection he with e1 e2
    omega
  have f : w = frL r ∨ w = leL k := by
    unfold wordsL at hw
    split at hw
    · simp at hw; exact .inl hw
    · split at hw
      · simp at hw; exact .inr hw
      · simp at hw; exact hw
  rcases f with f | f
  · rcases e with e | e
    · have := hd 43 [] (f ▸ e); omega
    · have := hd 45 [] (f ▸ e); omega
  · rcases e with e | e
    · have := leL_in (k := k) 43 (by rw [← f, e]; simp); omega
    · have := leL_in (k := k) 45 (by rw [← f, e]; simp); omega
theorem pLoop_words {xs : List (Int × List Str)} {s : Int} {rest : List Str} : ∀ {a : List Str} {ws : List Str}, (∀ w, w ∈ a → ¬ (w = "+" ∨ w = "-")) → pLoop xs s ws (a ++ rest) = pLoop xs s (ws ++ a) rest
  | [], ws, _ => by simp
  | w :: a, ws, h => by
    rw [List.cons_append, pLoop, if_neg (h w (by simp)), pLoop_words fun v hv => h v (by simp [hv])]
    simp
def termD (t : Nat × Rat) : Int × List Str := (sgn t.2, (wordsL (ab t.2) t.1).map S)
theorem ab_pos {r : Rat} (h : r ≠ 0) : 0 < ab r := by
  unfold ab
  split
  · grind
  · grind
theorem pLoop_tail : ∀ {ts : List (Nat × Rat)} {xs : List (Int × List Str)} {s : Int} {ws : List Str}, (∀ t, t ∈ ts → t.2 ≠ 0) → pLoop xs s ws ((tailL ts).map S) = xs ++ (s, ws) :: ts.map termD
  | [], xs, s, ws, _ => by simp [tailL, pLoop]
  | t :: ts, xs, s, ws, h => by
    have e : (tailL (t :: ts)).map S = S [if t.2 < 0 then 45 else 43] :: ((wordsL (ab t.2) t.1).map S ++ (tailL ts).map S) := by simp [tailL]
    have hs : S [if t.2 < 0 then 45 else 43] = "+" ∨ S [if t.2 < 0 then 45 else 43] = "-" := by
      rw [c_plus, c_minus]
      split
      · exact .inr rfl
      · exact .inl rfl
    have hm : (if S [if t.2 < 0 then 45 else 43] = "-" then (-1 : Int) else 1) = sgn t.2 := by
      rw [c_minus]
      unfold sgn
      by_cases h : t.2 < 0
      · simp [h]
      · simp [h, S_inj]
    rw [e, pLoop, if_pos hs, hm, pLoop_words (fun w hw => by
      obtain ⟨v, hv, rfl⟩ := List.mem_map.mp hw
      exact words_no (ab_pos (h t (by simp))) v hv), pLoop_tail fun u hu => h u (by simp [hu])]
    simp [termD]
theorem parts_acc {k : Nat} {r : Rat} {ts : List (Nat × Rat)} (h : ∀ t, t ∈ (k, r) :: ts → t.2 ≠ 0) : partsOf (S (accL ((k, r) :: ts))) = ((k, r) :: ts).map termD := by
  have ht : ∀ t, t ∈ ts → t.2 ≠ 0 := fun t m => h t (by simp [m])
  have hr : r ≠ 0 := h (k, r) (by simp)
  have body : Txt.split (S (woL (ab r) k ++ ts.flatMap fun t => moreL t.1 t.2)) " " = (wordsL (ab r) k).map S ++ (tailL ts).map S := by
    rw [woL_join, ← tail_join (wordsL_ne _ _), split_words (by have := wordsL_ne (ab r) k; simp [this]) (fun w hw => (List.mem_append.mp hw).elim (wordsL_free w) (tailL_free w)), List.map_append]
  have fin : ∀ s : Int, pLoop [] s [] ((wordsL (ab r) k).map S ++ (tailL ts).map S) = (s, (wordsL (ab r) k).map S) :: ts.map termD := fun s => by
    rw [pLoop_words (fun w hw => by
      obtain ⟨v, hv, rfl⟩ := List.mem_map.mp hw
      exact words_no (ab_pos hr) v hv), pLoop_tail ht]
    simp
  unfold partsOf
  by_cases h0 : r < 0
  · have e : accL ((k, r) :: ts) = 45 :: (woL (ab r) k ++ ts.flatMap fun t => moreL t.1 t.2) := by
      simp [accL, firstL, h0, ab]
    have hs : Txt.startswith (S (accL ((k, r) :: ts))) "-" = true := by
      rw [c_minus, starts_S (by simp), e]; simp [TL.pre]
    rw [if_pos hs, e, cut_from (by omega)]
    show pLoop [] (-1) [] (Txt.split (S (woL (ab r) k ++ ts.flatMap fun t => moreL t.1 t.2)) " ") = _
    rw [body, fin]
    simp [termD, sgn, h0]
  · have e : accL ((k, r) :: ts) = woL (ab r) k ++ ts.flatMap fun t => moreL t.1 t.2 := by
      simp [accL, firstL, h0, ab]
    have hw : ∃ c s, woL (ab r) k = c :: s ∧ 48 ≤ c := by
      have hf : ∃ c s, frL (ab r) = c :: s ∧ 48 ≤ c := by
        have hp : 0 < (ab r).num := num_pos' (ab_pos hr)
        obtain ⟨c', s', e', h'⟩ := absL_head (ab r)
        exact ⟨c', s', by rw [frL_abs, if_neg (by omega)]; exact e', h'⟩
      obtain ⟨c, s, ef, hc⟩ := hf
      unfold woL
      split
      · exact ⟨c, s, ef, hc⟩
      · split
        · cases el : leL k with
          | nil => exact absurd el (leL_ne k)
          | cons d u => exact ⟨d, u, rfl, leL_in (k := k) d (by rw [el]; simp)⟩
        · rw [ef]; exact ⟨c, _, rfl, hc⟩
    obtain ⟨c, s, ew, hc⟩ := hw
    have hs : ¬ Txt.startswith (S (accL ((k, r) :: ts))) "-" = true := by
      rw [c_minus, starts_S (by simp), e, ew, List.cons_append, TL.pre_of_head _ _ (by omega)]
      simp
    rw [if_neg hs, e, body, fin]
    simp [termD, sgn, h0]
end NW
namespace NW
open PySem PySem.Spec PyProof.Rows L2
def Fw (p : Pol) : Prop := p.ts.length ≤ 25 ∧ p.ts ≠ [] ∧ ∀ k, F40 (p.co k)
theorem F40.ab {q : Rat} (h : F40 q) : F40 (ab q) := by
  unfold NW.ab
  split
  · exact ⟨by simpa using h.1, by simpa using h.2⟩
  · exact h
theorem teL_mem {p : Pol} {n : Nat} {t : Nat × Rat} : t ∈ teL p n ↔ t.1 < n ∧ t.2 = p.co t.1 ∧ t.2 ≠ 0 := by
  unfold teL
  rw [List.mem_map]
  constructor
  · rintro ⟨k, hk, rfl⟩
    rw [List.mem_filter] at hk
    exact ⟨List.mem_range.mp (List.mem_reverse.mp hk.1), rfl, by simpa using hk.2⟩
  · rintro ⟨h1, h2, h3⟩
    refine ⟨t.1, ?_, ?_⟩
    · rw [List.mem_filter]
      exact ⟨List.mem_reverse.mpr (List.mem_range.mpr h1), by rw [← h2]; simpa using h3⟩
    · rw [← h2]
theorem co_high {p : Pol} {k : Nat} (h : p.ts.length ≤ k) : p.co k = 0 := by
  unfold Pol.co
  rw [List.getD_eq_getElem?_getD, List.getElem?_eq_none h]
  simp
theorem Fw.teL_ne {p : Pol} (h : Fw p) : teL p p.ts.length ≠ [] := by
  have hl := List.length_pos_iff.mpr h.2.1
  have hc : p.co (p.ts.length - 1) ≠ 0 := co_lead h.2.1
  intro z
  have : (p.ts.length - 1, p.co (p.ts.length - 1)) ∈ teL p p.ts.length := teL_mem.mpr ⟨by dsimp only; omega, rfl, hc⟩
  rw [z] at this
  simp at this
theorem Fw.poL {p : Pol} (h : Fw p) : poL p = accL (teL p p.ts.length) := by
  have := h.teL_ne
  unfold NW.poL
  split
  · rename_i e; exact absurd e this
  · rfl
theorem Fw.parts {p : Pol} (h : Fw p) : partsOf (S (NW.poL p)) = (teL p p.ts.length).map termD := by
  rw [h.poL]
  have hn := h.teL_ne
  have hm : ∀ t, t ∈ teL p p.ts.length → t.2 ≠ 0 := fun t ht => (teL_mem.mp ht).2.2
  cases e : teL p p.ts.length with
  | nil => exact absurd e hn
  | cons t ts =>
    obtain ⟨k, r⟩ := t
    rw [e] at hm
    exact parts_acc hm
theorem Fw.len {p : Pol} (h : Fw p) : (NW.poL p).length ≤ 40000 := by
  rw [h.poL]
  have := accL_len (ts := teL p p.ts.length) fun t ht => by
    obtain ⟨h1, h2, _⟩ := teL_mem.mp ht
    have := h.1
    rw [h2]
    exact ⟨(h.2.2 _).fb, by omega⟩
  have h2 : (teL p p.ts.length).length ≤ p.ts.length := by
    unfold teL
    rw [List.length_map]
    exact Nat.le_trans (List.length_filter_le _ _) (by simp)
  have := h.1
  have h3 : (teL p p.ts.length).length * 1313 ≤ 25 * 1313 := Nat.mul_le_mul_right _ (by omega)
  omega
theorem parted_to {x : Str} (h : x.length ≤ 1000000) (ho : PyData.strOk x = true) {P : PyData → Prop} (hP : P (.list ((partsOf x).map pD))) : (m_parted [.str x]).To P := by
  unfold m_parted
  show (if x.length ≤ 1000000 ∧ PyData.strOk x = true then Rp.ok (PyData.list (List.map pD (partsOf x))) false else Rp.no).To P
  rw [if_pos ⟨h, ho⟩]
  exact hP
theorem ofC_co {p : Pol} {n : Nat} (h : p.ts.length ≤ n) : ofC ((List.range n).map p.co) = p := Pol.ext_co fun k => by
  rw [co_ofC, List.getD_eq_getElem?_getD, List.getElem?_map]
  by_cases hk : k < n
  · rw [List.getElem?_range hk]; rfl
  · rw [List.getElem?_eq_none (by simpa using Nat.le_of_not_lt hk), co_high (by omega)]; rfl
def someL (p : Pol) (ts : List (Nat × Rat)) : List PyData := (List.range 25).map fun k => fracD (if k ∈ ts.map Prod.fst then p.co k else 0)
theorem someL_nil {p : Pol} : someL p [] = List.replicate 25 (.tuple [.int 0, .int 1]) := by
  unfold someL
  simp
  rfl
theorem someL_snoc {p : Pol} {ts : List (Nat × Rat)} {k : Nat} (hk : k < 25) : (someL p ts).set k (fracD (p.co k)) = someL p (ts ++ [(k, p.co k)]) := by
  refine List.ext_getElem? fun i => ?_
  unfold someL
  rw [List.getElem?_set]
  by_cases h : k = i
  · subst h
    simp [hk]
  · rw [if_neg h, List.getElem?_map, List.getElem?_map]
    by_cases hi : i < 25
    · rw [List.getElem?_range hi]
      have : ¬ i = k := fun z => h z.symm
      have e : (i ∈ (ts ++ [(k, p.co k)]).map Prod.fst) = (i ∈ ts.map Prod.fst) := by simp [this]
      simp only [Option.map_some, e]
    · rw [List.getElem?_eq_none (by simpa using Nat.le_of_not_lt hi)]
      rfl
theorem someL_all {p : Pol} : someL p (teL p p.ts.length) = ((List.range 25).map p.co).map fracD := by
  unfold someL
  rw [List.map_map]
  refine List.map_congr_left fun k _ => ?_
  show fracD _ = fracD (p.co k)
  split
  · rfl
  · rename_i h
    have : p.co k = 0 := by
      by_cases hk : k < p.ts.length
      · refine Classical.byContradiction fun z => h ?_
        exact List.mem_map.mpr ⟨(k, p.co k), teL_mem.mpr ⟨hk, rfl, z⟩, rfl⟩
      · exact co_high (by omega)
    rw [this]
theorem sgn_ab {r : Rat} : (PyData.tuple [.int (sgn r * (ab r).num), .int (ab r).den]) = fracD r := by
  unfold sgn ab fracD
  by_cases h : r < 0
  · simp [h]
  · simp [h]
theorem read_poly_fw {p : Pol} (h : Fw p) {P : PyData → Prop} (hP : P (polyD p)) : (m_read_poly [.str (S (NW.poL p))]).To P := by
  unfold m_read_poly
  rw [pure_to]
  unfold b_read_poly
  refine cut (fun l s => l = [some (.d (.str (S (NW.poL p)))), some (.ref 0), none, none, none, none, none] ∧ s = ⟨none, [.lst (someL p [])]⟩) ?_ fun l s hs => ?_
  · simp [startL, c_MOST, someL_nil]
  obtain ⟨rfl, rfl⟩ := hs
  refine cut (fun l s => (∃ a b c d e, l = [some (.d (.str (S (NW.poL p)))), some (.ref 0), a, b, c, d, e]) ∧ s = ⟨none, [.lst (someL p (teL p p.ts.length))]⟩) ?_ fun l s hs => ?_
  · simp
    refine parted_to (by rw [S_len]; have := h.len; omega) (poL_asc p).ok ?_
    rw [h.parts]
    simp
    generalize hT : teL p p.ts.length = T
    have hm : ∀ t, t ∈ T → t.1 < p.ts.length ∧ t.2 = p.co t.1 ∧ t.2 ≠ 0 := fun t ht => teL_mem.mp (hT ▸ ht)
    obtain ⟨I, hI⟩ : ∃ I : Nat → NW.Loc → Sto → Prop, ∀ j l s, I j l s ↔ ∃ a b c d e, l = [some (.d (.str (S (NW.poL p)))), some (.ref 0), a, b, c, d, e] ∧ s = ⟨none, [.lst (someL p (T.take j))]⟩ := ⟨_, fun _ _ _ => Iff.rfl⟩
    refine for_ix I (fun _ _ _ _ => chk_nil) ((hI _ _ _).mpr ⟨none, none, none, none, none, rfl, rfl⟩) ?_ ?_
    · rintro j x l s hx h'
      obtain ⟨a, b, c, d, e, rfl, rfl⟩ := (hI _ _ _).mp h'
      rw [List.getElem?_map] at hx
      cases ht : T[j]? with
      | none => rw [ht] at hx; cases hx
      | some t =>
      rw [ht] at hx
      cases hx
      obtain ⟨h1, h2, h3⟩ := hm t (List.mem_of_getElem? ht)
      have hl25 := h.1
      have hf : F40 t.2 := by rw [h2]; exact h.2.2 _
      have es : T.take (j + 1) = T.take j ++ [(t.1, p.co t.1)] := by
        rw [List.take_add_one, ht, ← h2]
        rfl
      have ew : ((wordsL (ab t.2) t.1).map S).map PyData.str = (wordsL (ab t.2) t.1).map fun l => .str (S l) := by rw [List.map_map]; rfl
      have wn : ((wordsL (ab t.2) t.1).map fun l => PyData.str (S l)) ≠ [] := by
        have := wordsL_ne (ab t.2) t.1
        simp [this]
      have wl : ((wordsL (ab t.2) t.1).map fun l => PyData.str (S l)).length ≤ 2 := by
        rw [List.length_map]
        unfold wordsL
        split
        · simp
        · split <;> simp
      generalize hW : ((wordsL (ab t.2) t.1).map fun l => PyData.str (S l)) = W at ew wn wl
      simp [pD, termD, ew, wn]
      rw [← hW]
      refine read_words_to hf.ab (by omega) ?_
      simp [fracD]
      have hs2 : sgn t.2 = 1 ∨ sgn t.2 = -1 := by unfold sgn; split <;> simp
      refine ⟨mulC_of (a := 2) (b := 1900) (by rcases hs2 with z | z <;> rw [z] <;> decide) hf.ab.fb.1 (by omega) (by omega) (by omega), t.1, ?_, ?_⟩
      · rw [show (someL p (T.take j)).length = 25 by unfold someL; simp]
        exact idxN_nat (by omega)
      · refine (hI _ _ _).mpr ⟨_, _, _, _, _, rfl, ?_⟩
        rw [sgn_ab, es, h2, someL_snoc (by omega)]
    · rintro l s h'
      obtain ⟨a, b, c, d, e, rfl, rfl⟩ := (hI _ _ _).mp h'
      rw [List.length_map, List.take_length]
      exact ⟨⟨a, b, c, d, e, rfl⟩, rfl⟩
  obtain ⟨⟨a, b, c, d, e, rfl⟩, rfl⟩ := hs
  simp
  rw [someL_all]
  refine poly_to (.inl rfl) (n := 1900) (fun q hq => ?_) (by simp) (by omega) (by omega) (by simp) ?_
  · obtain ⟨k, _, rfl⟩ := List.mem_map.mp hq
    exact (h.2.2 k).fb
  rw [ofC_co h.1]
  simp
  refine ⟨noLst_poly, ?_⟩
  refine poly_text_toG (by have := h.1; omega) (fun k => (h.2.2 k).fb) ?_
  simp [eqv_S]
  exact ⟨(poL_asc p).sh, hP⟩
def Few (p : Pol) : Prop := p.ts.length ≤ 25 ∧ p.ts ≠ [] ∧ (∀ k, F40 (p.co k)) ∧ PBt 1900 1000 p
theorem Few.fw {p : Pol} (h : Few p) : Fw p := ⟨h.1, h.2.1, h.2.2.1⟩
theorem Few.teL_ne {p : Pol} (h : Few p) : teL p p.ts.length ≠ [] := h.fw.teL_ne
theorem Few.poL {p : Pol} (h : Few p) : NW.poL p = accL (teL p p.ts.length) := h.fw.poL
theorem Few.parts {p : Pol} (h : Few p) : partsOf (S (NW.poL p)) = (teL p p.ts.length).map termD := h.fw.parts
theorem Few.len {p : Pol} (h : Few p) : (NW.poL p).length ≤ 40000 := h.fw.len
end NW
namespace NW
open PySem PySem.Spec PyProof.Rows L2
end NW
namespace NW
open PySem PySem.Spec PyProof.Rows L2
theorem co_F40 {ts : List Int} {b : Nat} (hb : 0 < b) (hb2 : b < 10 ^ 40) (ht : ∀ t, t ∈ ts → t.natAbs < 10 ^ 40) (k : Nat) : F40 ((mk ts b).co k) := by
  rw [co_mk hb]
  have hg : (ts.getD k 0).natAbs < 10 ^ 40 := by
    rw [List.getD_eq_getElem?_getD]
    cases e : ts[k]? with
    | none => simp
    | some t => exact ht t (List.mem_of_getElem? e)
  have h1 := num_le (ts.getD k 0) b (by omega)
  have h2 := den_le (ts.getD k 0) b (by omega)
  exact ⟨by omega, by omega⟩
theorem Few.mk {ts : List Int} {b : Nat} (hb : 0 < b) (hb2 : b < 10 ^ 40) (ht : ∀ t, t ∈ ts → t.natAbs < 10 ^ 40) (hl : ts.length ≤ 25) (h0 : (NW.mk ts b).ts ≠ []) : Few (NW.mk ts b) :=
  ⟨Nat.le_trans mk_len hl, h0, co_F40 hb hb2 ht, PBt.mk hb (by omega) (Nat.lt_of_lt_of_le hb2 (by decide +kernel)) fun t h => Nat.lt_of_lt_of_le (ht t h) (by decide +kernel)⟩
end NW
namespace NW
open PySem PySem.Spec PyProof.Rows L2
theorem to_mR3n {a : MA} {l : NW.Loc} {st : Sto} {Q : ItD → Sto → Prop} {i : Int} (h : (a l st).To fun us s => us = [.d (.int i), .d (.int (-1)), .d (.int (-1))] ∧ rOk i = true ∧ Q ⟨rangeD i (-1) (i - -1).toNat, []⟩ s) : (mR3 a l st).To Q := by
  unfold mR3
  rw [to_bind]
  refine h.mono ?_
  rintro us s ⟨rfl, hi, q⟩
  have e : (rOk i && rOk (-1) && decide ((-1 : Int) = -1)) = true := by rw [hi]; decide
  show (if (rOk i && rOk (-1) && decide ((-1 : Int) = -1)) = true then Res.ok (⟨rangeD i (-1) (i - -1).toNat, []⟩ : ItD) s else _).To Q
  rw [if_pos e]
  exact q
end NW
namespace NW
open PySem PySem.Spec PyProof.Rows L2
structure ChW (ps : List Pol) : Prop where
  few : ∀ p, p ∈ ps → Few p ∧ 3 ≤ p.ts.length
  len : ps.length ≤ 3
  ne : ps ≠ []
theorem ChW.rev {ps : List Pol} (h : ChW ps) : ChW ps.reverse := ⟨fun p hp => h.few p (List.mem_reverse.mp hp), by simpa using h.len, by simpa using h.ne⟩
end NW
namespace NW
open PySem PySem.Spec PyProof.Rows L2
def Out.Ex (o : Out) (e : Exc) : Prop := ∃ l s, o = .ex e l s
section
variable {a b : MS} {l : NW.Loc} {st : Sto} {e : Exc}
theorem ex_first (h : (a l st).Ex e) : (sSeq a b l st).Ex e := by
  obtain ⟨l', s', h⟩ := h
  exact ⟨l', s', by unfold sSeq; rw [h]; rfl⟩
theorem ex_then (M : NW.Loc → Sto → Prop) (h1 : (a l st).To M fun _ _ => False) (h2 : ∀ l s, M l s → (b l s).Ex e) : (sSeq a b l st).Ex e := by
  unfold sSeq
  cases h : a l st with
  | nx l' s' => rw [h] at h1; exact h2 l' s' h1
  | rt u s' => rw [h] at h1; exact h1.elim
  | bk l' s' => rw [h] at h1; exact h1.elim
  | ct l' s' => rw [h] at h1; exact h1.elim
  | ex e l' s' => rw [h] at h1; exact h1.elim
  | no => rw [h] at h1; exact h1.elim
theorem ex_yes {c : MB} (hc : (c l st).To fun k s => k = true ∧ s = st) (h : (a l st).Ex e) : (sIf c a b l st).Ex e := by
  unfold sIf
  cases h1 : c l st with
  | ok k s => rw [h1] at hc; obtain ⟨rfl, rfl⟩ := hc; exact h
  | ex e s => rw [h1] at hc; exact hc.elim
  | no => rw [h1] at hc; exact hc.elim
theorem ex_raise {x f : Str} {d : PyData} : (sRaise1 x f (eC d) l st).Ex ⟨x, [(f, d)]⟩ := ⟨l, st, rfl⟩
theorem ex_asg {m : ME} {t : MT} {s : Sto} (h : m l st = .ex e s) : (sAsgG m t l st).Ex e := ⟨l, s, by unfold sAsgG; rw [h]; rfl⟩
theorem ex_ret {m : ME} {s : Sto} (h : m l st = .ex e s) : (sRet m l st).Ex e := ⟨l, s, by unfold sRet; rw [h]; rfl⟩
theorem ex_pure {n : Nat} {ds : List PyData} (h : (a (startL n (ds.map .d)) ⟨none, []⟩).Ex e) : pureOf n a ds = .ex e := by
  obtain ⟨l', s', h⟩ := h
  unfold pureOf
  rw [h]
  rfl
theorem ex_callX {m : List PyData → Rp} {x : PyData} (h : m [x] = .ex e) : fCallX 1 m [.d x] st = .ex e st := by
  show (if [x].length = 1 ∧ [U.d x].any isRef = false then (match m [x] with | .ok d _ => Res.ok (U.d d) st | .ex e => .ex e st | .no => .no) else .no) = _
  rw [if_pos ⟨rfl, rfl⟩, h]
theorem ex_for {d : ItD} {t : MT} {b : MS} (I : Nat → NW.Loc → Sto → Prop) {xs : List PyData} {n : Nat} {x : PyData} (hk : ∀ k l st, I k l st → d.chk st) (start : I 0 l st)
    (step : ∀ k x l st, k < n → xs[k]? = some x → I k l st → (t (.d x) l st).To fun l s => (b l s).To (I (k + 1)) fun _ _ => False)
    (hx : xs[n]? = some x) (bad : ∀ l st, I n l st → (t (.d x) l st).To fun l s => (b l s).Ex e) : (forM d t b xs l st).Ex e := by
  induction xs generalizing I n l st with
  | nil => cases hx
  | cons y ys ih =>
    have c := hk 0 l st start
    cases n with
    | zero =>
      cases hx
      have h := bad l st start
      rw [forM, if_pos c]
      cases h1 : t (.d x) l st with
      | ok l' s' =>
        rw [h1] at h
        obtain ⟨l2, s2, h⟩ := h
        refine ⟨l2, s2, ?_⟩
        show (match b l' s' with | .nx l st => forM d t b ys l st | .ct l st => forM d t b ys l st | .bk l st => .nx l st | o => o) = _
        rw [h]
      | ex e s' => rw [h1] at h; exact h.elim
      | no => rw [h1] at h; exact h.elim
    | succ n =>
      have h := step 0 y l st (by omega) rfl start
      rw [forM, if_pos c]
      cases h1 : t (.d y) l st with
      | ok l' s' =>
        rw [h1] at h
        have h' : (b l' s').To (I 1) fun _ _ => False := h
        show (match b l' s' with | .nx l st => forM d t b ys l st | .ct l st => forM d t b ys l st | .bk l st => .nx l st | o => o).Ex e
        cases h2 : b l' s' with
        | nx l2 s2 =>
          rw [h2] at h'
          exact ih (fun k => I (k + 1)) (n := n) (fun k l st z => hk (k + 1) l st z) h' (fun k x l st hk2 hx2 z => step (k + 1) x l st (by omega) hx2 z) hx bad
        | rt u s2 => rw [h2] at h'; exact h'.elim
        | bk l2 s2 => rw [h2] at h'; exact h'.elim
        | ct l2 s2 => rw [h2] at h'; exact h'.elim
        | ex e l2 s2 => rw [h2] at h'; exact h'.elim
        | no => rw [h2] at h'; exact h'.elim
      | ex e s' => rw [h1] at h; exact h.elim
      | no => rw [h1] at h; exact h.elim
end
def bad0 : Exc := ⟨("BadText" : Str), [(("at" : Str), .int 0)]⟩
instance {l : List Nat} : Decidable (isNum l) := by unfold isNum; exact inferInstance
theorem all_val {α : Type} {xs : List α} {g : α → Bool} {st : Sto} {Q : U → Sto → Prop} (h : Q (.d (.bool (xs.all g))) st) : (cAll [.d (.list (xs.map fun x => .bool (g x)))] st).To Q := by
  have e : (xs.map fun x => PyData.bool (g x)) = (xs.map g).map .bool := by rw [List.map_map]; rfl
  rw [e, to_cAll]
  have : (xs.map g).all id = xs.all g := by rw [List.all_map]; rfl
  rw [this]; exact h
theorem is_number_val {l : List Nat} (ha : Asc l) (hl : l.length ≤ 16777216) {P : PyData → Prop} (hP : P (.bool (decide (isNum l)))) : (m_is_number [.str (S l)]).To P := by
  by_cases h : isNum l
  · rw [decide_eq_true h] at hP
    exact is_number_to h hP
  · rw [decide_eq_false h] at hP
    unfold m_is_number
    rw [pure_to]
    unfold b_is_number
    by_cases h0 : l = []
    · subst h0
      simp [startL]
      exact hP
    have h0' : ¬ l.length = 0 := fun z => h0 (List.length_eq_zero_iff.mp z)
    simp [startL, c_MOST_FIGURES, h0, hl]
    by_cases h40 : 40 < l.length
    · exact .inr ⟨by omega, hP⟩
    refine .inl ⟨by omega, ?_⟩
    rw [signsS]
    refine ⟨by rw [List.length_map]; omega, ?_⟩
    refine lc_mapA (f := fun c => PyData.str (S [c])) (g := fun c => PyData.bool (decide (c ∈ [48, 49, 50, 51, 52, 53, 54, 55, 56, 57]))) chk_nil (fun c hc => ?_) ?_
    · simp [c_FIGURES, oneS, S_cps, wipeL]
    · refine all_val (g := fun c => decide (c ∈ [48, 49, 50, 51, 52, 53, 54, 55, 56, 57])) ?_
      cases hall : l.all fun c => decide (c ∈ [48, 49, 50, 51, 52, 53, 54, 55, 56, 57]) with
      | false => exact .inl ⟨rfl, hP⟩
      | true =>
        refine .inr ⟨rfl, ⟨ha.sh, str_sh (by decide +kernel)⟩, ?_⟩
        rw [eqv_S]
        have hd : ∀ c, c ∈ l → 48 ≤ c ∧ c ≤ 57 := fun c hc => by
          have := of_decide_eq_true (List.all_eq_true.mp hall c hc)
          simp at this
          omega
        have hz : ¬ (l = [48] ∨ l.head? ≠ some 48) := fun z => h ⟨h0, by omega, hd, z⟩
        have hz1 : ¬ l = [48] := fun z => hz (.inl z)
        refine .inl ⟨decide_eq_false hz1, ?_⟩
        cases l with
        | nil => exact absurd rfl h0
        | cons c r =>
          have hc : c = 48 := by
            refine Classical.byContradiction fun z => hz (.inr ?_)
            simpa using z
          subst hc
          rw [to_ixStr (by simp at hl; omega), to_eqS (fun d hd => by simp at hd; omega) (fun d hd => by simp at hd; omega)]
          simp
          exact hP
end NW
namespace NW
open PySem PySem.Spec PyProof.Rows L2
theorem dv_snoc {l : List Nat} {c : Nat} : NumText.digitsVal (l ++ [c]) = NumText.digitsVal l * 10 + (c - 48) := by
  unfold NumText.digitsVal
  rw [List.foldl_append]
  rfl
theorem numL_dv : ∀ (n : Nat) (l : List Nat), l.length = n → l ≠ [] → (∀ c, c ∈ l → 48 ≤ c ∧ c ≤ 57) → (l = [48] ∨ l.head? ≠ some 48) → TL.numL (NumText.digitsVal l) = l ∧ NumText.digitsVal l < 10 ^ n ∧ (l ≠ [48] → 1 ≤ NumText.digitsVal l) := by
  intro n
  induction n with
  | zero => intro l hl h0; exact absurd (List.length_eq_zero_iff.mp hl) h0
  | succ n ih =>
    intro l hl h0 hd hz
    rcases List.eq_nil_or_concat l with rfl | ⟨l', c, rfl⟩
    · exact absurd rfl h0
    have hl' : l'.length = n := by simp at hl; exact hl
    have hc := hd c (by simp)
    have e := dv_snoc (l := l') (c := c)
    simp only [List.concat_eq_append] at *
    by_cases hn : l' = []
    · subst hn
      have e0 : NumText.digitsVal ([] ++ [c]) = c - 48 := by rw [e]; simp [NumText.digitsVal]
      rw [e0]
      refine ⟨?_, ?_, fun z => ?_⟩
      · rw [TL.numL_lt (by omega)]
        simp; omega
      · have : 10 ^ 1 ≤ 10 ^ (n + 1) := Nat.pow_le_pow_right (by omega) (by omega)
        omega
      · have : c ≠ 48 := fun y => z (by rw [y]; rfl)
        omega
    · have hne : l' ++ [c] ≠ [48] := fun z => by
        have := congrArg List.length z
        simp at this
        exact hn this
      have hh : (l' ++ [c]).head? ≠ some 48 := hz.elim (fun z => absurd z hne) id
      have hh' : l'.head? ≠ some 48 := by
        cases l' with
        | nil => exact absurd rfl hn
        | cons d r => simpa using hh
      obtain ⟨i1, i2, i3⟩ := ih l' hl' hn (fun d h => hd d (by simp [h])) (.inr hh')
      have i3' := i3 fun z => hh' (by rw [z]; rfl)
      rw [e]
      refine ⟨?_, ?_, fun _ => by omega⟩
      · rw [TL.numL_step (by omega), show (NumText.digitsVal l' * 10 + (c - 48)) / 10 = NumText.digitsVal l' by omega, i1, show (NumText.digitsVal l' * 10 + (c - 48)) % 10 = c - 48 by omega, show 48 + (c - 48) = c by omega]
      · rw [Nat.pow_succ]
        omega
theorem num_of {l : List Nat} (h : isNum l) : ∃ n, n < 10 ^ 40 ∧ l = TL.numL n := by
  obtain ⟨h1, h2, h3⟩ := numL_dv l.length l rfl h.1 h.2.2.1 h.2.2.2
  exact ⟨_, Nat.lt_of_lt_of_le h2 (Nat.pow_le_pow_right (by omega) h.2.1), h1.symm⟩
theorem Asc.tail {c : Nat} {p : List Nat} (h : Asc (c :: p)) : Asc p := fun d hd => h d (by simp [hd])
theorem par_sub {s : Nat} : ∀ {l acc a b : List Nat}, TL.par [s] acc l = some (a, b) → (∀ c, c ∈ a → c ∈ acc ∨ c ∈ l) ∧ (∀ c, c ∈ b → c ∈ l) ∧ a.length ≤ acc.length + l.length ∧ b.length ≤ l.length := by
  intro l
  induction l with
  | nil => intro acc a b h; cases h
  | cons d l ih =>
    intro acc a b h
    cases hp : TL.pre [s] (d :: l) with
    | true =>
      rw [TL.par_hit hp] at h
      obtain ⟨rfl, rfl⟩ := Prod.mk.inj (Option.some.inj h)
      exact ⟨fun c hc => .inl hc, fun c hc => by simp at hc; simp [hc], by omega, by simp⟩
    | false =>
      rw [TL.par_miss hp] at h
      obtain ⟨h1, h2, h3, h4⟩ := ih h
      refine ⟨fun c hc => ?_, fun c hc => by simp [h2 c hc], by simp at h3 ⊢; omega, by simp; omega⟩
      rcases h1 c hc with z | z
      · rcases List.mem_append.mp z with z | z
        · exact .inl z
        · exact .inr (by simp at z; simp [z])
      · exact .inr (by simp [z])
theorem read_fraction_bad {l : List Nat} (ha : Asc l) (hl : l.length ≤ 1000000) (hq : ∀ q, F40 q → frL q ≠ l) : m_read_fraction [.str (S l)] = .ex bad0 := by
  unfold m_read_fraction
  refine ex_pure ?_
  unfold b_read_fraction
  obtain ⟨p, hp, hpa, hpl, hst⟩ : ∃ p : List Nat, (Txt.startswith (S l) (S [45]) = true ∧ l = 45 :: p ∨ Txt.startswith (S l) (S [45]) = false ∧ p = l) ∧ Asc p ∧ p.length ≤ 1000000 ∧ True := by
    cases e : Txt.startswith (S l) (S [45]) with
    | false => exact ⟨l, .inr ⟨rfl, rfl⟩, ha, hl, trivial⟩
    | true =>
      rw [starts_S (by simp)] at e
      cases l with
      | nil => cases e
      | cons c r =>
        have : c = 45 := by
          refine Classical.byContradiction fun z => ?_
          rw [TL.pre_of_head _ _ z] at e
          cases e
        subst this
        exact ⟨r, .inl ⟨rfl, rfl⟩, ha.tail, by simp at hl; omega, trivial⟩
  refine ex_then (fun l' s => l' = [some (.d (.str (S l))), some (.d (.str (S l))), none, none, none, none] ∧ s = ⟨none, []⟩) ?_ fun l' s hs => ?_
  · simp [startL]
  obtain ⟨rfl, rfl⟩ := hs
  refine ex_then (fun l' s => l' = [some (.d (.str (S l))), some (.d (.str (S p))), none, none, none, none] ∧ s = ⟨none, []⟩) ?_ fun l' s hs => ?_
  · rcases hp with ⟨e1, e2⟩ | ⟨e1, e2⟩
    · simp [e1]
      rw [to_slS (by rw [S_len]; omega), cut_from (by omega), e2]
      simp
    · subst e2
      simp [e1]
  obtain ⟨rfl, rfl⟩ := hs
  obtain ⟨a, m, b, hpart, aa, ab, al, bl⟩ : ∃ a m b : List Nat, partD (S p) (S [47]) = .tuple [.str (S a), .str (S m), .str (S b)] ∧ Asc a ∧ Asc b ∧ a.length ≤ 1000000 ∧ b.length ≤ 1000000 ∧ (m = [] ∨ m = [47]) := by
    unfold partD
    cases e : TL.par [47] [] p with
    | none =>
      have := SX.partition_none (a := p) (b := [47]) (by simp) e
      exact ⟨p, [], [], by rw [show S p = SX.S p from rfl, show S [47] = SX.S [47] from rfl, this]; rfl, hpa, fun c hc => by simp at hc, hpl, by simp, .inl rfl⟩
    | some ab =>
      obtain ⟨a, b⟩ := ab
      obtain ⟨s1, s2, s3, s4⟩ := par_sub e
      have := SX.partition_some (a := p) (b := [47]) (by simp) e
      exact ⟨a, [47], b, by rw [show S p = SX.S p from rfl, show S [47] = SX.S [47] from rfl, this]; rfl, fun c hc => (s1 c hc).elim (fun z => by simp at z) (hpa c), fun c hc => hpa c (s2 c hc), by simp at s3; omega, by omega, .inr rfl⟩
  refine ex_then (fun l' s => l' = [some (.d (.str (S l))), some (.d (.str (S p))), some (.d (.str (S a))), some (.d (.str (S m))), some (.d (.str (S b))), none] ∧ s = ⟨none, []⟩) ?_ fun l' s hs => ?_
  · simp [hpart]
    omega
  obtain ⟨rfl, rfl⟩ := hs
  obtain ⟨b', hb', ab', bl'⟩ : ∃ b', b' = (if m = [] then [49] else b) ∧ Asc b' ∧ b'.length ≤ 1000000 := by
    refine ⟨_, rfl, ?_, ?_⟩
    · split
      · exact fun c hc => by simp at hc; omega
      · exact ab
    · split
      · simp
      · exact bl.1
  refine ex_then (fun l' s => l' = [some (.d (.str (S l))), some (.d (.str (S p))), some (.d (.str (S a))), some (.d (.str (S m))), some (.d (.str (S b'))), none] ∧ s = ⟨none, []⟩) ?_ fun l' s hs => ?_
  · rcases bl with ⟨_, rfl | rfl⟩
    · simp [eqv_S, hb']
      exact str_sh (by decide +kernel)
    · simp [eqv_S, hb']
      exact ⟨str_sh (by decide +kernel), str_sh (by decide +kernel)⟩
  obtain ⟨rfl, rfl⟩ := hs
  by_cases hn : isNum a ∧ isNum b' ∧ b' ≠ [48]
  · obtain ⟨na, nb, nz⟩ := hn
    obtain ⟨x, hx, rfl⟩ := num_of na
    obtain ⟨y, hy, rfl⟩ := num_of nb
    have hy0 : y ≠ 0 := fun z => nz (by rw [z]; decide +kernel)
    have lx := na.2.1
    have ly := nb.2.1
    refine ex_then (fun l' s => l' = [some (.d (.str (S l))), some (.d (.str (S p))), some (.d (.str (S (TL.numL x)))), some (.d (.str (S m))), some (.d (.str (S (TL.numL y)))), none] ∧ s = ⟨none, []⟩) ?_ fun l' s hs => ?_
    · simp
      refine is_number_to na ?_
      simp
      refine is_number_to nb ?_
      simp [eqv_S, nz]
      exact ⟨nb.asc.sh, str_sh (by decide +kernel)⟩
    obtain ⟨rfl, rfl⟩ := hs
    obtain ⟨X, hX, hX2⟩ : ∃ X : Int, X = (if p = l then (x : Int) else -(x : Int)) ∧ X.natAbs = x := ⟨_, rfl, by split <;> simp⟩
    have fq : F40 (Rat.divInt X y) := ⟨Nat.lt_of_le_of_lt (num_le X y (by omega)) (by omega), Nat.lt_of_le_of_lt (den_le X y (by omega)) (by omega)⟩
    obtain ⟨q, hqd⟩ : ∃ q, q = Rat.divInt X y := ⟨_, rfl⟩
    rw [← hqd] at fq
    refine ex_then (fun l' s => l' = [some (.d (.str (S l))), some (.d (.str (S p))), some (.d (.str (S (TL.numL x)))), some (.d (.str (S m))), some (.d (.str (S (TL.numL y)))), some (.d (fracD q))] ∧ s = ⟨none, []⟩) ?_ fun l' s hs => ?_
    · have x19 : x < 2 ^ 1900 := Nat.lt_of_lt_of_le hx (by decide +kernel)
      by_cases hpl2 : p = l
      · have he : PyData.eqv (.str (S p)) (.str (S l)) = true := by rw [eqv_S]; exact decide_eq_true hpl2
        rw [if_pos hpl2] at hX
        simp [int_of hx, int_of hy, he]
        refine ⟨by omega, ⟨hpa.sh, ha.sh⟩, mulC_of (a := 1900) (b := 2) (by simpa using x19) (by decide) (by omega) (by omega) (by omega), by omega, ?_⟩
        refine fraction_to (by omega) trivial ?_
        rw [hqd, hX]
      · have he : PyData.eqv (.str (S p)) (.str (S l)) = false := by rw [eqv_S]; exact decide_eq_false hpl2
        rw [if_neg hpl2] at hX
        simp [int_of hx, int_of hy, he]
        refine ⟨by omega, ⟨hpa.sh, ha.sh⟩, mulC_of (a := 1900) (b := 2) (by simpa using x19) (by decide) (by omega) (by omega) (by omega), by omega, ?_⟩
        refine fraction_to (by omega) trivial ?_
        rw [hqd, hX]
    obtain ⟨rfl, rfl⟩ := hs
    refine ex_first (ex_yes ?_ ex_raise)
    simp
    refine fraction_text_to fq.fb ?_
    simp [eqv_S, hq _ fq]
    exact ⟨(frL_asc _).sh, ha.sh⟩
  · refine ex_first (ex_yes ?_ ex_raise)
    simp
    refine is_number_val aa (by omega) ?_
    by_cases na : isNum a
    · simp [na]
      refine is_number_val ab' (by omega) ?_
      by_cases nb : isNum b'
      · have nz : b' = [48] := Classical.byContradiction fun z => hn ⟨na, nb, z⟩
        simp [nb, eqv_S, nz]
        exact .inr ⟨nz ▸ nb, str_sh (by decide +kernel)⟩
      · simp [nb]
    · simp [na]
theorem read_fraction_any {l : List Nat} (ha : Asc l) (hl : l.length ≤ 1000000) : (∃ q, F40 q ∧ frL q = l) ∨ m_read_fraction [.str (S l)] = .ex bad0 := by
  by_cases h : ∃ q, F40 q ∧ frL q = l
  · exact .inl h
  · exact .inr (read_fraction_bad ha hl fun q f e => h ⟨q, f, e⟩)
theorem read_power_any {l : List Nat} (ha : Asc l) (hl : l.length ≤ 1000000) {P : PyData → Prop} (h0 : P .none) (h1 : ∀ k : Nat, 1 ≤ k → k ≤ 24 → P (.int k)) : (m_read_power [.str (S l)]).To P := by
  unfold m_read_power
  rw [pure_to]
  unfold b_read_power
  by_cases hx : l = [120]
  · subst hx
    simp [startL, eqv_S]
    exact ⟨str_sh (by decide +kernel), h1 1 (by omega) (by omega)⟩
  simp [startL, eqv_S, hx]
  refine ⟨⟨ha.sh, str_sh (by decide +kernel)⟩, ?_⟩
  by_cases hs : Txt.startswith (S l) (S [120, 94]) = true
  · simp [hs]
    rw [to_slS (by rw [S_len]; omega), cut_from (by omega)]
    simp
    have hd : Asc (l.drop 2) := fun c hc => ha c (List.mem_of_mem_drop hc)
    have hdl : (l.drop 2).length ≤ 1000000 := by simp; omega
    refine is_number_val hd (by omega) ?_
    by_cases hn : isNum (l.drop 2)
    · obtain ⟨x, hx, ex⟩ := num_of hn
      have lx := hn.2.1
      simp [hn]
      rw [to_slS (by rw [S_len]; omega), cut_from (by omega)]
      simp
      have hl2 := hn.2.1
      simp at hl2
      refine ⟨(x : Int), by rw [ex]; exact int_of hx, by omega, ?_⟩
      simp [eChain, c_MOST]
      by_cases h2 : 2 ≤ x
      · rw [if_pos (by omega)]
        by_cases h24 : x ≤ 24
        · exact .inr ⟨by omega, h1 x (by omega) h24⟩
        · exact .inl ⟨by omega, h0⟩
      · rw [if_neg (by omega)]
        exact h0
    · simp [hn]
      exact h0
  · have hs' : Txt.startswith (S l) (S [120, 94]) = false := eq_false_of_ne_true hs
    simp [hs']
    exact h0
end NW
namespace NW
open PySem PySem.Spec PyProof.Rows L2
def wsD (ws : List (List Nat)) : List PyData := ws.map fun l => .str (S l)
theorem cutD_init {xs : List PyData} {x : PyData} : cutD (xs ++ [x]) none (some (-1)) = xs := by
  unfold cutD
  simp [HT.sIx]
  rw [show (-1 + ((xs.length : Int) + 1)).toNat = xs.length by omega]
  simp
theorem idx_snoc {xs : List PyData} {x : PyData} : ((idxN (xs ++ [x]).length (-1)).bind fun j => (xs ++ [x])[j]?) = some x := by
  have h : idxN (xs ++ [x]).length (-1) = some xs.length := by
    rw [idx_last (by simp)]
    simp
  rw [h]
  simp
theorem to_then {a b : MS} {l : NW.Loc} {st : Sto} {N : NW.Loc → Sto → Prop} {R : U → Sto → Prop} (M : NW.Loc → Sto → Prop) (h1 : (a l st).To M fun _ _ => False) (h2 : ∀ l s, M l s → (b l s).To N R) : (sSeq a b l st).To N R := by
  rw [to_sSeq]
  exact h1.mono h2 fun _ _ z => z.elim
theorem read_words_any {ws : List (List Nat)} (h0 : ws ≠ []) (hn : ws.length ≤ 1000000) (ha : ∀ w, w ∈ ws → Asc w ∧ w.length ≤ 1000000) :
    (∃ (r : Rat) (k : Nat), F40 r ∧ k ≤ 24 ∧ (m_read_words [.list (wsD ws)]).To fun d => d = .tuple [fracD r, .int k]) ∨ m_read_words [.list (wsD ws)] = .ex bad0 := by
  obtain ⟨init, w, rfl⟩ : ∃ init w, ws = init ++ [w] := by
    rcases List.eq_nil_or_concat ws with h | ⟨l, b, h⟩
    · exact absurd h h0
    · exact ⟨l, b, by rw [h]; simp⟩
  have hw := ha w (by simp)
  have eD : wsD (init ++ [w]) = wsD init ++ [.str (S w)] := by simp [wsD]
  obtain ⟨k, hk, hp⟩ : ∃ k : Nat, k ≤ 24 ∧ (m_read_power [.str (S w)]).To fun d => d = if k = 0 then .none else .int k := by
    have := read_power_any (P := fun d => d = .none ∨ ∃ k : Nat, 1 ≤ k ∧ k ≤ 24 ∧ d = .int k) hw.1 hw.2 (.inl rfl) fun k a b => .inr ⟨k, a, b, rfl⟩
    cases e : m_read_power [.str (S w)] with
    | ok d f =>
      rw [e] at this
      rcases this with rfl | ⟨k, k1, k2, rfl⟩
      · exact ⟨0, by omega, rfl⟩
      · exact ⟨k, k2, by show _ = _; rw [if_neg (by omega)]⟩
    | ex x => rw [e] at this; exact this.elim
    | no => rw [e] at this; exact this.elim
  obtain ⟨R, hR, hRd⟩ : ∃ R : List (List Nat), R = (if k = 0 then init ++ [w] else init) ∧ ∀ v, v ∈ R → v ∈ init ++ [w] := ⟨_, rfl, fun v hv => by
    split at hv
    · exact hv
    · simp [hv]⟩
  have s1 : ∀ {N : NW.Loc → Sto → Prop}, N [some (.d (.list (wsD (init ++ [w])))), some (.d (if k = 0 then .none else .int k)), none] ⟨none, []⟩ → (sAsg 1 (eCallP 1 m_read_power (aCons (eOp fIx (eVar 0) (eC (.int (-1)))) aNil)) (startL 3 (List.map U.d [.list (wsD (init ++ [w]))])) ⟨none, []⟩).To N fun _ _ => False := by
    intro N h
    simp [startL]
    rw [eD]
    refine ⟨_, idx_snoc, ?_⟩
    refine hp.mono ?_
    rintro _ rfl
    rw [← eD]
    exact h
  have s2 : ∀ {N : NW.Loc → Sto → Prop}, N [some (.d (.list (wsD (init ++ [w])))), some (.d (.int k)), none] ⟨none, []⟩ → (sIf (bTest (eOp (fIsN false) (eVar 1) (eC .none))) (sAsg 1 (eC (.int 0))) sNext [some (.d (.list (wsD (init ++ [w])))), some (.d (if k = 0 then .none else .int k)), none] ⟨none, []⟩).To N fun _ _ => False := by
    intro N h
    by_cases hk0 : k = 0
    · subst hk0
      simp [isNon]
      exact h
    · rw [if_neg hk0]
      simp [isNon]
      exact h
  have s3 : ∀ {N : NW.Loc → Sto → Prop}, N [some (.d (.list (wsD (init ++ [w])))), some (.d (.int k)), some (.d (.list (wsD R)))] ⟨none, []⟩ → (sIf (bTest (eOp fGt (eVar 1) (eC (.int 0)))) (sAsg 2 (eSlAny (eVar 0) oNone (oSome (eC (.int (-1)))))) sNext [some (.d (.list (wsD (init ++ [w])))), some (.d (.int k)), some (.d (.list (wsD (init ++ [w]))))] ⟨none, []⟩).To N fun _ _ => False := by
    intro N h
    by_cases hk0 : k = 0
    · rw [if_pos hk0] at hR
      subst hR
      simp [hk0]
      simpa [hk0] using h
    · rw [if_neg hk0] at hR
      have hk1 : 0 < k := by omega
      subst hR
      simp [hk1]
      have e3 : cutD (wsD (R ++ [w])) none (some (-1)) = wsD R := by rw [eD, cutD_init]
      rw [e3]
      exact h
  have hRn : R.length ≤ 1000000 := by rw [hR]; split <;> (simp at hn ⊢; omega)
  have hRw : (wsD R).length = R.length := by simp [wsD]
  by_cases h2 : 1 < R.length
  · refine .inr ?_
    unfold m_read_words
    refine ex_pure ?_
    unfold b_read_words
    refine ex_then _ (s1 (N := fun l s => l = _ ∧ s = _) ⟨rfl, rfl⟩) fun l s hs => ?_
    obtain ⟨rfl, rfl⟩ := hs
    refine ex_then _ (s2 (N := fun l s => l = _ ∧ s = _) ⟨rfl, rfl⟩) fun l s hs => ?_
    obtain ⟨rfl, rfl⟩ := hs
    refine ex_then (fun l s => l = [some (.d (.list (wsD (init ++ [w])))), some (.d (.int k)), some (.d (.list (wsD (init ++ [w]))))] ∧ s = ⟨none, []⟩) (by simp) fun l s hs => ?_
    obtain ⟨rfl, rfl⟩ := hs
    refine ex_then _ (s3 (N := fun l s => l = _ ∧ s = _) ⟨rfl, rfl⟩) fun l s hs => ?_
    obtain ⟨rfl, rfl⟩ := hs
    refine ex_first (ex_yes ?_ ex_raise)
    simp [hRw]
    omega
  have hbad : ¬ (R = [] ∧ k = 0) := fun z => by
    rw [z.1, if_pos z.2] at hR
    simp at hR
  cases R with
  | nil =>
    have hk1 : k ≠ 0 := fun z => hbad ⟨rfl, z⟩
    refine .inl ⟨1, k, by unfold F40; decide, hk, ?_⟩
    unfold m_read_words
    rw [pure_to]
    unfold b_read_words
    refine to_then _ (s1 (N := fun l s => l = _ ∧ s = _) ⟨rfl, rfl⟩) fun l s hs => ?_
    obtain ⟨rfl, rfl⟩ := hs
    refine to_then _ (s2 (N := fun l s => l = _ ∧ s = _) ⟨rfl, rfl⟩) fun l s hs => ?_
    obtain ⟨rfl, rfl⟩ := hs
    refine to_then (fun l s => l = [some (.d (.list (wsD (init ++ [w])))), some (.d (.int k)), some (.d (.list (wsD (init ++ [w]))))] ∧ s = ⟨none, []⟩) (by simp) fun l s hs => ?_
    obtain ⟨rfl, rfl⟩ := hs
    refine to_then _ (s3 (N := fun l s => l = _ ∧ s = _) ⟨rfl, rfl⟩) fun l s hs => ?_
    obtain ⟨rfl, rfl⟩ := hs
    have hk2 : 0 < k := by omega
    simp [wsD, hk1]
    simp [fracD]
  | cons v R' =>
    have hv : R' = [] := by
      cases R' with
      | nil => rfl
      | cons a b => simp at h2
    subst hv
    have hva := ha v (hRd v (by simp))
    rcases read_fraction_any hva.1 hva.2 with ⟨q, fq, eq⟩ | hx
    · refine .inl ⟨q, k, fq, hk, ?_⟩
      unfold m_read_words
      rw [pure_to]
      unfold b_read_words
      refine to_then _ (s1 (N := fun l s => l = _ ∧ s = _) ⟨rfl, rfl⟩) fun l s hs => ?_
      obtain ⟨rfl, rfl⟩ := hs
      refine to_then _ (s2 (N := fun l s => l = _ ∧ s = _) ⟨rfl, rfl⟩) fun l s hs => ?_
      obtain ⟨rfl, rfl⟩ := hs
      refine to_then (fun l s => l = [some (.d (.list (wsD (init ++ [w])))), some (.d (.int k)), some (.d (.list (wsD (init ++ [w]))))] ∧ s = ⟨none, []⟩) (by simp) fun l s hs => ?_
      obtain ⟨rfl, rfl⟩ := hs
      refine to_then _ (s3 (N := fun l s => l = _ ∧ s = _) ⟨rfl, rfl⟩) fun l s hs => ?_
      obtain ⟨rfl, rfl⟩ := hs
      simp [wsD]
      rw [← eq]
      exact read_fraction_to fq rfl
    · refine .inr ?_
      unfold m_read_words
      refine ex_pure ?_
      unfold b_read_words
      refine ex_then _ (s1 (N := fun l s => l = _ ∧ s = _) ⟨rfl, rfl⟩) fun l s hs => ?_
      obtain ⟨rfl, rfl⟩ := hs
      refine ex_then _ (s2 (N := fun l s => l = _ ∧ s = _) ⟨rfl, rfl⟩) fun l s hs => ?_
      obtain ⟨rfl, rfl⟩ := hs
      refine ex_then (fun l s => l = [some (.d (.list (wsD (init ++ [w])))), some (.d (.int k)), some (.d (.list (wsD (init ++ [w]))))] ∧ s = ⟨none, []⟩) (by simp) fun l s hs => ?_
      obtain ⟨rfl, rfl⟩ := hs
      refine ex_then _ (s3 (N := fun l s => l = _ ∧ s = _) ⟨rfl, rfl⟩) fun l s hs => ?_
      obtain ⟨rfl, rfl⟩ := hs
      refine ex_then (fun l s => l = [some (.d (.list (wsD (init ++ [w])))), some (.d (.int k)), some (.d (.list (wsD [v])))] ∧ s = ⟨none, []⟩) (by simp [wsD]) fun l s hs => ?_
      obtain ⟨rfl, rfl⟩ := hs
      refine ex_then (fun l s => l = [some (.d (.list (wsD (init ++ [w])))), some (.d (.int k)), some (.d (.list (wsD [v])))] ∧ s = ⟨none, []⟩) (by simp [wsD]) fun l s hs => ?_
      obtain ⟨rfl, rfl⟩ := hs
      have e4 : fCallX 1 m_read_fraction [.d (.str (S v))] (⟨none, []⟩ : Sto) = .ex bad0 ⟨none, []⟩ := ex_callX hx
      refine ex_ret (s := ⟨none, []⟩) ?_
      have e5 : eCallX 1 m_read_fraction (aCons (eOp fIx (eVar 2) (eC (.int 0))) aNil) [some (.d (.list (wsD (init ++ [w])))), some (.d (.int k)), some (.d (.list (wsD [v])))] (⟨none, []⟩ : Sto) = .ex bad0 ⟨none, []⟩ := e4
      unfold eTup
      have e6 : aCons (eCallX 1 m_read_fraction (aCons (eOp fIx (eVar 2) (eC (.int 0))) aNil)) (aCons (eVar 1) aNil) [some (.d (.list (wsD (init ++ [w])))), some (.d (.int k)), some (.d (.list (wsD [v])))] (⟨none, []⟩ : Sto) = .ex bad0 ⟨none, []⟩ := by
        unfold aCons
        unfold aCons at e5
        rw [e5]
        rfl
      rw [e6]
      rfl
end NW
namespace NW
open PySem PySem.Spec PyProof.Rows L2
def Gd (p : Pol) : Prop := p.ts.length ≤ 25 ∧ ∀ k, F40 (p.co k)
def PtOk (N : Nat) (x : Int × List Str) : Prop := (x.1 = 1 ∨ x.1 = -1) ∧ ∃ ws : List (List Nat), x.2 = ws.map S ∧ (∀ w, w ∈ ws → Asc w ∧ w.length ≤ 1000000) ∧ ws.length ≤ N
theorem pLoop_ok {N : Nat} : ∀ {ps : List (List Nat)} {xs : List (Int × List Str)} {s : Int} {ws : List (List Nat)}, (∀ x, x ∈ xs → PtOk N x) → (s = 1 ∨ s = -1) → (∀ w, w ∈ ws → Asc w ∧ w.length ≤ 1000000) → (∀ w, w ∈ ps → Asc w ∧ w.length ≤ 1000000) → ws.length + ps.length ≤ N →
    (∀ x, x ∈ pLoop xs s (ws.map S) (ps.map S) → PtOk N x) ∧ (pLoop xs s (ws.map S) (ps.map S)).length ≤ xs.length + 1 + ps.length
  | [], xs, s, ws, hx, hs, hw, _, hn => by
    rw [List.map_nil, pLoop]
    refine ⟨fun x h => ?_, by simp⟩
    rcases List.mem_append.mp h with h | h
    · exact hx x h
    · have : x = (s, ws.map S) := by simpa using h
      subst this
      exact ⟨hs, ws, rfl, hw, by simp at hn; omega⟩
  | p :: ps, xs, s, ws, hx, hs, hw, hp, hn => by
    rw [List.map_cons, pLoop]
    simp only [List.length_cons] at hn
    split
    · have hx' : ∀ x, x ∈ xs ++ [(s, ws.map S)] → PtOk N x := fun x h => by
        rcases List.mem_append.mp h with h | h
        · exact hx x h
        · have : x = (s, ws.map S) := by simpa using h
          subst this
          exact ⟨hs, ws, rfl, hw, by omega⟩
      have := pLoop_ok (ps := ps) (xs := xs ++ [(s, ws.map S)]) (s := if S p = "-" then -1 else 1) (ws := []) hx' (by split <;> simp) (by simp) (fun w h => hp w (by simp [h])) (by simp; omega)
      refine ⟨this.1, Nat.le_trans this.2 (by simp; omega)⟩
    · have e : ws.map S ++ [S p] = (ws ++ [p]).map S := by simp
      rw [e]
      have := pLoop_ok (ps := ps) (xs := xs) (s := s) (ws := ws ++ [p]) hx hs (fun w h => by
        rcases List.mem_append.mp h with h | h
        · exact hw w h
        · have : w = p := by simpa using h
          subst this; exact hp w (by simp)) (fun w h => hp w (by simp [h])) (by simp; omega)
      exact ⟨this.1, Nat.le_trans this.2 (by simp)⟩
theorem spl_plen {S' : List Nat} : ∀ {l : List Nat} {k : Nat} {acc p : List Nat}, p ∈ TL.spl S' k acc l → p.length ≤ acc.length + l.length := by
  intro l
  induction l with
  | nil => intro k acc p hp; rw [TL.spl_nil] at hp; have : p = acc := by simpa using hp
           subst this; simp
  | cons d l ih =>
    intro k acc p hp
    cases k with
    | succ k =>
      have hp' : p ∈ TL.spl S' k acc l := hp
      have := ih hp'
      simp; omega
    | zero =>
      by_cases h : TL.pre S' (d :: l) = true
      · rw [TL.spl_hit h] at hp
        rcases List.mem_cons.mp hp with rfl | hp
        · simp
        · have := ih hp
          simp at this ⊢; omega
      · rw [TL.spl_miss (eq_false_of_ne_true h)] at hp
        have := ih hp
        simp at this ⊢; omega
theorem parts_ok {l : List Nat} (ha : Asc l) (hl : l.length ≤ 900000) : (∀ x, x ∈ partsOf (S l) → PtOk 1000000 x) ∧ (partsOf (S l)).length ≤ 1000000 := by
  have key : ∀ (p : List Nat) (s : Int), (s = 1 ∨ s = -1) → Asc p → p.length ≤ 900000 → (∀ x, x ∈ pLoop [] s [] (Txt.split (S p) " ") → PtOk 1000000 x) ∧ (pLoop [] s [] (Txt.split (S p) " ")).length ≤ 1000000 := by
    intro p s hs hp hpl
    have e : Txt.split (S p) " " = (TL.spl [32] 0 [] p).map S := by
      rw [c_blank]
      exact SX.split_S (a := p) (b := [32]) (by simp) (by decide)
    have sl : (TL.spl [32] 0 [] p).length ≤ p.length + 1 := spl_len
    have := pLoop_ok (N := 1000000) (ps := TL.spl [32] 0 [] p) (xs := []) (s := s) (ws := []) (by simp) hs (by simp) (fun w hw => ⟨fun c hc => (spl_mem hw hc).elim (fun z => by simp at z) (hp c), by have := spl_plen hw; simp at this; omega⟩) (by simp; omega)
    rw [e]
    exact ⟨this.1, by have := this.2; simp at this ⊢; omega⟩
  unfold partsOf
  split
  · rw [cut_from (by omega)]
    refine key _ _ (.inr rfl) (fun c hc => ha c (List.mem_of_mem_drop hc)) (by simp; omega)
  · exact key _ _ (.inl rfl) ha hl
theorem first_bad {α : Type} {G : α → Prop} : ∀ {xs : List α}, (∀ x, x ∈ xs → G x) ∨ ∃ (n : Nat) (x : α), xs[n]? = some x ∧ ¬ G x ∧ ∀ (m : Nat) (y : α), m < n → xs[m]? = some y → G y
  | [] => .inl (by simp)
  | a :: xs => by
    by_cases h : G a
    · rcases first_bad (G := G) (xs := xs) with z | ⟨n, x, h1, h2, h3⟩
      · exact .inl fun x hx => by
          rcases List.mem_cons.mp hx with rfl | hx
          · exact h
          · exact z x hx
      · refine .inr ⟨n + 1, x, by simpa using h1, h2, fun m y hm hy => ?_⟩
        cases m with
        | zero => simp at hy; subst hy; exact h
        | succ m => exact h3 m y (by omega) (by simpa using hy)
    · exact .inr ⟨0, a, rfl, h, fun m y hm => by omega⟩
def PtGood (x : Int × List Str) : Prop := x.2 ≠ [] ∧ ∃ (r : Rat) (k : Nat), F40 r ∧ k ≤ 24 ∧ (m_read_words [.list (x.2.map .str)]).To fun d => d = .tuple [fracD r, .int k]
theorem pt_bad {x : Int × List Str} (h : PtOk 1000000 x) (hg : ¬ PtGood x) : x.2 = [] ∨ m_read_words [.list (x.2.map .str)] = .ex bad0 := by
  obtain ⟨_, ws, e, hw, hn⟩ := h
  by_cases h0 : ws = []
  · left; rw [e, h0]; rfl
  · right
    have e2 : x.2.map PyData.str = wsD ws := by rw [e, List.map_map]; rfl
    rw [e2]
    rcases read_words_any h0 hn hw with ⟨r, k, f, hk, z⟩ | z
    · exact absurd ⟨by rw [e]; simpa using h0, r, k, f, hk, by rw [e2]; exact z⟩ hg
    · exact z
end NW
namespace NW
open PySem PySem.Spec PyProof.Rows L2
theorem ofC_Gd {qs : List Rat} (hl : qs.length = 25) (hq : ∀ q, q ∈ qs → F40 q) : Gd (ofC qs) := by
  refine ⟨by have := ofC_len (qs := qs); omega, fun k => ?_⟩
  rw [co_ofC, List.getD_eq_getElem?_getD]
  cases e : qs[k]? with
  | none => show F40 0; unfold F40; decide
  | some q => exact hq q (List.mem_of_getElem? e)
noncomputable def rpBody : MS := (sSeq (sIf (bTest (eOp (opEq false) (eCB cLen (aCons (eVar 3) aNil)) (eC (.int 0)))) (sRaise1 ("BadText" : Str) ("at" : Str) (eC (.int 0))) sNext)
    (sSeq (sAsgG (eCallX 1 m_read_words (aCons (eVar 3) aNil)) (gTupM 2 (gConsM (gNameM 4) (gConsM (gNameM 5) gNilM))))
    (sAsgG (eTup (aCons (eOp fMulA (eVar 2) (eOp fIx (eVar 4) (eC (.int 0)))) (aCons (eOp fIx (eVar 4) (eC (.int 1))) aNil))) (gSubM (eVar 1) (eVar 5)))))
theorem sgn_F40 {s : Int} (hs : s = 1 ∨ s = -1) {r : Rat} (h : F40 r) : ∃ q, F40 q ∧ PyData.tuple [.int (s * r.num), .int r.den] = fracD q := by
  rcases hs with rfl | rfl
  · exact ⟨r, h, by simp [fracD]⟩
  · exact ⟨-r, ⟨by simpa using h.1, by simpa using h.2⟩, by simp [fracD]⟩
def RpI (l0 : List Nat) (l : NW.Loc) (st : Sto) : Prop := ∃ (a b c d e : Option U) (qs : List Rat), l = [some (.d (.str (S l0))), some (.ref 0), a, b, c, d, e] ∧ st = ⟨none, [.lst (qs.map fracD)]⟩ ∧ qs.length = 25 ∧ ∀ q, q ∈ qs → F40 q
theorem rp_step {l0 : List Nat} {x : Int × List Str} (hx : PtOk 1000000 x) (hg : PtGood x) {l : NW.Loc} {st : Sto} (h : RpI l0 l st) :
    (gTupM 2 (gConsM (gNameM 2) (gConsM (gNameM 3) gNilM)) (.d (pD x)) l st).To fun l s => (rpBody l s).To (RpI l0) fun _ _ => False := by
  obtain ⟨a, b, c, d, e, qs, rfl, rfl, hl, hq⟩ := h
  obtain ⟨hw, r, k, fr, hk, hr⟩ := hg
  have wn : ¬ (x.2.map PyData.str) = [] := by simpa using hw
  have wl : (x.2.map PyData.str).length ≤ 16777216 := by
    obtain ⟨_, ws, e, _, hn⟩ := hx
    rw [e]; simp; omega
  generalize hW : x.2.map PyData.str = W at wn wl hr
  obtain ⟨q, fq, eq⟩ := sgn_F40 hx.1 fr
  have hs := hx.1
  simp [pD, hW, rpBody, wn]
  refine hr.mono ?_
  rintro _ rfl
  simp [fracD]
  refine ⟨mulC_of (a := 2) (b := 1900) (by rcases hs with z | z <;> rw [z] <;> decide) fr.fb.1 (by omega) (by omega) (by omega), k, ?_, ?_⟩
  · rw [hl]
    exact idxN_nat (by omega)
  · refine ⟨_, _, _, _, _, qs.set k q, rfl, ?_, by simpa using hl, fun p hp => ?_⟩
    · rw [eq]
      simp [fracD, List.map_set]
    · rcases List.mem_or_eq_of_mem_set hp with z | z
      · exact hq p z
      · rw [z]; exact fq
theorem rp_bad {l0 : List Nat} {x : Int × List Str} (hx : PtOk 1000000 x) (hg : ¬ PtGood x) {l : NW.Loc} {st : Sto} (h : RpI l0 l st) :
    (gTupM 2 (gConsM (gNameM 2) (gConsM (gNameM 3) gNilM)) (.d (pD x)) l st).To fun l s => (rpBody l s).Ex bad0 := by
  obtain ⟨a, b, c, d, e, qs, rfl, rfl, hl, hq⟩ := h
  have wl : (x.2.map PyData.str).length ≤ 16777216 := by
    obtain ⟨_, ws, e, _, hn⟩ := hx
    rw [e]; simp; omega
  have hb := pt_bad hx hg
  simp [pD]
  unfold rpBody
  by_cases h0 : x.2 = []
  · refine ex_first (ex_yes ?_ ex_raise)
    simp [h0]
  · have hr := hb.resolve_left h0
    have wn : ¬ (x.2.map PyData.str) = [] := by simpa using h0
    generalize hW : x.2.map PyData.str = W at wn wl hr
    refine ex_then (fun l s => l = [some (.d (.str (S l0))), some (.ref 0), some (.d (.int x.1)), some (.d (.list W)), c, d, e] ∧ s = ⟨none, [.lst (qs.map fracD)]⟩) ?_ fun l s hs => ?_
    · simp [hW, wn]
    obtain ⟨rfl, rfl⟩ := hs
    exact ex_first (ex_asg (s := ⟨none, [.lst (qs.map fracD)]⟩) (ex_callX hr))
theorem ex_sFor {mi : MI} {t : MT} {b : MS} {l : NW.Loc} {st : Sto} {e : Exc} (h : (mi l st).To fun d s => (forM d t b d.items l s).Ex e) : (sFor mi t b l st).Ex e := by
  unfold sFor
  cases h1 : mi l st with
  | ok d s => rw [h1] at h; exact h
  | ex x s => rw [h1] at h; exact h.elim
  | no => rw [h1] at h; exact h.elim
theorem nx_of {o : Out} {M : NW.Loc → Sto → Prop} (h : o.To M fun _ _ => False) : ∃ l s, o = .nx l s ∧ M l s := by
  cases o with
  | nx l s => exact ⟨l, s, rfl, h⟩
  | rt u s => exact h.elim
  | bk l s => exact h.elim
  | ct l s => exact h.elim
  | ex e l s => exact h.elim
  | no => exact h.elim
theorem read_poly_any {l : List Nat} (ha : Asc l) (hl : l.length ≤ 900000) :
    (∃ p, Gd p ∧ poL p = l ∧ (m_read_poly [.str (S l)]).To fun d => d = polyD p) ∨ m_read_poly [.str (S l)] = .ex bad0 := by
  obtain ⟨ho, hn⟩ := parts_ok ha hl
  have start : ∀ {N : NW.Loc → Sto → Prop}, (∀ l' s, RpI l l' s → N l' s) → (sAsg 1 (eOwn (lOp fRep (eFrz (lDisp (aCons (eTup (aCons (eC (.int 0)) (aCons (eC (.int 1)) aNil))) aNil))) (eOp fAddA (eC c_MOST) (eC (.int 1))))) (startL 7 (List.map U.d [.str (S l)])) ⟨none, []⟩).To N fun _ _ => False := by
    intro N h
    simp [startL, c_MOST]
    refine h _ _ ⟨_, _, _, _, _, List.replicate 25 0, rfl, ?_, by simp, fun q hq => ?_⟩
    · rw [List.map_replicate]; rfl
    · rw [List.eq_of_mem_replicate hq]; unfold F40; decide
  rcases first_bad (G := PtGood) (xs := partsOf (S l)) with hg | ⟨n, x, hx, hb, hlt⟩
  · have loop : ∀ {N : NW.Loc → Sto → Prop} {l' : NW.Loc} {s : Sto}, RpI l l' s → (∀ l' s, RpI l l' s → N l' s) → (sFor (mAny (eCallP 1 m_parted (aCons (eVar 0) aNil))) (gTupM 2 (gConsM (gNameM 2) (gConsM (gNameM 3) gNilM))) rpBody l' s).To N fun _ _ => False := by
      intro N l' s hI hN
      have hI' := hI
      obtain ⟨a, b, c, d, e, qs, rfl, rfl, h1, h2⟩ := hI'
      simp
      refine parted_to (by rw [S_len]; omega) ha.ok ?_
      simp
      refine for_ix (fun _ => RpI l) (fun _ _ _ _ => chk_nil) hI ?_ fun l' s h => hN l' s h
      intro k x l' s hx h
      rw [List.getElem?_map] at hx
      cases e : (partsOf (S l))[k]? with
      | none => rw [e] at hx; cases hx
      | some y =>
        rw [e] at hx
        cases hx
        have hm := List.mem_of_getElem? e
        exact rp_step (ho y hm) (hg y hm) h
    obtain ⟨l1, st1, e1, I1⟩ := nx_of (start (N := RpI l) fun _ _ h => h)
    obtain ⟨l2, st2, e2, I2⟩ := nx_of (loop (N := RpI l) I1 fun _ _ h => h)
    obtain ⟨a, b, c, d, e, qs, rfl, rfl, h1, h2⟩ := I2
    have run : b_read_poly (startL 7 (List.map U.d [.str (S l)])) ⟨none, []⟩ = (sSeq (sAsg 6 (eCallP 1 m_poly (aCons (eVar 1) aNil)))
    (sSeq (sIf (bTest (eOp (opEq true) (eCallP 1 m_poly_text (aCons (eVar 6) aNil)) (eVar 0)))
    (sRaise1 ("BadText" : Str) ("at" : Str) (eC (.int 0)))
    sNext)
    (sRet (eVar 6)))) [some (.d (.str (S l))), some (.ref 0), a, b, c, d, e] ⟨none, [.lst (qs.map fracD)]⟩ := by
      unfold b_read_poly
      show Out.seq _ _ = _
      rw [e1]
      show Out.seq (sFor _ _ rpBody l1 st1) _ = _
      rw [e2]
      rfl
    have G := ofC_Gd h1 h2
    have gp := G.1
    have s6 : ∀ {N : NW.Loc → Sto → Prop} {R : U → Sto → Prop}, N [some (.d (.str (S l))), some (.ref 0), a, b, c, d, some (.d (polyD (ofC qs)))] ⟨none, [.lst (qs.map fracD)]⟩ → (sAsg 6 (eCallP 1 m_poly (aCons (eVar 1) aNil)) [some (.d (.str (S l))), some (.ref 0), a, b, c, d, e] ⟨none, [.lst (qs.map fracD)]⟩).To N R := by
      intro N R h
      simp
      refine poly_to (.inl rfl) (n := 1900) (fun q hq => (h2 q hq).fb) (by rw [h1]; omega) (by omega) (by omega) (by omega) ?_
      exact ⟨noLst_poly, h⟩
    by_cases hp : poL (ofC qs) = l
    · refine .inl ⟨ofC qs, G, hp, ?_⟩
      unfold m_read_poly
      rw [pure_to, run]
      refine cut (fun l' s => l' = _ ∧ s = _) (s6 ⟨rfl, rfl⟩) fun l' s hs => ?_
      obtain ⟨rfl, rfl⟩ := hs
      simp
      refine poly_text_toG (by omega) (fun k => (G.2 k).fb) ?_
      simp [eqv_S, hp]
      exact ha.sh
    · refine .inr ?_
      unfold m_read_poly
      refine ex_pure ?_
      rw [run]
      refine ex_then (fun l' s => l' = _ ∧ s = _) (s6 ⟨rfl, rfl⟩) fun l' s hs => ?_
      obtain ⟨rfl, rfl⟩ := hs
      refine ex_first (ex_yes ?_ ex_raise)
      simp
      refine poly_text_toG (by omega) (fun k => (G.2 k).fb) ?_
      simp [eqv_S, hp]
      exact ⟨(poL_asc _).sh, ha.sh⟩
  · refine .inr ?_
    unfold m_read_poly
    refine ex_pure ?_
    unfold b_read_poly
    refine ex_then _ (start (N := RpI l) fun _ _ h => h) fun l' s hI => ?_
    refine ex_first ?_
    refine ex_sFor ?_
    have hI' := hI
    obtain ⟨a, b, c, d, e, qs, rfl, rfl, h1, h2⟩ := hI'
    simp
    refine parted_to (by rw [S_len]; omega) ha.ok ?_
    simp
    refine ex_for (fun _ => RpI l) (n := n) (x := pD x) (fun _ _ _ _ => chk_nil) hI ?_ (by rw [List.getElem?_map, hx]; rfl) fun l' s h => rp_bad (ho x (List.mem_of_getElem? hx)) hb h
    intro k y l' s hk hy h
    rw [List.getElem?_map] at hy
    cases e : (partsOf (S l))[k]? with
    | none => rw [e] at hy; cases hy
    | some z =>
      rw [e] at hy
      cases hy
      exact rp_step (ho z (List.mem_of_getElem? e)) (hlt k z hk e) h
end NW
namespace NW
open PySem PySem.Spec PyProof.Rows L2
theorem poL_nil {p : Pol} (h : p.ts = []) : poL p = [48] := by
  unfold poL
  have : teL p p.ts.length = [] := by rw [h]; rfl
  rw [this]
theorem frL_inj {q r : Rat} (h : frL q = frL r) : q = r := by
  have d1 : ∀ n : Nat, (47 : Nat) ∉ TL.numL n := fun n => TL.numL_free (by omega)
  have sg : ∀ q : Rat, (q.num < 0 ↔ (frL q).head? = some 45) := fun q => by
    obtain ⟨c, s, e, hc⟩ := absL_head q
    rw [frL_abs, e]
    by_cases hq : q.num < 0
    · simp [hq]
    · simp [hq]
      omega
  have ha : absL q = absL r := by
    have h' := h
    rw [frL_abs, frL_abs] at h'
    by_cases hq : q.num < 0
    · have hr := (sg r).mpr (h ▸ (sg q).mp hq)
      rw [if_pos hq, if_pos hr] at h'
      simpa using h'
    · have hr : ¬ r.num < 0 := fun z => hq ((sg q).mpr (h.symm ▸ (sg r).mp z))
      rw [if_neg hq, if_neg hr] at h'
      simpa using h'
  have hs : q.num < 0 ↔ r.num < 0 := by rw [sg, sg, h]
  have pa := part_abs q
  rw [ha, part_abs r] at pa
  have pa' := congrArg (fun d : PyData => match d with | .tuple [.str a, .str b, .str c] => (TL.tl a, TL.tl b, TL.tl c) | _ => ([], [], [])) pa
  simp only [tl_S, Prod.mk.injEq] at pa'
  obtain ⟨e1, e2, e3⟩ := pa'
  have en := TL.numL_inj e1
  have ed : r.den = q.den := by
    by_cases hr : r.den = 1
    · by_cases hq : q.den = 1
      · omega
      · rw [if_pos hr, if_neg hq] at e2; cases e2
    · by_cases hq : q.den = 1
      · rw [if_neg hr, if_pos hq] at e2; cases e2
      · rw [if_neg hr, if_neg hq] at e3
        exact TL.numL_inj e3
  refine Rat.ext (by omega) ed.symm
theorem leL_inj {j k : Nat} (h : leL j = leL k) : j = k := by
  unfold leL at h
  by_cases hj : j = 1
  · by_cases hk : k = 1
    · omega
    · rw [if_pos hj, if_neg hk] at h; simp at h
  · by_cases hk : k = 1
    · rw [if_neg hj, if_pos hk] at h; simp at h
    · rw [if_neg hj, if_neg hk] at h
      exact TL.numL_inj (by simpa using h)
theorem frL_leL {q : Rat} {k : Nat} : frL q ≠ leL k := fun h => by
  obtain ⟨c, s, e, hc⟩ := frL_head q
  rw [e] at h
  unfold leL at h
  split at h
  · injection h with h1; omega
  · injection h with h1; omega
theorem wordsL_inj {q r : Rat} {j k : Nat} (h : wordsL q j = wordsL r k) : q = r ∧ j = k := by
  unfold wordsL at h
  by_cases hj : j = 0
  · by_cases hk : k = 0
    · rw [if_pos hj, if_pos hk] at h
      exact ⟨frL_inj (by simpa using h), by omega⟩
    · rw [if_pos hj, if_neg hk] at h
      by_cases hr : r = 1
      · rw [if_pos hr] at h
        exact absurd (by simpa using h) (frL_leL (q := q) (k := k))
      · rw [if_neg hr] at h
        simp at h
  · by_cases hk : k = 0
    · rw [if_neg hj, if_pos hk] at h
      by_cases hq : q = 1
      · rw [if_pos hq] at h
        have h' : leL j = frL r := by simpa using h
        exact absurd h'.symm frL_leL
      · rw [if_neg hq] at h
        simp at h
    · rw [if_neg hj, if_neg hk] at h
      by_cases hq : q = 1
      · by_cases hr : r = 1
        · rw [if_pos hq, if_pos hr] at h
          exact ⟨by rw [hq, hr], leL_inj (by simpa using h)⟩
        · rw [if_pos hq, if_neg hr] at h
          simp at h
      · by_cases hr : r = 1
        · rw [if_neg hq, if_pos hr] at h
          simp at h
        · rw [if_neg hq, if_neg hr] at h
          simp at h
          exact ⟨frL_inj h.1, leL_inj h.2⟩
theorem termD_inj {t u : Nat × Rat} (h : termD t = termD u) : t = u := by
  obtain ⟨j, q⟩ := t
  obtain ⟨k, r⟩ := u
  unfold termD at h
  obtain ⟨h1, h2⟩ := Prod.mk.inj h
  have h3 := congrArg (List.map TL.tl) h2
  rw [List.map_map, List.map_map] at h3
  have e : (TL.tl ∘ S) = id := funext fun l => tl_S l
  rw [e, List.map_id, List.map_id] at h3
  obtain ⟨h4, h5⟩ := wordsL_inj h3
  dsimp only at h1 h4 h5
  subst h5
  have h6 : q = r := by
    unfold sgn at h1
    unfold ab at h4
    by_cases hq : q < 0 <;> by_cases hr : r < 0
    · rw [if_pos hq, if_pos hr] at h4; grind
    · rw [if_pos hq, if_neg hr] at h1; omega
    · rw [if_neg hq, if_pos hr] at h1; omega
    · rw [if_neg hq, if_neg hr] at h4; exact h4
  rw [h6]
theorem parts_po {p : Pol} (h : p.ts ≠ []) : partsOf (S (poL p)) = (teL p p.ts.length).map termD := by
  have hl := List.length_pos_iff.mpr h
  have hn : teL p p.ts.length ≠ [] := fun z => by
    have : (p.ts.length - 1, p.co (p.ts.length - 1)) ∈ teL p p.ts.length := teL_mem.mpr ⟨by dsimp only; omega, rfl, co_lead h⟩
    rw [z] at this
    simp at this
  have e : poL p = accL (teL p p.ts.length) := by
    unfold poL
    split
    · rename_i e; exact absurd e hn
    · rfl
  rw [e]
  have hm : ∀ t, t ∈ teL p p.ts.length → t.2 ≠ 0 := fun t ht => (teL_mem.mp ht).2.2
  cases e : teL p p.ts.length with
  | nil => exact absurd e hn
  | cons t ts =>
    obtain ⟨k, r⟩ := t
    rw [e] at hm
    exact parts_acc hm
theorem parts_nought : partsOf (S [48]) = [termD (0, 0)] := by
  have : Txt.startswith (S [48]) "-" = false := by rw [c_minus, starts_S (by simp)]; rfl
  unfold partsOf
  rw [this, if_neg (by simp), show ([48] : List Nat) = TL.joinL [32] [[48]] from rfl, split_words (by simp) (by simp)]
  show pLoop [] 1 [] [S [48]] = _
  have hn : ¬ (S [48] = "+" ∨ S [48] = "-") := by rw [c_plus, c_minus]; simp [S_inj]
  rw [pLoop, if_neg hn, pLoop]
  unfold termD
  have : wordsL (ab 0) 0 = [[48]] := by decide +kernel
  simp [this, sgn]
theorem poL_inj {p q : Pol} (h : poL p = poL q) : p = q := by
  have key : ∀ p : Pol, ∃ T : List (Nat × Rat), partsOf (S (poL p)) = T.map termD ∧ ∀ k r, r ≠ 0 → ((k, r) ∈ T ↔ p.co k = r) := fun p => by
    by_cases hp : p.ts = []
    · refine ⟨[(0, 0)], by rw [poL_nil hp, parts_nought]; rfl, fun k r hr => ?_⟩
      have : p.co k = 0 := co_high (by rw [hp]; simp)
      rw [this]
      constructor
      · intro z; simp at z; exact absurd z.2 hr
      · intro z; exact absurd z.symm hr
    · refine ⟨teL p p.ts.length, parts_po hp, fun k r hr => ?_⟩
      rw [teL_mem]
      constructor
      · rintro ⟨_, h2, _⟩; exact h2.symm
      · intro z
        refine ⟨?_, z.symm, hr⟩
        refine Classical.byContradiction fun y => hr ?_
        rw [← z]
        exact co_high (by dsimp only at y; omega)
  obtain ⟨T, t1, t2⟩ := key p
  obtain ⟨U, u1, u2⟩ := key q
  have e : T = U := by
    have : T.map termD = U.map termD := by rw [← t1, ← u1, h]
    exact List.map_inj_right (fun _ _ => termD_inj) |>.mp this
  subst e
  refine Pol.ext_co fun k => ?_
  by_cases hp : p.co k = 0
  · by_cases hq : q.co k = 0
    · rw [hp, hq]
    · exact (t2 k _ hq).mp ((u2 k _ hq).mpr rfl)
  · exact ((u2 k _ hp).mp ((t2 k _ hp).mpr rfl)).symm
end NW
namespace NW
open PySem PySem.Spec PyProof.Rows L2
theorem someL_T {p : Pol} {T : List (Nat × Rat)} (hall : ∀ k, k < 25 → p.co k ≠ 0 → k ∈ T.map Prod.fst) : someL p T = ((List.range 25).map p.co).map fracD := by
  unfold someL
  rw [List.map_map]
  refine List.map_congr_left fun k hk => ?_
  show fracD _ = fracD (p.co k)
  split
  · rfl
  · rename_i h
    have : p.co k = 0 := Classical.byContradiction fun z => h (hall k (List.mem_range.mp hk) z)
    rw [this]
theorem read_poly_T {p : Pol} (h : Gd p) {T : List (Nat × Rat)} (hT : partsOf (S (NW.poL p)) = T.map termD) (hm : ∀ t, t ∈ T → t.1 < 25 ∧ t.2 = p.co t.1) (hall : ∀ k, k < 25 → p.co k ≠ 0 → k ∈ T.map Prod.fst) (hlen : (NW.poL p).length ≤ 1000000) {P : PyData → Prop} (hP : P (polyD p)) : (m_read_poly [.str (S (NW.poL p))]).To P := by
  unfold m_read_poly
  rw [pure_to]
  unfold b_read_poly
  refine cut (fun l s => l = [some (.d (.str (S (NW.poL p)))), some (.ref 0), none, none, none, none, none] ∧ s = ⟨none, [.lst (someL p [])]⟩) ?_ fun l s hs => ?_
  · simp [startL, c_MOST, someL_nil]
  obtain ⟨rfl, rfl⟩ := hs
  refine cut (fun l s => (∃ a b c d e, l = [some (.d (.str (S (NW.poL p)))), some (.ref 0), a, b, c, d, e]) ∧ s = ⟨none, [.lst (someL p T)]⟩) ?_ fun l s hs => ?_
  · simp
    refine parted_to (by rw [S_len]; omega) (poL_asc p).ok ?_
    rw [hT]
    simp
    obtain ⟨I, hI⟩ : ∃ I : Nat → NW.Loc → Sto → Prop, ∀ j l s, I j l s ↔ ∃ a b c d e, l = [some (.d (.str (S (NW.poL p)))), some (.ref 0), a, b, c, d, e] ∧ s = ⟨none, [.lst (someL p (T.take j))]⟩ := ⟨_, fun _ _ _ => Iff.rfl⟩
    refine for_ix I (fun _ _ _ _ => chk_nil) ((hI _ _ _).mpr ⟨none, none, none, none, none, rfl, rfl⟩) ?_ ?_
    · rintro j x l s hx h'
      obtain ⟨a, b, c, d, e, rfl, rfl⟩ := (hI _ _ _).mp h'
      rw [List.getElem?_map] at hx
      cases ht : T[j]? with
      | none => rw [ht] at hx; cases hx
      | some t =>
      rw [ht] at hx
      cases hx
      obtain ⟨h1, h2⟩ := hm t (List.mem_of_getElem? ht)
      have hl25 := h.1
      have hf : F40 t.2 := by rw [h2]; exact h.2 _
      have es : T.take (j + 1) = T.take j ++ [(t.1, p.co t.1)] := by
        rw [List.take_add_one, ht, ← h2]
        rfl
      have ew : ((wordsL (ab t.2) t.1).map S).map PyData.str = (wordsL (ab t.2) t.1).map fun l => .str (S l) := by rw [List.map_map]; rfl
      have wn : ((wordsL (ab t.2) t.1).map fun l => PyData.str (S l)) ≠ [] := by
        have := wordsL_ne (ab t.2) t.1
        simp [this]
      have wl : ((wordsL (ab t.2) t.1).map fun l => PyData.str (S l)).length ≤ 2 := by
        rw [List.length_map]
        unfold wordsL
        split
        · simp
        · split <;> simp
      generalize hW : ((wordsL (ab t.2) t.1).map fun l => PyData.str (S l)) = W at ew wn wl
      simp [pD, termD, ew, wn]
      rw [← hW]
      refine read_words_to hf.ab (by omega) ?_
      simp [fracD]
      have hs2 : sgn t.2 = 1 ∨ sgn t.2 = -1 := by unfold sgn; split <;> simp
      refine ⟨mulC_of (a := 2) (b := 1900) (by rcases hs2 with z | z <;> rw [z] <;> decide) hf.ab.fb.1 (by omega) (by omega) (by omega), t.1, ?_, ?_⟩
      · rw [show (someL p (T.take j)).length = 25 by unfold someL; simp]
        exact idxN_nat (by omega)
      · refine (hI _ _ _).mpr ⟨_, _, _, _, _, rfl, ?_⟩
        rw [sgn_ab, es, h2, someL_snoc (by omega)]
    · rintro l s h'
      obtain ⟨a, b, c, d, e, rfl, rfl⟩ := (hI _ _ _).mp h'
      rw [List.length_map, List.take_length]
      exact ⟨⟨a, b, c, d, e, rfl⟩, rfl⟩
  obtain ⟨⟨a, b, c, d, e, rfl⟩, rfl⟩ := hs
  simp
  rw [someL_T hall]
  refine poly_to (.inl rfl) (n := 1900) (fun q hq => ?_) (by simp) (by omega) (by omega) (by simp) ?_
  · obtain ⟨k, _, rfl⟩ := List.mem_map.mp hq
    exact (h.2 k).fb
  rw [ofC_co h.1]
  simp
  refine ⟨noLst_poly, ?_⟩
  refine poly_text_toG (by have := h.1; omega) (fun k => (h.2 k).fb) ?_
  simp [eqv_S]
  exact ⟨(poL_asc p).sh, hP⟩
theorem read_poly_gd {p : Pol} (h : Gd p) {P : PyData → Prop} (hP : P (polyD p)) : (m_read_poly [.str (S (poL p))]).To P := by
  by_cases h0 : p.ts = []
  · refine read_poly_T h (T := [(0, 0)]) (by rw [poL_nil h0, parts_nought]; rfl) (fun t ht => ?_) (fun k _ z => absurd (co_high (by rw [h0]; simp)) z) (by rw [poL_nil h0]; simp) hP
    have : t = (0, 0) := by simpa using ht
    subst this
    exact ⟨by decide, (co_high (by rw [h0]; simp)).symm⟩
  · exact read_poly_fw ⟨h.1, h0, h.2⟩ hP
end NW
namespace NW
open PySem PySem.Spec PyProof.Rows L2
@[simp] theorem c_hat : ("^" : Str) = S [94] := S_of (by decide +kernel)
theorem L_fraction_text_to {r : Rat} (h : FB 1900 r) {P : PyData → Prop} (hP : P (.str (S (frL r)))) : (m_L_fraction_text [fracD r]).To P := by
  unfold m_L_fraction_text
  rw [pure_to]
  unfold b_L_fraction_text
  have n1 := numOk_of h.1
  have n2 : numOk (r.den : Int) = true := numOk_of (by simpa using h.2)
  have e2 : intL (r.den : Int) = TL.numL r.den := by unfold intL; rw [if_neg (by omega)]; rfl
  have l1 := intL_len h.1
  have l2 := numL_len600 h.2
  unfold frL at hP
  simp [startL, fracD, n1, n2, numT_eq, e2]
  rw [to_addS (by simp; omega)]
  by_cases hd : r.den = 1
  · rw [if_pos hd] at hP
    refine ⟨_, rfl, (by show (2 : Nat) ≤ 16777216; decide), .str (S []), by simp [hd], ?_⟩
    rw [to_addS (by simp; omega)]
    simpa using hP
  · rw [if_neg hd] at hP
    have hd' : ¬ ((r.den : Int) = 1) := by omega
    refine ⟨_, rfl, (by show (2 : Nat) ≤ 16777216; decide), .str (S (47 :: TL.numL r.den)), by simp [hd', hd], ?_⟩
    rw [to_addS (by simp; omega)]
    exact hP
theorem L_letter_to {k : Nat} (h : k ≤ 1000) {P : PyData → Prop} (hP : P (.str (S (leL k)))) : (m_L_letter [.int k]).To P := by
  unfold m_L_letter
  rw [pure_to]
  unfold b_L_letter
  have n1 : numOk (k : Int) = true := numOk_of (by show k < 2 ^ 1900; exact Nat.lt_of_le_of_lt h (by decide +kernel))
  have e2 : intL (k : Int) = TL.numL k := by unfold intL; rw [if_neg (by omega)]; rfl
  have l4 := numL_len4 h
  unfold leL at hP
  simp [startL, n1, numT_eq, e2]
  rw [to_addS (by simp; omega)]
  by_cases hd : k = 1
  · rw [if_pos hd] at hP
    refine ⟨_, rfl, (by show (2 : Nat) ≤ 16777216; decide), .str (S []), by simp [hd], ?_⟩
    rw [to_addS (by simp)]
    simpa using hP
  · rw [if_neg hd] at hP
    have hd' : ¬ ((k : Int) = 1) := by omega
    refine ⟨_, rfl, (by show (2 : Nat) ≤ 16777216; decide), .str (S (94 :: TL.numL k)), by simp [hd', hd], ?_⟩
    rw [to_addS (by simp; omega)]
    exact hP
end NW
namespace NW
open PySem PySem.Spec PyProof.Rows L2
theorem frL_one {r : Rat} : frL r = [49] ↔ r = 1 := by
  have h1 : frL 1 = [49] := by decide +kernel
  constructor
  · intro h; exact frL_inj (h.trans h1.symm)
  · rintro rfl; exact h1
theorem FB.ab {n : Nat} {r : Rat} (h : FB n r) : FB n (ab r) := h.abs
theorem ab_parts {r : Rat} : PyData.tuple [.int (if r.num < 0 then -r.num else r.num), .int r.den] = fracD (ab r) := abs_frac
theorem L_poly_text_to {p : Pol} (hl : p.ts.length ≤ 1000) (h : ∀ k, FB 1900 (p.co k)) {P : PyData → Prop} (hP : P (.str (S (poL p)))) : (m_L_poly_text [polyD p]).To P := by
  unfold m_L_poly_text
  rw [pure_to]
  unfold b_L_poly_text
  have hbp := p.hb
  simp [startL, polyD]
  refine to_mR3n (i := (p.ts.length : Int) - 1) ?_
  simp
  refine ⟨decide_eq_true (by omega), ?_⟩
  obtain ⟨I, hI⟩ : ∃ I : Nat → NW.Loc → Sto → Prop, ∀ j l s, I j l s ↔ ∃ (v w x y : Option U), l = [some (.d (polyD p)), some (.d (.str (S (accL (hiL p p.ts.length j))))), v, w, x, y] ∧ s = ⟨none, []⟩ := ⟨_, fun _ _ _ => Iff.rfl⟩
  refine for_ix I (fun _ _ _ _ => chk_nil) ((hI _ _ _).mpr ⟨none, none, none, none, by simp [hiL, accL, polyD], rfl⟩) ?_ ?_
  · rintro j x l s hx h'
    obtain ⟨v, w, z, y, rfl, rfl⟩ := (hI _ _ _).mp h'
    have hj := (List.getElem?_eq_some_iff.mp hx).1
    simp [rangeD] at hj
    have ex : x = .int ((p.ts.length - 1 - j : Nat) : Int) := by
      simp only [rangeD] at hx
      rw [List.getElem?_map, List.getElem?_range (by omega)] at hx
      have e : PyData.int (((p.ts.length : Nat) : Int) - 1 + ((j : Nat) : Int) * (-1)) = x := Option.some.inj hx
      rw [← e]
      exact congrArg PyData.int (by omega)
    subst ex
    generalize hk : p.ts.length - 1 - j = k
    have hkl : k < p.ts.length := by omega
    have hs := hiL_succ (p := p) (n := p.ts.length) (i := j) (by omega)
    rw [hk] at hs
    simp only [to_gName]
    have la := accL_len (ts := hiL p p.ts.length j) fun t ht => by
      obtain ⟨h1, h2, _⟩ := hiL_mem ht
      rw [h2]
      exact ⟨h _, by omega⟩
    have ln := hiL_len (p := p) (n := p.ts.length) (i := j)
    have asc := accL_asc (hiL p p.ts.length j)
    have fb := (h k).ab
    have lw := woL_len fb (show k ≤ 1000 by omega)
    have lf := frL_len fb
    have le := leL_len (k := k) (by omega)
    have sq : (p.co k).num < 0 ↔ p.co k < 0 := by rw [← Int.not_le, ← Rat.not_le, Rat.num_nonneg]
    have step : ∀ (v w x y : Option U) (L : List Nat), accL (hiL p p.ts.length (j + 1)) = L → I (j + 1) [some (.d (polyD p)), some (.d (.str (S L))), v, w, x, y] ⟨none, []⟩ := fun v w x y L e => (hI _ _ _).mpr ⟨v, w, x, y, by rw [e], rfl⟩
    have gt : p.ts[k]? = some (p.ts.getD k 0) := by rw [List.getD_eq_getElem?_getD, List.getElem?_eq_getElem hkl]; rfl
    have ec : Rat.divInt (p.ts.getD k 0) p.b = p.co k := rfl
    generalize p.ts.getD k 0 = t at gt ec
    have ix : ∀ {st : Sto} {Q : U → Sto → Prop}, (fIx (.d (.tuple (p.ts.map PyData.int))) (.d (.int (k : Nat))) st).To Q ↔ Q (.d (.int t)) st := by
      intro st Q
      rw [to_ixT, idxN_nat (by simpa using hkl)]
      simp [gt]
    refine cut (fun l s => l = [some (.d (polyD p)), some (.d (.str (S (accL (hiL p p.ts.length j))))), some (.d (.int k)), some (.d (.int (p.co k).num)), some (.d (.int (p.co k).den)), y] ∧ s = ⟨none, []⟩) ?_ fun l s hs => ?_
    · simp [polyD, ix]
      refine L_fraction_to (by omega) trivial ?_
      rw [ec]
      simp [fracD]
    obtain ⟨rfl, rfl⟩ := hs
    refine cut (fun l s => l = [some (.d (polyD p)), some (.d (.str (S (accL (hiL p p.ts.length j))))), some (.d (.int k)), some (.d (.int (p.co k).num)), some (.d (.int (p.co k).den)), some (.d (.str (S (frL (ab (p.co k))))))] ∧ s = ⟨none, []⟩) ?_ fun l s hs => ?_
    · simp
      rw [ab_parts]
      exact L_fraction_text_to fb (by simp)
    obtain ⟨rfl, rfl⟩ := hs
    refine cut (fun l s => l = [some (.d (polyD p)), some (.d (.str (S (accL (hiL p p.ts.length j))))), some (.d (.int k)), some (.d (.int (p.co k).num)), some (.d (.int (p.co k).den)), some (.d (.str (S (woL (ab (p.co k)) k))))] ∧ s = ⟨none, []⟩) ?_ fun l s hs => ?_
    · simp [eqv_S, frL_one]
      by_cases hk0 : k = 0
      · exact .inl ⟨hk0, .inl ⟨hk0, by unfold woL; rw [if_pos hk0]⟩⟩
      · refine .inr ⟨by omega, ⟨(frL_asc _).sh, str_sh (by decide +kernel)⟩, ?_⟩
        by_cases hr : ab (p.co k) = 1
        · refine .inr ⟨hr, ?_⟩
          refine L_letter_to (by omega) ?_
          unfold woL
          rw [if_neg hk0, if_pos hr]
        · refine .inl ⟨hr, .inr ⟨by omega, ?_⟩⟩
          rw [to_addS (by simp; omega)]
          refine L_letter_to (by omega) ?_
          rw [to_addS (by simp; omega)]
          unfold woL
          rw [if_neg hk0, if_neg hr]
          simp
    obtain ⟨rfl, rfl⟩ := hs
    simp [eqv_S, polyD]
    by_cases h0 : p.co k = 0
    · exact .inl ⟨h0, .inl ⟨h0, step _ _ _ _ _ (by rw [hs, if_pos h0])⟩⟩
    · refine .inr ⟨h0, ⟨asc.sh, by decide +kernel⟩, ?_⟩
      have sgn : ∀ a b : PyData, ((idxN 2 (if (p.co k).num < 0 then 1 else 0)).bind fun j => [a, b][j]?) = some (if p.co k < 0 then b else a) := fun a b => by
        by_cases hn : p.co k < 0
        · rw [if_pos (sq.mpr hn), if_pos hn]; rfl
        · rw [if_neg (fun z => hn (sq.mp z)), if_neg hn]; rfl
      by_cases he : accL (hiL p p.ts.length j) = []
      · refine .inr ⟨he, _, sgn _ _, ?_⟩
        have e1 : (if p.co k < 0 then PyData.str (S [45]) else PyData.str (S [])) = .str (S (if p.co k < 0 then [45] else [])) := by split <;> rfl
        have l1 : (if p.co k < 0 then [45] else [] : List Nat).length ≤ 1 := by split <;> simp
        rw [e1, to_addS (by omega)]
        refine step _ _ _ _ _ ?_
        rw [hs, if_neg h0, accL_snoc, if_pos (accL_ne.mp he), accL_ne.mp he]
        rfl
      · refine .inl ⟨he, .inr ⟨h0, _, sgn _ _, ?_⟩⟩
        have e1 : (if p.co k < 0 then PyData.str (S [32, 45, 32]) else PyData.str (S [32, 43, 32])) = .str (S (if p.co k < 0 then [32, 45, 32] else [32, 43, 32])) := by split <;> rfl
        have l3 : (if p.co k < 0 then [32, 45, 32] else [32, 43, 32] : List Nat).length = 3 := by split <;> rfl
        rw [e1, to_addS (by omega), to_addS (by rw [List.length_append]; omega)]
        refine step _ _ _ _ _ ?_
        rw [hs, if_neg h0, accL_snoc, if_neg (fun z => he (accL_ne.mpr z)), List.append_assoc]
        rfl
  · rintro l s h'
    obtain ⟨v, w, z, y, rfl, rfl⟩ := (hI _ _ _).mp h'
    have e0' : (rangeD ((p.ts.length : Int) - 1) (-1) p.ts.length).length = p.ts.length := by simp [rangeD]
    rw [e0']
    rw [hiL_all]
    refine ⟨_, rfl, _, rfl, (by show (2 : Nat) ≤ 16777216; decide), _, rfl, ?_⟩
    rw [to_eqS (accL_asc _) (fun c hc => by simp at hc)]
    unfold poL at hP
    cases e : teL p p.ts.length with
    | nil =>
      rw [e] at hP
      simp [accL]
      exact hP
    | cons t ts =>
      rw [e] at hP
      have : accL (t :: ts) ≠ [] := fun z => by have := accL_ne.mp z; cases this
      simp [this]
      exact hP
end NW
namespace NW
open PySem PySem.Spec PyProof.Rows L2
theorem lk_S {l : List Nat} (h : Asc l) : Lk 8 (.str (S l)) := h.ok
end NW
namespace NW
open PySem PySem.Spec PyProof.Rows L2
end NW
namespace NW
open PySem PySem.Spec PyProof.Rows L2
theorem poL_len {p : Pol} (hl : p.ts.length ≤ 25) (h : ∀ k, FB 1900 (p.co k)) : (poL p).length ≤ 40000 := by
  by_cases h0 : p.ts = []
  · rw [poL_nil h0]; simp
  have hn : teL p p.ts.length ≠ [] := by
    have hl := List.length_pos_iff.mpr h0
    intro z
    have : (p.ts.length - 1, p.co (p.ts.length - 1)) ∈ teL p p.ts.length := teL_mem.mpr ⟨by dsimp only; omega, rfl, co_lead h0⟩
    rw [z] at this
    simp at this
  have e : poL p = accL (teL p p.ts.length) := by
    unfold NW.poL
    split
    · rename_i e; exact absurd e hn
    · rfl
  rw [e]
  have := accL_len (ts := teL p p.ts.length) fun t ht => by
    obtain ⟨h1, h2, _⟩ := teL_mem.mp ht
    rw [h2]
    exact ⟨h _, by omega⟩
  have h2 : (teL p p.ts.length).length ≤ p.ts.length := by
    unfold teL
    rw [List.length_map]
    exact Nat.le_trans (List.length_filter_le _ _) (by simp)
  have h3 : (teL p p.ts.length).length * 1313 ≤ 25 * 1313 := Nat.mul_le_mul_right _ (by omega)
  omega
def Lg (p : Pol) : Prop := PBt 140 5 p ∧ p.ts ≠ []
theorem Lg.mk {ts : List Int} {b : Nat} (hb : 1 ≤ b) (hb2 : b ≤ 9) (h1 : 1 ≤ ts.length) (h2 : ts.length ≤ 5) (ht : ∀ t, t ∈ ts → t.natAbs < 10 ^ 40 ∧ t ≠ 0) : Lg (NW.mk ts b) := by
  have e : (10 : Nat) ^ 40 ≤ 2 ^ 140 := by decide +kernel
  refine ⟨PBt.mk (by omega) h2 (by omega) fun t h => by have := (ht t h).1; omega, ?_⟩
  have hne : ts ≠ [] := by intro z; rw [z] at h1; simp at h1
  have := mk_len_eq (ts := ts.dropLast) (t := ts.getLast hne) (b := b) (by omega) (ht _ (List.getLast_mem hne)).2
  rw [List.dropLast_concat_getLast hne] at this
  intro z
  rw [z] at this
  simp at this
theorem Lg.mul {p q : Pol} (hp : Lg p) (hq : Lg q) : PBt 290 10 (p * q) ∧ (p * q).ts ≠ [] := by
  refine ⟨PBt.mul hp.1 hq.1 (by omega), ?_⟩
  have h1 := List.length_pos_iff.mpr hp.2
  have h2 := List.length_pos_iff.mpr hq.2
  have := len_mul hp.2 hq.2
  intro z
  rw [z] at this
  simp at this
  omega
end NW
namespace NW
open PySem PySem.Spec PyProof.Rows L2
theorem pieces (c : Nat) : ∀ p : List Nat, ∃ ps : List (List Nat), ps ≠ [] ∧ (∀ x, x ∈ ps → c ∉ x) ∧ p = TL.joinL [c] ps
  | [] => ⟨[[]], by simp, by simp, rfl⟩
  | d :: r => by
    obtain ⟨ps, h1, h2, h3⟩ := pieces c r
    match ps, h1 with
    | a :: rest, _ =>
      by_cases hd : d = c
      · refine ⟨[] :: a :: rest, by simp, fun x hx => ?_, ?_⟩
        · rcases List.mem_cons.mp hx with rfl | hx
          · simp
          · exact h2 x hx
        · rw [h3, hd]
          rfl
      · refine ⟨(d :: a) :: rest, by simp, fun x hx => ?_, ?_⟩
        · rcases List.mem_cons.mp hx with rfl | hx
          · intro z
            rcases List.mem_cons.mp z with z | z
            · exact hd z.symm
            · exact h2 a (by simp) z
          · exact h2 x (by simp [hx])
        · rw [h3]
          cases rest with
          | nil => rfl
          | cons b rs => rfl
theorem joinL_len {c : Nat} : ∀ {ps : List (List Nat)}, ps ≠ [] → (∀ x, x ∈ ps → x.length ≤ (TL.joinL [c] ps).length) ∧ ps.length ≤ (TL.joinL [c] ps).length + 1 ∧ ∀ x, x ∈ ps → ∀ d, d ∈ x → d ∈ TL.joinL [c] ps
  | [], h => absurd rfl h
  | [p], _ => ⟨fun x hx => by simp at hx; rw [hx]; exact Nat.le_refl _, by simp, fun x hx d hd => by simp at hx; rw [hx] at hd; exact hd⟩
  | p :: q :: r, _ => by
    obtain ⟨h1, h2, h3⟩ := joinL_len (c := c) (ps := q :: r) (by simp)
    have e : TL.joinL [c] (p :: q :: r) = p ++ ([c] ++ TL.joinL [c] (q :: r)) := rfl
    rw [e]
    refine ⟨fun x hx => ?_, by simp at h2 ⊢; omega, fun x hx d hd => ?_⟩
    · rcases List.mem_cons.mp hx with rfl | hx
      · simp
      · have := h1 x hx
        simp
        omega
    · rcases List.mem_cons.mp hx with rfl | hx
      · simp [hd]
      · have := h3 x hx d hd
        simp [this]
theorem split_pieces {c : Nat} {ps : List (List Nat)} (hc : c < 256) (h1 : ps ≠ []) (h2 : ∀ x, x ∈ ps → c ∉ x) : Txt.split (S (TL.joinL [c] ps)) (S [c]) = ps.map S := by
  have := SX.split_S (a := TL.joinL [c] ps) (b := [c]) (by simp) (by simpa using hc)
  rw [SX.spl_join h1 h2] at this
  exact this
theorem cut_to {a : List Nat} {i : Int} (h : 0 ≤ i) : cutS (S a) none (some i) = S (a.take i.toNat) := by
  rw [C8.cutS_slice]
  exact SX.slice_to h
theorem L_figures_val {l : List Nat} (ha : Asc l) (hl : l.length ≤ 1000000) {P : PyData → Prop} (hP : P (.bool (decide (isNum l)))) : (m_L_figures [.str (S l)]).To P := by
  unfold m_L_figures
  rw [pure_to]
  unfold b_L_figures
  by_cases h0 : l = []
  · subst h0
    simp [startL]
    exact hP
  have h0' : ¬ l.length = 0 := fun z => h0 (List.length_eq_zero_iff.mp z)
  by_cases h40 : 40 < l.length
  · have : ¬ isNum l := fun z => by have := z.2.1; omega
    rw [decide_eq_false this] at hP
    simp [startL, h0]
    exact ⟨by omega, .inr ⟨by omega, hP⟩⟩
  simp [startL, h0]
  refine ⟨by omega, .inl ⟨by omega, ?_⟩⟩
  rw [signsS]
  refine ⟨by rw [List.length_map]; omega, ?_⟩
  refine lc_filtA (f := fun c => PyData.str (S [c])) (g := fun c => PyData.str (S [c])) (p := fun c => !decide (c ∈ [48, 49, 50, 51, 52, 53, 54, 55, 56, 57])) chk_nil (fun c hc => ?_) ?_
  · by_cases hd : c ∈ [48, 49, 50, 51, 52, 53, 54, 55, 56, 57]
    · simp [oneS, S_cps, wipeL] at hd ⊢
      exact .inl (by omega)
    · simp [oneS, S_cps, wipeL] at hd ⊢
      simp [hd]
  have hsh : SeqAt.shaped (PyData.list ((l.filter fun c => !decide (c ∈ [48, 49, 50, 51, 52, 53, 54, 55, 56, 57])).map fun c => PyData.str (S [c]))) = true := by
    refine lk_shaped (n := 9) ⟨by rw [List.length_map]; exact Nat.le_trans (List.length_filter_le _ _) (by omega), fun x hx => ?_⟩ (by omega)
    obtain ⟨c, hc, rfl⟩ := List.mem_map.mp hx
    exact lk_S fun d hd => by simp at hd; rw [hd]; exact ha c (List.mem_filter.mp hc).1
  refine ⟨⟨hsh, by decide +kernel⟩, ?_⟩
  cases hF : l.filter fun c => !decide (c ∈ [48, 49, 50, 51, 52, 53, 54, 55, 56, 57]) with
  | cons x xs =>
    refine .inr ⟨rfl, ?_⟩
    have hx : x ∈ l.filter fun c => !decide (c ∈ [48, 49, 50, 51, 52, 53, 54, 55, 56, 57]) := by rw [hF]; simp
    have : ¬ isNum l := fun z => by
      obtain ⟨a, b⟩ := List.mem_filter.mp hx
      have := z.2.2.1 x a
      simp at b
      omega
    rw [decide_eq_false this] at hP
    exact hP
  | nil =>
    refine .inl ⟨rfl, ⟨ha.sh, str_sh (by decide +kernel)⟩, ?_⟩
    have hd : ∀ c, c ∈ l → 48 ≤ c ∧ c ≤ 57 := fun c hc => by
      refine Classical.byContradiction fun z => ?_
      have : c ∈ l.filter fun c => !decide (c ∈ [48, 49, 50, 51, 52, 53, 54, 55, 56, 57]) := List.mem_filter.mpr ⟨hc, by simp; omega⟩
      rw [hF] at this
      simp at this
    rw [eqv_S]
    by_cases h48 : l = [48]
    · refine .inr ⟨by simp [h48], ?_⟩
      have : isNum l := ⟨h0, by omega, hd, .inl h48⟩
      rw [decide_eq_true this] at hP
      exact hP
    · refine .inl ⟨by simp [h48], ?_⟩
      cases l with
      | nil => exact absurd rfl h0
      | cons c r =>
        rw [to_ixStr (by simp at hl; omega), to_eqS (fun d hd' => by have := hd d (by simp at hd'; simp [hd']); omega) (fun d hd => by simp at hd; omega)]
        have : isNum (c :: r) ↔ c ≠ 48 := ⟨fun z => by
          rcases z.2.2.2 with w | w
          · exact absurd w h48
          · simpa using w, fun z => ⟨h0, by omega, hd, .inr (by simpa using z)⟩⟩
        by_cases hc : c = 48
        · rw [decide_eq_false (fun z => this.mp z hc)] at hP
          simp [hc]
          exact hP
        · rw [decide_eq_true (this.mpr hc)] at hP
          simp [hc]
          exact hP
end NW
namespace NW
open PySem PySem.Spec PyProof.Rows L2
def SgP (l : List Nat) (s : Int) (p : List Nat) : Prop := (s = -1 ∧ l = 45 :: p) ∨ (s = 1 ∧ p = l ∧ l.take 1 ≠ [45])
theorem sgP_of (l : List Nat) : ∃ s p, SgP l s p := by
  by_cases h : l.take 1 = [45]
  · match l, h with
    | c :: r, h =>
      have : c = 45 := by simpa using h
      exact ⟨-1, r, .inl ⟨rfl, by rw [this]⟩⟩
  · exact ⟨1, l, .inr ⟨rfl, rfl, h⟩⟩
theorem sgP_frac {q : Rat} {l p : List Nat} {s : Int} (e : frL q = l) (h : SgP l s p) : p = absL q ∧ ((s = -1 ∧ q.num < 0) ∨ (s = 1 ∧ 0 ≤ q.num)) := by
  rw [frL_abs] at e
  obtain ⟨c, r, ec, hc⟩ := absL_head q
  by_cases hn : q.num < 0
  · rw [if_pos hn] at e
    rcases h with ⟨h1, h2⟩ | ⟨h1, h2, h3⟩
    · refine ⟨?_, .inl ⟨h1, hn⟩⟩
      rw [h2] at e
      injection e with _ e
      exact e.symm
    · exact absurd (by rw [← e]; rfl) h3
  · rw [if_neg hn] at e
    have e' : absL q = l := e
    rcases h with ⟨h1, h2⟩ | ⟨h1, h2, h3⟩
    · rw [h2, ec] at e'
      injection e' with e' _
      omega
    · exact ⟨by rw [h2, e'], .inr ⟨h1, by omega⟩⟩
def fPieces (q : Rat) : List (List Nat) := if q.den = 1 then [TL.numL q.num.natAbs] else [TL.numL q.num.natAbs, TL.numL q.den]
theorem absL_join (q : Rat) : absL q = TL.joinL [47] (fPieces q) := by
  unfold absL fPieces
  split <;> rfl
theorem fPieces_free (q : Rat) : ∀ x, x ∈ fPieces q → 47 ∉ x := by
  intro x hx
  unfold fPieces at hx
  have f1 : (47 : Nat) ∉ TL.numL q.num.natAbs := TL.numL_free (by omega)
  have f2 : (47 : Nat) ∉ TL.numL q.den := TL.numL_free (by omega)
  split at hx
  · simp at hx; rw [hx]; exact f1
  · simp at hx
    rcases hx with rfl | rfl
    · exact f1
    · exact f2
theorem pieces_uniq {c : Nat} {a b : List (List Nat)} (ha : a ≠ []) (hb : b ≠ []) (fa : ∀ x, x ∈ a → c ∉ x) (fb : ∀ x, x ∈ b → c ∉ x) (e : TL.joinL [c] a = TL.joinL [c] b) : a = b := by
  have h1 := SX.spl_join (sep := []) ha fa
  have h2 := SX.spl_join (sep := []) hb fb
  rw [e] at h1
  exact h1.symm.trans h2
theorem fPieces_ne (q : Rat) : fPieces q ≠ [] := by unfold fPieces; split <;> simp
theorem sfrac_parts {s : Int} (hs : s = 1 ∨ s = -1) {x y : Nat} (hy : 0 < y) (hg : Nat.gcd x y = 1) : (Rat.divInt (s * x) y).num = s * x ∧ (Rat.divInt (s * x) y).den = y := by
  have ha : (s * (x : Int)).natAbs = x := by rcases hs with rfl | rfl <;> simp
  have e : Rat.divInt (s * x) y = ⟨s * x, y, by omega, by rw [ha]; exact hg⟩ := by
    rw [← Rat.mk_eq_divInt (num := s * (x : Int)) (den := y) (nz := by omega) (c := by rw [ha]; exact hg)]
  rw [e]
  exact ⟨rfl, rfl⟩
theorem sgn_text {s : Int} {l p : List Nat} (h : SgP l s p) {x : Nat} : l = (if s = -1 then [45] else []) ++ p := by
  rcases h with ⟨h1, h2⟩ | ⟨h1, h2, h3⟩
  · rw [if_pos h1, h2]; rfl
  · rw [if_neg (by omega), h2]; rfl
theorem frac_one_piece {l : List Nat} {s : Int} {x : Nat} (h : SgP l s (TL.numL x)) (hx : x < 10 ^ 40) (h0 : x = 0 → s = 1) : ∃ q, F40 q ∧ frL q = l ∧ q.num = s * x ∧ q.den = 1 := by
  have hs : s = 1 ∨ s = -1 := by rcases h with h | h <;> omega
  obtain ⟨e1, e2⟩ := sfrac_parts hs (x := x) (y := 1) (by omega) (by simp)
  have ha : (s * (x : Int)).natAbs = x := by rcases hs with rfl | rfl <;> simp
  refine ⟨Rat.divInt (s * x) (1 : Nat), ⟨by rw [e1, ha]; exact hx, by rw [e2]; decide⟩, ?_, e1, e2⟩
  rw [frL_abs, sgn_text h (x := x)]
  unfold absL
  rw [e1, e2, ha, if_pos rfl]
  congr 1
  rcases hs with rfl | rfl
  · rw [if_neg (by omega), if_neg (by decide)]
  · have : x ≠ 0 := fun z => by have := h0 z; omega
    rw [if_pos (by omega), if_pos rfl]
theorem frac_two_pieces {l : List Nat} {s : Int} {x y : Nat} (h : SgP l s (TL.numL x ++ 47 :: TL.numL y)) (hx : x < 10 ^ 40) (hy : y < 10 ^ 40) (h0 : x = 0 → s = 1) (hy2 : 2 ≤ y) (hg : Nat.gcd x y = 1) : ∃ q, F40 q ∧ frL q = l ∧ q.num = s * x ∧ q.den = y := by
  have hs : s = 1 ∨ s = -1 := by rcases h with h | h <;> omega
  obtain ⟨e1, e2⟩ := sfrac_parts hs (x := x) (y := y) (by omega) hg
  have ha : (s * (x : Int)).natAbs = x := by rcases hs with rfl | rfl <;> simp
  refine ⟨Rat.divInt (s * x) y, ⟨by rw [e1, ha]; exact hx, by rw [e2]; exact hy⟩, ?_, e1, e2⟩
  rw [frL_abs, sgn_text h (x := x)]
  unfold absL
  rw [e1, e2, ha, if_neg (show ¬ y = 1 by omega)]
  congr 1
  rcases hs with rfl | rfl
  · rw [if_neg (by omega), if_neg (by decide)]
  · have : x ≠ 0 := fun z => by have := h0 z; omega
    rw [if_pos (by omega), if_pos rfl]
end NW
namespace NW
open PySem PySem.Spec PyProof.Rows L2
theorem L_read_fraction_val {l : List Nat} (ha : Asc l) (hl : l.length ≤ 900000) {P : PyData → Prop} (h1 : ∀ q, F40 q → frL q = l → P (fracD q)) (h0 : (∀ q, F40 q → frL q ≠ l) → P .none) : (m_L_read_fraction [.str (S l)]).To P := by
  unfold m_L_read_fraction
  rw [pure_to]
  unfold b_L_read_fraction
  obtain ⟨s, p, hs⟩ := sgP_of l
  obtain ⟨ps, n1, n2, n3⟩ := pieces 47 p
  have hpl : p.length ≤ l.length := by
    rcases hs with ⟨_, h⟩ | ⟨_, h, _⟩
    · rw [h]; simp
    · rw [h]; exact Nat.le_refl _
  have hpa : Asc p := by
    rcases hs with ⟨_, h⟩ | ⟨_, h, _⟩
    · rw [h] at ha; exact ha.tail
    · rw [h]; exact ha
  obtain ⟨j1, j2, j3⟩ := joinL_len (c := 47) n1
  rw [← n3] at j1 j2 j3
  refine cut (fun l' st => l' = [some (.d (.str (S l))), some (.d (.int s)), none, none, none, none] ∧ st = ⟨none, []⟩) ?_ fun l' st h' => ?_
  · simp [startL]
    rw [to_slS (by rw [S_len]; omega), cut_to (by omega)]
    simp [eqv_S]
    refine ⟨⟨Asc.sh (fun c hc => ha c (List.mem_of_mem_take hc)), Asc.sh (fun c hc => by simp at hc; omega)⟩, by split <;> decide, ?_⟩
    rcases hs with ⟨rfl, h⟩ | ⟨rfl, _, h⟩
    · rw [h]; rfl
    · rw [if_neg h]; rfl
  obtain ⟨rfl, rfl⟩ := h'
  refine cut (fun l' st => l' = [some (.d (.str (S l))), some (.d (.int s)), some (.d (.list (ps.map fun x => .str (S x)))), none, none, none] ∧ st = ⟨none, []⟩) ?_ fun l' st h' => ?_
  · simp
    rw [to_slS (by rw [S_len]; omega), cut_from (by split <;> omega)]
    have e : l.drop (if s < 0 then (1 : Int) else 0).toNat = p := by
      rcases hs with ⟨rfl, h⟩ | ⟨rfl, h, _⟩
      · rw [h]; rfl
      · rw [h]; rfl
    rw [e]
    simp
    refine ⟨by omega, ?_⟩
    unfold splitD
    rw [n3, split_pieces (by omega) n1 n2, List.map_map]
    rfl
  obtain ⟨rfl, rfl⟩ := h'
  obtain ⟨A, hAd⟩ : ∃ A : Prop, A ↔ (ps.length ≤ 2 ∧ (∀ x, x ∈ ps → isNum x) ∧ (ps.head? = some [48] → l = [48])) := ⟨_, Iff.rfl⟩
  have hq : ∀ q, F40 q → frL q = l → ps = fPieces q ∧ A := fun q f e => by
    obtain ⟨e1, e2⟩ := sgP_frac e hs
    have e3 : ps = fPieces q := pieces_uniq n1 (fPieces_ne q) n2 (fPieces_free q) (by rw [← n3, e1, absL_join])
    refine ⟨e3, hAd.mpr ?_⟩
    have i1 := numL_isNum f.1
    have i2 := numL_isNum f.2
    have hd : ps.head? = some [48] → l = [48] := fun z => by
      have z2 : TL.numL q.num.natAbs = [48] := by
        rw [e3] at z
        unfold fPieces at z
        split at z <;> simpa using z
      have z3 : q.num.natAbs = 0 := Classical.byContradiction fun w => by
        have := numL_head w
        rw [z2] at this
        exact this rfl
      have z4 : q = 0 := by
        exact Rat.num_eq_zero.mp (by omega)
      rw [← e, z4]
      decide +kernel
    rw [e3] at hd ⊢
    refine ⟨?_, ?_, hd⟩
    · unfold fPieces; split <;> simp
    · intro x hx
      unfold fPieces at hx
      split at hx
      · simp at hx; rw [hx]; exact i1
      · simp at hx
        rcases hx with rfl | rfl
        · exact i1
        · exact i2
  have l0 : ∃ a, ps[0]? = some a ∧ ps.head? = some a := by
    cases ps with
    | nil => exact absurd rfl n1
    | cons a r => exact ⟨a, rfl, rfl⟩
  obtain ⟨a, la, lh⟩ := l0
  have i0 : idxN ps.length 0 = some 0 := idxN_nat (j := 0) (List.length_pos_iff.mpr n1)
  have s48 : SeqAt.shaped (PyData.str (S [48])) = true := str_sh (by decide +kernel)
  have aa : Asc a := fun c hc => hpa c (j3 a (List.mem_of_getElem? la) c hc)
  have hall : ∀ (Q : U → Sto → Prop), Q (.d (.bool (ps.all fun x => decide (isNum x)))) ⟨none, []⟩ → (eCB cAll (aCons (eFrz (lLc (mAny (eVar 2)) (([(("_law_one" : Str), 5)] : List (Str × Nat)).map (·.2)) (gNameM 5) bYes (eCallP 1 m_L_figures (aCons (eVar 5) aNil)))) aNil) [some (.d (.str (S l))), some (.d (.int s)), some (.d (.list (ps.map fun x => .str (S x)))), none, none, none] ⟨none, []⟩).To Q := by
    intro Q hQ
    simp
    refine ⟨by omega, ?_⟩
    refine lc_mapA (f := fun x => PyData.str (S x)) (g := fun x => PyData.bool (decide (isNum x))) chk_nil (fun x hx => ?_) ?_
    · simp [wipeL]
      exact L_figures_val (fun c hc => hpa c (j3 x hx c hc)) (by have := j1 x hx; omega) rfl
    · exact all_val hQ
  generalize eCB cAll (aCons (eFrz (lLc (mAny (eVar 2)) (([(("_law_one" : Str), 5)] : List (Str × Nat)).map (·.2)) (gNameM 5) bYes (eCallP 1 m_L_figures (aCons (eVar 5) aNil)))) aNil) = X at hall ⊢
  by_cases hA : A
  · have hA2 := hAd.mp hA
    have e1 : (ps.all fun x => decide (isNum x)) = true := List.all_eq_true.mpr fun x hx => decide_eq_true (hA2.2.1 x hx)
    rw [e1] at hall
    refine cut (fun l' st => l' = [some (.d (.str (S l))), some (.d (.int s)), some (.d (.list (ps.map fun x => .str (S x)))), none, none, none] ∧ st = ⟨none, []⟩) ?_ fun l' st h' => ?_
    · simp
      refine .inl ⟨by omega, hall _ ?_⟩
      simp [la, i0, eqv_S]
      refine ⟨⟨aa.sh, s48⟩, ?_⟩
      by_cases c4 : a = [48]
      · exact .inr ⟨c4, ⟨ha.sh, s48⟩, .inl (hA2.2.2 (by rw [lh, c4]))⟩
      · exact .inl c4
    obtain ⟨rfl, rfl⟩ := h'
    obtain ⟨b1, b2, b3⟩ := hA2
    have sgn0 : l = [48] → s = 1 := fun z => by
      rcases hs with ⟨_, h⟩ | ⟨h, _⟩
      · rw [z] at h; simp at h
      · exact h
    have mc : ∀ x : Nat, x < 10 ^ 40 → mulC s (x : Int) = true := fun x hx => by
      have x19 : x < 2 ^ 1900 := Nat.lt_of_lt_of_le hx (by decide +kernel)
      exact mulC_of (a := 2) (b := 1900) (by rcases hs with ⟨rfl, _⟩ | ⟨rfl, _⟩ <;> decide) (by simpa using x19) (by omega) (by omega) (by omega)
    clear hall hA e1 la lh i0 aa
    match ps, n1, b1 with
    | [a], _, _ =>
      obtain ⟨x, hx, rfl⟩ := num_of (b2 a (by simp))
      have ep : p = TL.numL x := n3
      rw [ep] at hs
      have hx0 : x = 0 → s = 1 := fun z => sgn0 (b3 (by rw [z]; decide +kernel))
      obtain ⟨q, f1, f2, f3, f4⟩ := frac_one_piece hs hx hx0
      have := h1 q f1 f2
      have e : fracD q = .tuple [.int (s * x), .int 1] := by unfold fracD; rw [f3, f4]; rfl
      rw [e] at this
      simp [idxN, int_of hx]
      exact ⟨by have := TL.numL_len (k := 40) (by omega) hx; omega, mc x hx, this⟩
    | [a, b], _, _ =>
      obtain ⟨x, hx, rfl⟩ := num_of (b2 a (by simp))
      obtain ⟨y, hy, rfl⟩ := num_of (b2 b (by simp))
      have ep : p = TL.numL x ++ 47 :: TL.numL y := n3
      rw [ep] at hs
      have hx0 : x = 0 → s = 1 := fun z => sgn0 (b3 (by rw [z]; rfl))
      simp [idxN, int_of hx, int_of hy]
      refine ⟨by have := TL.numL_len (k := 40) (by omega) hx; omega, by have := TL.numL_len (k := 40) (by omega) hy; omega, ?_⟩
      have back : (∃ q, F40 q ∧ frL q = l) → 2 ≤ y ∧ Nat.gcd x y = 1 := by
        rintro ⟨q, f, e⟩
        obtain ⟨e1, _⟩ := hq q f e
        unfold fPieces at e1
        split at e1
        · simp at e1
        · rename_i hd
          simp at e1
          obtain ⟨e2, e3⟩ := e1
          have e2 := TL.numL_inj e2
          have e3 := TL.numL_inj e3
          have := q.den_pos
          refine ⟨by omega, ?_⟩
          rw [e2, e3]
          exact q.reduced
      by_cases hy2 : 2 ≤ y
      · refine .inl ⟨by omega, ?_⟩
        refine common_to ?_
        have eg : Int.gcd (x : Int) (y : Int) = Nat.gcd x y := rfl
        rw [eg]
        by_cases hg : Nat.gcd x y = 1
        · obtain ⟨q, f1, f2, f3, f4⟩ := frac_two_pieces hs hx hy hx0 hy2 hg
          have := h1 q f1 f2
          have e : fracD q = .tuple [.int (s * x), .int y] := by unfold fracD; rw [f3, f4]
          rw [e] at this
          refine ⟨rfl, .inl ⟨by rw [hg]; rfl, mc x hx, this⟩⟩
        · refine ⟨rfl, .inr ⟨by rw [eqv_int]; exact decide_eq_false (by omega), h0 fun q f e => hg (back ⟨q, f, e⟩).2⟩⟩
      · exact .inr ⟨by omega, h0 fun q f e => hy2 (back ⟨q, f, e⟩).1⟩
  · have hP := h0 fun q f e => hA (hq q f e).2
    refine cut (fun _ _ => False) ?_ fun _ _ z => z.elim
    simp
    by_cases c1 : 2 < ps.length
    · exact .inr ⟨by omega, hP⟩
    · refine .inl ⟨by omega, hall _ ?_⟩
      cases c2 : (ps.all fun x => decide (isNum x)) with
      | false => simp [hP]
      | true =>
        have c3 : ¬ (ps.head? = some [48] → l = [48]) := fun z => hA (hAd.mpr ⟨by omega, fun x hx => of_decide_eq_true (List.all_eq_true.mp c2 x hx), z⟩)
        have c4 : a = [48] := Classical.byContradiction fun z => c3 fun w => by rw [lh] at w; exact absurd (by simpa using w) z
        have c5 : l ≠ [48] := fun z => c3 fun _ => z
        simp [la, i0, eqv_S, c4, c5]
        exact ⟨s48, ⟨ha.sh, s48⟩, hP⟩
end NW
namespace NW
open PySem PySem.Spec PyProof.Rows L2
theorem to_ixSn {l : List Nat} {i : Int} {st : Sto} {Q : U → Sto → Prop} (h0 : 0 ≤ i) (h1 : i < l.length) (hl : l.length ≤ 16777216) (h : ∀ c, c ∈ l → Q (.d (.str (S [c]))) st) : (fIx (.d (.str (S l))) (.d (.int i)) st).To Q := by
  obtain ⟨n, rfl⟩ := Int.eq_ofNat_of_zero_le h0
  have hn : n < l.length := by omega
  have e : strAt (S l) (n : Int) = some (S [l[n]]) := by
    unfold strAt
    rw [if_pos (decide_eq_true (by rw [S_len, sizeLine_eq]; omega)), S_cps]
    have : atI l (n : Int) = some l[n] := by
      simp [atI, ixN, hn]
    rw [this]
    rfl
  show (match strAt (S l) (n : Int) with | some y => Res.ok (U.d (.str y)) st | none => .no).To Q
  rw [e]
  exact h _ (List.getElem_mem hn)
def TxN (n : Nat) (d : PyData) : Prop := ∃ l, d = .str (S l) ∧ Asc l ∧ l.length ≤ n
theorem TxN.mono {n m : Nat} {d : PyData} (h : TxN n d) (k : n ≤ m) : TxN m d := by
  obtain ⟨l, e, a, b⟩ := h
  exact ⟨l, e, a, by omega⟩
theorem TxN.of {l : List Nat} (h : Asc l) : TxN l.length (.str (S l)) := ⟨l, rfl, h, Nat.le_refl _⟩
theorem TxN.cst {x : Str} {n : Nat} (h : (TL.tl x).all (· < 128) = true) (hl : (TL.tl x).length ≤ n) : TxN n (.str x) := ⟨TL.tl x, by rw [S_tl], fun c hc => by simpa using List.all_eq_true.mp h c hc, hl⟩
section
variable {st : Sto} {Q : U → Sto → Prop}
theorem add_T {n m : Nat} {a b : PyData} (ha : TxN n a) (hb : TxN m b) (h : n + m ≤ 16777216) (k : ∀ d, TxN (n + m) d → Q (.d d) st) : (fAddA (.d a) (.d b) st).To Q := by
  obtain ⟨l, rfl, a1, a2⟩ := ha
  obtain ⟨r, rfl, b1, b2⟩ := hb
  rw [to_addS (by omega)]
  exact k _ ⟨_, rfl, a1.append b1, by rw [List.length_append]; omega⟩
theorem upto_T {n : Nat} {a : PyData} {i : Int} (ha : TxN n a) (h : n ≤ 16777216) (hi : 0 ≤ i) (k : ∀ d, TxN n d → Q (.d d) st) : (fSl (.d a) none (some i) st).To Q := by
  obtain ⟨l, rfl, a1, a2⟩ := ha
  rw [to_slS (by rw [S_len]; omega), cut_to hi]
  exact k _ ⟨_, rfl, fun c hc => a1 c (List.mem_of_mem_take hc), by rw [List.length_take]; omega⟩
theorem from_T {n : Nat} {a : PyData} {i : Int} (ha : TxN n a) (h : n ≤ 16777216) (hi : 0 ≤ i) (k : ∀ d, TxN n d → Q (.d d) st) : (fSl (.d a) (some i) none st).To Q := by
  obtain ⟨l, rfl, a1, a2⟩ := ha
  rw [to_slS (by rw [S_len]; omega), cut_from hi]
  exact k _ ⟨_, rfl, fun c hc => a1 c (List.mem_of_mem_drop hc), by rw [List.length_drop]; omega⟩
end
theorem L_sign_to {f : Fl} (hf : FlOk f) : (m_L_sign [] f).To fun d f' => TxN 1 d ∧ FlOk f' := by
  unfold m_L_sign
  rw [flow_to]
  unfold b_L_sign
  refine cut (fun l s => l = [some .flow, some (.d (.str " !#$&'()*+,-./0123456789:;<=>?@ABCDEFGHIJKLMNOPQRSTUVWXYZ[]^_`abcdefghijklmnopqrstuvwxyz{|}~"))] ∧ s = ⟨some f, []⟩) (by simp [startL]) fun l s hs => ?_
  obtain ⟨rfl, rfl⟩ := hs
  refine cut (fun l s => ∃ d, TxN 95 d ∧ (∃ x : List Nat, d = .str (S x) ∧ 1 ≤ x.length) ∧ l = [some .flow, some (.d d)] ∧ s = ⟨some f, []⟩) ?_ fun l s hs => ?_
  · have c1 : (" !#$&'()*+,-./0123456789:;<=>?@ABCDEFGHIJKLMNOPQRSTUVWXYZ[]^_`abcdefghijklmnopqrstuvwxyz{|}~" : Str) = S (TL.tl " !#$&'()*+,-./0123456789:;<=>?@ABCDEFGHIJKLMNOPQRSTUVWXYZ[]^_`abcdefghijklmnopqrstuvwxyz{|}~") := (S_tl _).symm
    have c2 : ("\"" : Str) = S [34] := S_of (by decide +kernel)
    have c3 : ("\\" : Str) = S [92] := S_of (by decide +kernel)
    have c4 : ("\n" : Str) = S [10] := S_of (by decide +kernel)
    have hl : (TL.tl (" !#$&'()*+,-./0123456789:;<=>?@ABCDEFGHIJKLMNOPQRSTUVWXYZ[]^_`abcdefghijklmnopqrstuvwxyz{|}~" : Str)).length ≤ 92 := by decide +kernel
    have ha : Asc (TL.tl (" !#$&'()*+,-./0123456789:;<=>?@ABCDEFGHIJKLMNOPQRSTUVWXYZ[]^_`abcdefghijklmnopqrstuvwxyz{|}~" : Str)) := fun c hc => by
      have : (TL.tl (" !#$&'()*+,-./0123456789:;<=>?@ABCDEFGHIJKLMNOPQRSTUVWXYZ[]^_`abcdefghijklmnopqrstuvwxyz{|}~" : Str)).all (· < 128) = true := by decide +kernel
      simpa using List.all_eq_true.mp this c hc
    rw [c1, c2, c3, c4]
    generalize TL.tl (" !#$&'()*+,-./0123456789:;<=>?@ABCDEFGHIJKLMNOPQRSTUVWXYZ[]^_`abcdefghijklmnopqrstuvwxyz{|}~" : Str) = L at hl ha
    simp
    rw [to_addS (by simp; omega), to_addS (by simp; omega), to_addS (by simp; omega)]
    have ha2 : Asc (L ++ [34] ++ [92] ++ [10]) := ((ha.append (by intro c hc; simp at hc; omega)).append (by intro c hc; simp at hc; omega)).append (by intro c hc; simp at hc; omega)
    refine ⟨_, ⟨_, rfl, ha2, by simp; omega⟩, ⟨_, rfl, by simp⟩, rfl, rfl⟩
  obtain ⟨d, ⟨x, rfl, x1, x2⟩, ⟨y, e, y1⟩, rfl, rfl⟩ := hs
  have e : x = y := S_inj.mp (PyData.str.inj e)
  subst e
  simp
  refine ⟨by omega, ?_⟩
  refine (pick_to hf (by omega) (by omega)).mono ?_
  rintro _ f2 ⟨i, rfl, i1, i2, o2⟩
  refine to_ixSn i1 i2 (by omega) fun c hc => ?_
  refine ⟨f2, rfl, ?_, o2⟩
  exact ⟨[c], rfl, fun z hz => by simp at hz; rw [hz]; exact x1 c hc, by simp⟩
theorem asked_to {m : List PyData → Rp} {x : PyData} {P : PyData → Prop} (h : (m [x]).To P) : (askedOf m [x]).To P := by
  unfold askedOf
  cases e : m [x] with
  | ok d fr => rw [e] at h; exact h
  | ex z => rw [e] at h; exact h.elim
  | no => rw [e] at h; exact h.elim
theorem asked_ex {m : List PyData → Rp} {x : PyData} {P : PyData → Prop} (h : m [x] = .ex bad0) (hP : P (.tuple [.str "refused", .int 0])) : (askedOf m [x]).To P := by
  unfold askedOf
  rw [h]
  show (if ("BadText" : Str) = "BadText" ∧ ("at" : Str) = "at" then Rp.ok (.tuple [.str "refused", .int 0]) false else .no).To P
  rw [if_pos ⟨rfl, rfl⟩]
  exact hP
theorem lk_refused {w : Int} : Lk 8 (.tuple [.str "refused", .int w]) := ⟨by simp, fun x hx => by
  simp at hx
  rcases hx with rfl | rfl
  · show (PyData.str "refused").canLay0 = true
    decide +kernel
  · trivial⟩
end NW
namespace NW
open PySem PySem.Spec PyProof.Rows L2
def PwI (w : List Nat) (k : Nat) : Prop := (1 ≤ k ∧ k ≤ 24 ∧ leL k = w) ∨ (k = 0 ∧ ∀ j, 1 ≤ j → j ≤ 24 → leL j ≠ w)
theorem leL_form {j : Nat} (h : j ≠ 1) : leL j = 120 :: 94 :: TL.numL j := by unfold leL; rw [if_neg h]
theorem pwI_of (w : List Nat) : ∃ k, PwI w k := by
  by_cases h : ∃ j, 1 ≤ j ∧ j ≤ 24 ∧ leL j = w
  · obtain ⟨j, a, b, c⟩ := h
    exact ⟨j, .inl ⟨a, b, c⟩⟩
  · exact ⟨0, .inr ⟨rfl, fun j a b c => h ⟨j, a, b, c⟩⟩⟩
theorem L_power_part {ws : List PyData} {w : List Nat} {k : Nat} (ha : Asc w) (hl : w.length ≤ 900000) (hk : PwI w k) {N : NW.Loc → Sto → Prop} {R : U → Sto → Prop} (h : N [some (.d (.list ws)), some (.d (.str (S w))), some (.d (.int k)), none] ⟨none, []⟩) :
    (sIf (bTest (eOp (opEq false) (eVar 1) (eC (.str ("x" : Str)))))
    (sAsg 2 (eC (.int 1)))
    (sIf (bAnd (bTest (eOp (opEq false) (eSlAny (eVar 1) oNone (oSome (eC (.int 2)))) (eC (.str ("x^" : Str))))) (bAnd (bTru (eCallP 1 m_L_figures (aCons (eSlAny (eVar 1) (oSome (eC (.int 2))) oNone) aNil))) (bTest (eChain fLe fLe (eC (.int 2)) (eCB cIntS (aCons (eSlAny (eVar 1) (oSome (eC (.int 2))) oNone) aNil)) (eC (.int 24))))))
    (sAsg 2 (eCB cIntS (aCons (eSlAny (eVar 1) (oSome (eC (.int 2))) oNone) aNil)))
    sNext) [some (.d (.list ws)), some (.d (.str (S w))), some (.d (.int 0)), none] ⟨none, []⟩).To N R := by
  have sx : SeqAt.shaped (PyData.str (S [120])) = true := str_sh (by decide +kernel)
  have sxh : SeqAt.shaped (PyData.str (S [120, 94])) = true := str_sh (by decide +kernel)
  have l1 : leL 1 = [120] := rfl
  by_cases hx : w = [120]
  · have : k = 1 := by
      rcases hk with ⟨a, b, c⟩ | ⟨_, c⟩
      · exact leL_inj (by rw [c, hx, l1])
      · exact absurd (by rw [hx, l1]) (c 1 (by omega) (by omega))
    subst this
    subst hx
    simp [eqv_S]
    exact ⟨sx, h⟩
  have k1 : k ≠ 1 := fun z => by
    rcases hk with ⟨a, b, c⟩ | ⟨c, _⟩
    · rw [z, l1] at c; exact hx c.symm
    · omega
  simp [eqv_S, hx]
  refine ⟨⟨ha.sh, sx⟩, ?_⟩
  rw [to_slS (by rw [S_len]; omega), cut_to (by omega)]
  simp
  have hd : Asc (w.drop 2) := fun c hc => ha c (List.mem_of_mem_drop hc)
  have ht : Asc (w.take 2) := fun c hc => ha c (List.mem_of_mem_take hc)
  have hdl : (w.drop 2).length ≤ 1000000 := by simp; omega
  refine ⟨⟨ht.sh, sxh⟩, ?_⟩
  by_cases h2 : w.take 2 = [120, 94]
  · have hw : w = 120 :: 94 :: w.drop 2 := by
      have := List.take_append_drop 2 w
      rw [h2] at this
      exact this.symm
    refine .inr ⟨by rw [eqv_S]; exact decide_eq_true h2, ?_⟩
    rw [to_slS (by rw [S_len]; omega), cut_from (by omega)]
    simp
    refine L_figures_val hd hdl ?_
    by_cases hn : isNum (w.drop 2)
    · obtain ⟨x, hx2, ex⟩ := num_of hn
      have lx := hn.2.1
      simp [hn, eChain]
      rw [to_slS (by rw [S_len]; omega), cut_from (by omega)]
      simp
      have hl2 : w.length - 2 ≤ 40 := by simpa using lx
      refine ⟨(x : Int), by rw [ex]; exact int_of hx2, by omega, ?_⟩
      have e : w = 120 :: 94 :: TL.numL x := by rw [← ex]; exact hw
      have back : 2 ≤ x → x ≤ 24 → k = x := fun a b => by
        have el : leL x = w := by rw [leL_form (by omega), e]
        rcases hk with ⟨c1, c2, c3⟩ | ⟨c1, c2⟩
        · exact leL_inj (c3.trans el.symm)
        · exact absurd el (c2 x (by omega) b)
      have none : ¬ (2 ≤ x ∧ x ≤ 24) → k = 0 := fun z => by
        rcases hk with ⟨c1, c2, c3⟩ | ⟨c1, c2⟩
        · rw [leL_form k1, e] at c3
          have := TL.numL_inj (by simpa using c3)
          omega
        · exact c1
      by_cases h2x : 2 ≤ x
      · rw [if_pos (by omega)]
        by_cases h24 : x ≤ 24
        · refine .inr ⟨by omega, ?_⟩
          rw [to_slS (by rw [S_len]; omega), cut_from (by omega)]
          simp
          refine ⟨(x : Int), by rw [ex]; exact int_of hx2, by omega, ?_⟩
          rw [back h2x h24] at h
          exact h
        · refine .inl ⟨by omega, ?_⟩
          rw [none (by omega)] at h
          exact h
      · rw [if_neg (by omega)]
        rw [none (by omega)] at h
        exact h
    · have : k = 0 := by
        rcases hk with ⟨c1, c2, c3⟩ | ⟨c1, c2⟩
        · rw [leL_form k1, hw] at c3
          have : TL.numL k = w.drop 2 := by simpa using c3
          exact absurd (this ▸ numL_isNum (by omega)) hn
        · exact c1
      subst this
      simp [hn]
      exact h
  · have : k = 0 := by
      rcases hk with ⟨c1, c2, c3⟩ | ⟨c1, c2⟩
      · rw [leL_form k1] at c3
        exact absurd (by rw [← c3]; rfl) h2
      · exact c1
    subst this
    refine .inl ⟨by rw [eqv_S]; exact decide_eq_false h2, h⟩
theorem intL_lt {i : Int} : ∀ c, c ∈ intL i → c < 58 := fun c hc => by
  have d1 := fun c hc => TL.numL_digits i.natAbs c hc
  unfold intL at hc
  split at hc
  · rcases List.mem_cons.mp hc with rfl | hc
    · omega
    · have := d1 c hc; omega
  · have := d1 c hc; omega
theorem frL_lt (r : Rat) : ∀ c, c ∈ frL r → c < 58 := fun c hc => by
  unfold frL at hc
  split at hc
  · exact intL_lt c hc
  · rcases List.mem_append.mp hc with hc | hc
    · exact intL_lt c hc
    · rcases List.mem_cons.mp hc with rfl | hc
      · omega
      · have := TL.numL_digits r.den c hc; omega
theorem L_read_word_val {ps : List (List Nat)} (hne : ps ≠ []) (ha : ∀ x, x ∈ ps → Asc x ∧ x.length ≤ 900000) (hl : ps.length ≤ 1000000) {P : PyData → Prop} (h1 : ∀ (r : Rat) (k : Nat), 0 < r → F40 r → k ≤ 24 → wordsL r k = ps → P (.tuple [fracD r, .int k])) (h0 : (∀ (r : Rat) (k : Nat), 0 < r → F40 r → k ≤ 24 → wordsL r k ≠ ps) → P .none) : (m_L_read_word [.list (wsD ps)]).To P := by
  unfold m_L_read_word
  rw [pure_to]
  unfold b_L_read_word
  obtain ⟨init, w, rfl⟩ : ∃ init w, ps = init ++ [w] := by
    rcases List.eq_nil_or_concat ps with h | ⟨l, b, h⟩
    · exact absurd h hne
    · exact ⟨l, b, by rw [h]; simp⟩
  have hw := ha w (by simp)
  obtain ⟨k, hk⟩ := pwI_of w
  have eD : wsD (init ++ [w]) = wsD init ++ [.str (S w)] := by simp [wsD]
  have hlD : (wsD (init ++ [w])).length = init.length + 1 := by simp [wsD]
  have hl' : init.length + 1 ≤ 1000000 := by simpa using hl
  refine cut (fun l s => l = [some (.d (.list (wsD (init ++ [w])))), some (.d (.str (S w))), none, none] ∧ s = ⟨none, []⟩) ?_ fun l s hs => ?_
  · simp [startL]
    rw [eD]
    exact idx_snoc
  obtain ⟨rfl, rfl⟩ := hs
  refine cut (fun l s => l = [some (.d (.list (wsD (init ++ [w])))), some (.d (.str (S w))), some (.d (.int 0)), none] ∧ s = ⟨none, []⟩) (by simp) fun l s hs => ?_
  obtain ⟨rfl, rfl⟩ := hs
  refine cut (fun l s => l = [some (.d (.list (wsD (init ++ [w])))), some (.d (.str (S w))), some (.d (.int k)), none] ∧ s = ⟨none, []⟩) (L_power_part hw.1 hw.2 hk ⟨rfl, rfl⟩) fun l s hs => ?_
  obtain ⟨rfl, rfl⟩ := hs
  have wl : ∀ (r : Rat) (j : Nat), j ≤ 24 → wordsL r j = init ++ [w] → j = k := fun r j hj e => by
    unfold wordsL at e
    by_cases j0 : j = 0
    · rw [if_pos j0] at e
      rcases hk with ⟨c1, c2, c3⟩ | ⟨c1, c2⟩
      · have : frL r = w := by
          have := congrArg List.getLast? e
          simpa using this
        rw [← c3] at this
        exfalso
        have h3 : (120 : Nat) ∈ frL r := by
          rw [this]
          unfold leL
          split <;> simp
        have := frL_lt r _ h3
        omega
      · omega
    · rw [if_neg j0] at e
      have : leL j = w := by
        split at e
        · have := congrArg List.getLast? e
          simpa using this
        · have := congrArg List.getLast? e
          simpa using this
      rcases hk with ⟨c1, c2, c3⟩ | ⟨c1, c2⟩
      · exact leL_inj (this.trans c3.symm)
      · exact absurd this (c2 j (by omega) hj)
  have k24 : k ≤ 24 := by rcases hk with ⟨_, c, _⟩ | ⟨c, _⟩ <;> omega
  refine cut (fun l s => (init.length ≤ 1 ∧ (init.length = 1 → k ≠ 0)) ∧ l = [some (.d (.list (wsD (init ++ [w])))), some (.d (.str (S w))), some (.d (.int k)), none] ∧ s = ⟨none, []⟩) ?_ fun l s hs => ?_
  · have none1 : ¬ (init.length ≤ 1 ∧ (init.length = 1 → k ≠ 0)) → P .none := fun z => h0 fun r j _ _ hj e => by
      have ej := wl r j hj e
      have := congrArg List.length e
      rw [List.length_append] at this
      unfold wordsL at this
      split at this
      · simp only [List.length_cons, List.length_nil] at this; exact z ⟨by omega, fun q => by omega⟩
      · split at this
        · simp only [List.length_cons, List.length_nil] at this; exact z ⟨by omega, fun q => by omega⟩
        · simp only [List.length_cons, List.length_nil] at this; exact z ⟨by omega, fun q => by omega⟩
    simp [hlD]
    by_cases q1 : init.length + 1 ≤ 2
    · refine .inl ⟨by omega, ?_⟩
      by_cases q2 : init.length + 1 = 2
      · refine .inr ⟨by omega, ?_⟩
        by_cases q3 : k = 0
        · exact .inr ⟨q3, none1 fun z => z.2 (by omega) q3⟩
        · exact .inl ⟨q3, by omega, fun _ => q3⟩
      · exact .inl ⟨by omega, by omega, fun z => by omega⟩
    · exact .inr ⟨by omega, none1 fun z => by omega⟩
  obtain ⟨⟨i1, i2⟩, rfl, rfl⟩ := hs
  refine cut (fun l s => (init.length = 0 → k = 0) ∧ l = [some (.d (.list (wsD (init ++ [w])))), some (.d (.str (S w))), some (.d (.int k)), none] ∧ s = ⟨none, []⟩) ?_ fun l s hs => ?_
  · simp [hlD]
    by_cases q1 : init.length = 0
    · have hi : init = [] := List.length_eq_zero_iff.mp q1
      refine .inr ⟨by omega, ?_⟩
      by_cases q2 : k = 0
      · exact .inl ⟨by omega, fun _ => q2⟩
      · refine .inr ⟨by omega, ?_⟩
        have := h1 1 k (by decide +kernel) ⟨by decide, by decide⟩ k24 (by
          rcases hk with ⟨_, _, c3⟩ | ⟨c1, _⟩
          · unfold wordsL
            rw [if_neg q2, if_pos rfl, c3, hi]
            rfl
          · exact absurd c1 q2)
        exact this
    · exact .inl ⟨by omega, fun z => absurd (by rw [z]; rfl) q1⟩
  obtain ⟨i3, rfl, rfl⟩ := hs
  obtain ⟨w0, rest, e0⟩ : ∃ w0 rest, init ++ [w] = w0 :: rest := by
    cases init with
    | nil => exact ⟨w, [], rfl⟩
    | cons a b => exact ⟨a, b ++ [w], rfl⟩
  have hw0 := ha w0 (by rw [e0]; simp)
  have idx0 : ((idxN (wsD (init ++ [w])).length 0).bind fun j => (wsD (init ++ [w]))[j]?) = some (.str (S w0)) := by
    rw [e0]
    have : idxN (wsD (w0 :: rest)).length 0 = some 0 := idxN_nat (j := 0) (by simp [wsD])
    rw [this]
    rfl
  -- which fraction
  have wr : ∀ (r : Rat) (j : Nat), j ≤ 24 → wordsL r j = init ++ [w] → j = k ∧ frL r = w0 ∧ (k ≠ 0 → r ≠ 1) := fun r j hj e => by
    have ej := wl r j hj e
    subst ej
    have e' := e
    rw [e0] at e
    unfold wordsL at e
    by_cases j0 : j = 0
    · rw [if_pos j0] at e
      exact ⟨rfl, by simpa using congrArg List.head? e, fun z => absurd j0 z⟩
    · rw [if_neg j0] at e
      by_cases r1 : r = 1
      · rw [if_pos r1] at e
        have := congrArg List.length e'
        rw [List.length_append] at this
        unfold wordsL at this
        rw [if_neg j0, if_pos r1] at this
        simp only [List.length_cons, List.length_nil] at this
        exact absurd (i3 (by omega)) j0
      · rw [if_neg r1] at e
        exact ⟨rfl, by simpa using congrArg List.head? e, fun _ => r1⟩
  have back : ∀ (r : Rat), 0 < r → F40 r → frL r = w0 → (k ≠ 0 → r ≠ 1) → P (.tuple [fracD r, .int k]) := fun r r0 rf er rk => h1 r k r0 rf k24 (by
    unfold wordsL
    by_cases k0 : k = 0
    · rw [if_pos k0, er]
      have : init.length = 0 := by
        by_cases z : init.length = 1
        · exact absurd k0 (i2 z)
        · omega
      have hi : init = [] := List.length_eq_zero_iff.mp this
      subst hi
      have : w0 = w := by simpa using (congrArg List.head? e0).symm
      rw [this]
      rfl
    · rw [if_neg k0, if_neg (rk k0), er]
      have : init.length = 1 := by
        by_cases z : init.length = 0
        · exact absurd (i3 z) k0
        · omega
      match init, this with
      | [a], _ =>
        have : w0 = a := by simpa using (congrArg List.head? e0).symm
        rw [this]
        rcases hk with ⟨_, _, c3⟩ | ⟨c1, _⟩
        · rw [c3]; rfl
        · exact absurd c1 k0)
  clear h1
  by_cases hq : ∃ q, F40 q ∧ frL q = w0
  · obtain ⟨q, qf, qe⟩ := hq
    refine cut (fun l s => l = [some (.d (.list (wsD (init ++ [w])))), some (.d (.str (S w))), some (.d (.int k)), some (.d (fracD q))] ∧ s = ⟨none, []⟩) ?_ fun l s hs => ?_
    · simp
      refine ⟨_, idx0, ?_⟩
      refine L_read_fraction_val hw0.1 (by omega) (fun q2 f2 e2 => ?_) fun z => absurd qe (z q qf)
      rw [frL_inj (e2.trans qe.symm)]
    obtain ⟨rfl, rfl⟩ := hs
    simp [fracD, idxN]
    refine .inl ⟨rfl, ?_⟩
    by_cases hp : 0 < q
    · have hn : 0 < q.num := num_pos' hp
      refine .inl ⟨by omega, ?_⟩
      by_cases k0 : k = 0
      · exact .inl ⟨k0, back q hp qf qe fun z => absurd k0 z⟩
      · refine .inr ⟨by omega, ⟨shaped_frac (q := q), by decide +kernel⟩, ?_⟩
        have := frac_one (r := q)
        unfold fracD at this
        rw [this]
        by_cases q1 : q = 1
        · exact .inr ⟨decide_eq_true q1, h0 fun r j r0 rf hj e => by
            obtain ⟨_, e2, e3⟩ := wr r j hj e
            exact e3 k0 ((frL_inj (e2.trans qe.symm)).trans q1)⟩
        · exact .inl ⟨decide_eq_false q1, back q hp qf qe fun _ => q1⟩
    · refine .inr ⟨?_, h0 fun r j r0 rf hj e => hp ?_⟩
      · refine Classical.byContradiction fun z => hp ?_
        refine Rat.not_le.mp fun y => ?_
        have h2 := Rat.le_antisymm y (Rat.num_nonneg.mp (by omega))
        rw [h2] at z
        exact z (by decide)
      · obtain ⟨_, e2, _⟩ := wr r j hj e
        rw [← frL_inj (e2.trans qe.symm)]
        exact r0
  · have hP : P .none := h0 fun r j r0 rf hj e => hq ⟨r, rf, (wr r j hj e).2.1⟩
    refine cut (fun l s => l = [some (.d (.list (wsD (init ++ [w])))), some (.d (.str (S w))), some (.d (.int k)), some (.d .none)] ∧ s = ⟨none, []⟩) ?_ fun l s hs => ?_
    · simp
      refine ⟨_, idx0, ?_⟩
      refine L_read_fraction_val hw0.1 (by omega) (fun q2 f2 e2 => absurd ⟨q2, f2, e2⟩ hq) fun z => rfl
    obtain ⟨rfl, rfl⟩ := hs
    simp [isNon]
    exact hP
end NW
namespace NW
open PySem PySem.Spec PyProof.Rows L2
def nsg (w : List Nat) : Bool := !(w == [43] || w == [45])
theorem nsg_no {w : List Nat} (h : nsg w = false) : w = [43] ∨ w = [45] := by
  unfold nsg at h
  simp at h
  by_cases h1 : w = [43]
  · exact .inl h1
  · exact .inr (h h1)
def sgP (t : Nat × Rat) : List Nat := [if t.2 < 0 then 45 else 43]
theorem nsg_sgP (t : Nat × Rat) : nsg (sgP t) = false := by
  unfold sgP
  split <;> rfl
def wT : List (Nat × Rat) → List (List Nat)
  | [] => []
  | t :: ts => wordsL (ab t.2) t.1 ++ tailL ts
theorem tailL_cons {t : Nat × Rat} {ts : List (Nat × Rat)} : tailL (t :: ts) = sgP t :: wT (t :: ts) := by
  unfold wT tailL sgP
  simp
theorem tw_words {X : List (List Nat)} (hX : X = [] ∨ ∃ c Y, X = c :: Y ∧ nsg c = false) : ∀ {A : List (List Nat)}, (∀ w, w ∈ A → nsg w = true) → (A ++ X).takeWhile nsg = A ∧ (A ++ X).dropWhile nsg = X
  | [], _ => by
    rcases hX with rfl | ⟨c, Y, rfl, hc⟩
    · exact ⟨rfl, rfl⟩
    · simp [hc]
  | a :: A, h => by
    obtain ⟨h1, h2⟩ := tw_words hX (A := A) fun w hw => h w (by simp [hw])
    have ha := h a (by simp)
    simp [ha, h1, h2]
theorem words_nsg {r : Rat} {k : Nat} (hr : 0 < r) : ∀ w, w ∈ wordsL r k → nsg w = true := fun w hw => by
  have := words_no hr w hw
  rw [c_plus, c_minus, S_inj, S_inj] at this
  unfold nsg
  have h1 : ¬ w = [43] := fun z => this (.inl z)
  have h2 : ¬ w = [45] := fun z => this (.inr z)
  simp [h1, h2]
theorem tail_hd (ts : List (Nat × Rat)) : tailL ts = [] ∨ ∃ c Y, tailL ts = c :: Y ∧ nsg c = false := by
  cases ts with
  | nil => exact .inl rfl
  | cons t ts => exact .inr ⟨_, _, tailL_cons, nsg_sgP t⟩
theorem words_cut {a b : Nat × Rat} {X Y : List (List Nat)} (ha : a.2 ≠ 0) (hb : b.2 ≠ 0) (hX : X = [] ∨ ∃ c Z, X = c :: Z ∧ nsg c = false) (hY : Y = [] ∨ ∃ c Z, Y = c :: Z ∧ nsg c = false) (h : wordsL (ab a.2) a.1 ++ X = wordsL (ab b.2) b.1 ++ Y) : a.1 = b.1 ∧ X = Y := by
  obtain ⟨h1, h2⟩ := tw_words hX (words_nsg (k := a.1) (ab_pos ha))
  obtain ⟨h3, h4⟩ := tw_words hY (words_nsg (k := b.1) (ab_pos hb))
  rw [h] at h1 h2
  exact ⟨(wordsL_inj (h1.symm.trans h3)).2, h2.symm.trans h4⟩
theorem tail_next {c : List Nat} {R : List (List Nat)} (hc : nsg c = false) : ∀ {T U : List (Nat × Rat)}, (∀ t, t ∈ T → t.2 ≠ 0) → (∀ t, t ∈ U → t.2 ≠ 0) → tailL U = tailL T ++ c :: R → ∃ T' t V, U = T' ++ t :: V ∧ T'.map (·.1) = T.map (·.1) ∧ c = sgP t ∧ R = wT (t :: V)
  | [], U, _, hU, h => by
    cases U with
    | nil => simp [tailL] at h
    | cons u U =>
      rw [tailL_cons] at h
      have h' : sgP u :: wT (u :: U) = c :: R := h
      injection h' with h1 h2
      exact ⟨[], u, U, rfl, rfl, h1.symm, h2.symm⟩
  | t :: T, U, hT, hU, h => by
    cases U with
    | nil => rw [tailL_cons] at h; simp [tailL] at h
    | cons u U =>
      rw [tailL_cons, tailL_cons] at h
      have h' : sgP u :: wT (u :: U) = sgP t :: (wT (t :: T) ++ c :: R) := h
      injection h' with _ h2
      have h3 : wordsL (ab u.2) u.1 ++ tailL U = wordsL (ab t.2) t.1 ++ (tailL T ++ c :: R) := by
        rw [← List.append_assoc]
        exact h2
      have hY : tailL T ++ c :: R = [] ∨ ∃ d Z, tailL T ++ c :: R = d :: Z ∧ nsg d = false := by
        rcases tail_hd T with e | ⟨d, Z, e, hd⟩
        · exact .inr ⟨c, R, by rw [e]; rfl, hc⟩
        · exact .inr ⟨d, Z ++ c :: R, by rw [e]; rfl, hd⟩
      obtain ⟨e1, e2⟩ := words_cut (hU u (by simp)) (hT t (by simp)) (tail_hd U) hY h3
      obtain ⟨T', v, V, f1, f2, f3, f4⟩ := tail_next hc (fun x hx => hT x (by simp [hx])) (fun x hx => hU x (by simp [hx])) e2
      exact ⟨u :: T', v, V, by rw [f1]; rfl, by simp [f2, e1], f3, f4⟩
theorem wT_next {c : List Nat} {R : List (List Nat)} {T U : List (Nat × Rat)} (hc : nsg c = false) (hT : ∀ t, t ∈ T → t.2 ≠ 0) (hU : ∀ t, t ∈ U → t.2 ≠ 0) (nT : T ≠ []) (h : wT U = wT T ++ c :: R) : ∃ T' t V, U = T' ++ t :: V ∧ T'.map (·.1) = T.map (·.1) ∧ c = sgP t ∧ R = wT (t :: V) := by
  match T, nT with
  | t :: T, _ =>
    cases U with
    | nil => simp [wT] at h
    | cons u U =>
      have h3 : wordsL (ab u.2) u.1 ++ tailL U = wordsL (ab t.2) t.1 ++ (tailL T ++ c :: R) := by
        rw [← List.append_assoc]
        exact h
      have hY : tailL T ++ c :: R = [] ∨ ∃ d Z, tailL T ++ c :: R = d :: Z ∧ nsg d = false := by
        rcases tail_hd T with e | ⟨d, Z, e, hd⟩
        · exact .inr ⟨c, R, by rw [e]; rfl, hc⟩
        · exact .inr ⟨d, Z ++ c :: R, by rw [e]; rfl, hd⟩
      obtain ⟨e1, e2⟩ := words_cut (hU u (by simp)) (hT t (by simp)) (tail_hd U) hY h3
      obtain ⟨T', v, V, f1, f2, f3, f4⟩ := tail_next hc (fun x hx => hT x (by simp [hx])) (fun x hx => hU x (by simp [hx])) e2
      exact ⟨u :: T', v, V, by rw [f1]; rfl, by simp [f2, e1], f3, f4⟩
theorem wT_first {t : Nat × Rat} {V : List (Nat × Rat)} (ht : t.2 ≠ 0) : (wT (t :: V)).takeWhile nsg = wordsL (ab t.2) t.1 ∧ (wT (t :: V)).dropWhile nsg = tailL V := tw_words (tail_hd V) (words_nsg (ab_pos ht))
def Dec (T : List (Nat × Rat)) : Prop := T.Pairwise fun a b => b.1 < a.1
theorem teL_dec {p : Pol} {n : Nat} : Dec (teL p n) := by
  unfold Dec teL
  rw [List.pairwise_map]
  refine List.Pairwise.filter _ ?_
  rw [List.pairwise_reverse]
  exact List.pairwise_lt_range
theorem dec_ext : ∀ {A B : List (Nat × Rat)}, Dec A → Dec B → (∀ x, x ∈ A ↔ x ∈ B) → A = B
  | [], [], _, _, _ => rfl
  | [], b :: B, _, _, h => absurd ((h b).mpr (by simp)) (by simp)
  | a :: A, [], _, _, h => absurd ((h a).mp (by simp)) (by simp)
  | a :: A, b :: B, hA, hB, h => by
    obtain ⟨a1, a2⟩ := List.pairwise_cons.mp hA
    obtain ⟨b1, b2⟩ := List.pairwise_cons.mp hB
    have e : a = b := by
      have h1 := (h a).mp (by simp)
      have h2 := (h b).mpr (by simp)
      rcases List.mem_cons.mp h1 with e | h1
      · exact e
      · rcases List.mem_cons.mp h2 with e | h2
        · exact e.symm
        · have := a1 b h2
          have := b1 a h1
          omega
    subst e
    rw [dec_ext a2 b2 fun x => ?_]
    have := h x
    constructor
    · intro hx
      rcases List.mem_cons.mp (this.mp (by simp [hx])) with e | z
      · rw [e] at hx; have := a1 a hx; omega
      · exact z
    · intro hx
      rcases List.mem_cons.mp (this.mpr (by simp [hx])) with e | z
      · rw [e] at hx; have := b1 a hx; omega
      · exact z
def cs (T : List (Nat × Rat)) (j : Nat) : Rat := T.foldr (fun t a => (if t.1 = j then t.2 else 0) + a) 0
theorem cs_snoc {T : List (Nat × Rat)} {t : Nat × Rat} {j : Nat} : cs (T ++ [t]) j = cs T j + if t.1 = j then t.2 else 0 := by
  induction T with
  | nil => simp [cs]; grind
  | cons u T ih =>
    have e1 : cs (u :: T ++ [t]) j = (if u.1 = j then u.2 else 0) + cs (T ++ [t]) j := rfl
    have e2 : cs (u :: T) j = (if u.1 = j then u.2 else 0) + cs T j := rfl
    rw [e1, e2, ih, Rat.add_assoc]
theorem cs_out {T : List (Nat × Rat)} {j : Nat} (h : ∀ t, t ∈ T → t.1 ≠ j) : cs T j = 0 := by
  induction T with
  | nil => rfl
  | cons u T ih =>
    have e2 : cs (u :: T) j = (if u.1 = j then u.2 else 0) + cs T j := rfl
    rw [e2, ih fun t ht => h t (by simp [ht]), if_neg (h u (by simp))]
    grind
theorem cs_in {T : List (Nat × Rat)} (hT : Dec T) {t : Nat × Rat} (h : t ∈ T) : cs T t.1 = t.2 := by
  induction T with
  | nil => simp at h
  | cons u T ih =>
    obtain ⟨a1, a2⟩ := List.pairwise_cons.mp hT
    have e2 : cs (u :: T) t.1 = (if u.1 = t.1 then u.2 else 0) + cs T t.1 := rfl
    rw [e2]
    rcases List.mem_cons.mp h with e | h
    · subst e
      rw [if_pos rfl, cs_out fun v hv => by have := a1 v hv; omega]
      grind
    · have := a1 t h
      rw [if_neg (by omega), ih a2 h]
      grind
theorem teL_of {T : List (Nat × Rat)} {p : Pol} (hT : Dec T) (h0 : ∀ t, t ∈ T → t.2 ≠ 0) (hp : ∀ j, p.co j = cs T j) : teL p p.ts.length = T := by
  refine dec_ext teL_dec hT fun t => ?_
  rw [teL_mem]
  constructor
  · rintro ⟨h1, h2, h3⟩
    rw [hp] at h2
    by_cases h : ∃ u, u ∈ T ∧ u.1 = t.1
    · obtain ⟨u, hu, e⟩ := h
      have := cs_in hT hu
      rw [e, ← h2] at this
      have : u = t := Prod.ext e this.symm
      exact this ▸ hu
    · rw [cs_out fun u hu e => h ⟨u, hu, e⟩] at h2
      exact absurd h2 h3
  · intro ht
    have e := cs_in hT ht
    have hne := h0 t ht
    refine ⟨Classical.byContradiction fun z => hne ?_, by rw [hp, e], hne⟩
    rw [← e, ← hp]
    exact co_high (by omega)
end NW
namespace NW
open PySem PySem.Spec PyProof.Rows L2
theorem wT_head {t : Nat × Rat} (ht : t.2 ≠ 0) {V : List (Nat × Rat)} : ∃ c r, TL.joinL [32] (wT (t :: V)) = c :: r ∧ 48 ≤ c := by
  have hf : ∃ c s, frL (ab t.2) = c :: s ∧ 48 ≤ c := by
    have hp : 0 < (ab t.2).num := num_pos' (ab_pos ht)
    obtain ⟨c', s', e', h'⟩ := absL_head (ab t.2)
    exact ⟨c', s', by rw [frL_abs, if_neg (by omega)]; exact e', h'⟩
  obtain ⟨c, s, ef, hc⟩ := hf
  have hw : ∃ c s, woL (ab t.2) t.1 = c :: s ∧ 48 ≤ c := by
    unfold woL
    split
    · exact ⟨c, s, ef, hc⟩
    · split
      · cases el : leL t.1 with
        | nil => exact absurd el (leL_ne t.1)
        | cons d u => exact ⟨d, u, rfl, leL_in (k := t.1) d (by rw [el]; simp)⟩
      · rw [ef]; exact ⟨c, _, rfl, hc⟩
  obtain ⟨d, u, ew, hd⟩ := hw
  refine ⟨d, u ++ (V.flatMap fun t => moreL t.1 t.2), ?_, hd⟩
  unfold wT
  rw [tail_join (wordsL_ne _ _), ← woL_join, ew]
  rfl
theorem accL_wT {t : Nat × Rat} {V : List (Nat × Rat)} : accL (t :: V) = (if t.2 < 0 then [45] else []) ++ TL.joinL [32] (wT (t :: V)) := by
  unfold wT
  rw [tail_join (wordsL_ne _ _), ← woL_join]
  obtain ⟨k, r⟩ := t
  show firstL k r ++ (V.flatMap fun t => moreL t.1 t.2) = (if r < 0 then [45] else []) ++ (woL (ab r) k ++ V.flatMap fun t => moreL t.1 t.2)
  unfold firstL ab
  rw [List.append_assoc]
def HdS (s : Int) (T : List (Nat × Rat)) : Prop := ∃ t V, T = t :: V ∧ ((s = -1 ∧ t.2 < 0) ∨ (s = 1 ∧ ¬ t.2 < 0))
def TmOk (t : Nat × Rat) : Prop := t.2 ≠ 0 ∧ F40 t.2 ∧ t.1 ≤ 24
theorem poL_good {p : Pol} (h : Gd p) (h0 : p.ts ≠ []) {l pp : List Nat} {s : Int} {ps : List (List Nat)} (e : poL p = l) (hs : SgP l s pp) (n1 : ps ≠ []) (n2 : ∀ x, x ∈ ps → 32 ∉ x) (n3 : pp = TL.joinL [32] ps) :
    ∃ U, Dec U ∧ (∀ t, t ∈ U → TmOk t) ∧ ps = wT U ∧ HdS s U := by
  have hl := List.length_pos_iff.mpr h0
  have hn : teL p p.ts.length ≠ [] := by
    intro z
    have : (p.ts.length - 1, p.co (p.ts.length - 1)) ∈ teL p p.ts.length := teL_mem.mpr ⟨by dsimp only; omega, rfl, co_lead h0⟩
    rw [z] at this
    simp at this
  have ep : poL p = accL (teL p p.ts.length) := by
    unfold NW.poL
    split
    · rename_i e; exact absurd e hn
    · rfl
  have hok : ∀ t, t ∈ teL p p.ts.length → TmOk t := fun t ht => by
    obtain ⟨a, b, c⟩ := teL_mem.mp ht
    exact ⟨c, by rw [b]; exact h.2 _, by have := h.1; omega⟩
  refine ⟨teL p p.ts.length, teL_dec, hok, ?_⟩
  cases eU : teL p p.ts.length with
  | nil => exact absurd eU hn
  | cons t V =>
    rw [eU] at ep hok
    have ht := (hok t (by simp)).1
    rw [ep, accL_wT] at e
    obtain ⟨c, r, ej, hc⟩ := wT_head ht (V := V)
    have free : ∀ x, x ∈ wT (t :: V) → 32 ∉ x := fun x hx => by
      unfold wT at hx
      rcases List.mem_append.mp hx with hx | hx
      · exact wordsL_free x hx
      · exact tailL_free x hx
    have ne : wT (t :: V) ≠ [] := by
      unfold wT
      have := wordsL_ne (ab t.2) t.1
      simp [this]
    have both : pp = TL.joinL [32] (wT (t :: V)) ∧ ((s = -1 ∧ t.2 < 0) ∨ (s = 1 ∧ ¬ t.2 < 0)) := by
      by_cases hn : t.2 < 0
      · rw [if_pos hn] at e
        rcases hs with ⟨h1, h2⟩ | ⟨h1, h2, h3⟩
        · rw [h2] at e
          injection e with _ e
          exact ⟨e.symm, .inl ⟨h1, hn⟩⟩
        · exact absurd (by rw [← e]; rfl) h3
      · rw [if_neg hn] at e
        have e' : TL.joinL [32] (wT (t :: V)) = l := e
        rcases hs with ⟨h1, h2⟩ | ⟨h1, h2, h3⟩
        · rw [h2, ej] at e'
          injection e' with e' _
          omega
        · exact ⟨by rw [h2, e'], .inr ⟨h1, hn⟩⟩
    exact ⟨pieces_uniq n1 ne n2 free (by rw [← n3, both.1]), t, V, rfl, both.2⟩
theorem good_poL {T : List (Nat × Rat)} (hT : Dec T) (h0 : ∀ t, t ∈ T → TmOk t) {p : Pol} (hp : ∀ j, p.co j = cs T j) {l pp : List Nat} {s : Int} {ps : List (List Nat)} (hs : SgP l s pp) (n3 : pp = TL.joinL [32] ps) (e : ps = wT T) (hh : HdS s T) : Gd p ∧ poL p = l := by
  have eT := teL_of hT (fun t ht => (h0 t ht).1) hp
  obtain ⟨t, V, rfl, hsg⟩ := hh
  refine ⟨⟨?_, fun k => ?_⟩, ?_⟩
  · refine Classical.byContradiction fun z => ?_
    have h1 : p.ts ≠ [] := fun w => by rw [w] at z; simp at z
    have h2 : (p.ts.length - 1, p.co (p.ts.length - 1)) ∈ teL p p.ts.length := teL_mem.mpr ⟨by dsimp only; omega, rfl, co_lead h1⟩
    rw [eT] at h2
    have := (h0 _ h2).2.2
    dsimp only at this
    omega
  · by_cases hz : p.co k = 0
    · rw [hz]; exact ⟨by decide, by decide⟩
    · have h2 : (k, p.co k) ∈ teL p p.ts.length := teL_mem.mpr ⟨Classical.byContradiction fun z => hz (co_high (by dsimp only at z; omega)), rfl, hz⟩
      rw [eT] at h2
      exact (h0 _ h2).2.1
  · have ep : poL p = accL (t :: V) := by
      unfold NW.poL
      rw [eT]
    rw [ep, accL_wT, sgn_text hs (x := 0), n3, e]
    congr 1
    rcases hsg with ⟨a, b⟩ | ⟨a, b⟩
    · rw [if_pos b, if_pos a]
    · rw [if_neg b, if_neg (by omega)]
end NW
namespace NW
open PySem PySem.Spec PyProof.Rows L2
structure RdI (s0 : Int) (ps0 : List (List Nat)) (T : List (Nat × Rat)) (s : Int) (R : List (List Nat)) (p : Pol) (h : Nat) : Prop where
  dec : Dec T
  ok : ∀ t, t ∈ T → TmOk t
  co : ∀ j, p.co j = cs T j
  size : PBt (150 * T.length + 1) 25 p
  len : T.length + h ≤ 25
  low : ∀ t, t ∈ T → h ≤ t.1
  last : T ≠ [] → ∃ t, t ∈ T ∧ t.1 = h
  first : T = [] → h = 25
  sg : s = 1 ∨ s = -1
  form : (T = [] ∧ R = ps0 ∧ s = s0) ∨ (T ≠ [] ∧ HdS s0 T ∧ ((R ≠ [] ∧ ps0 = wT T ++ (if s = -1 then [45] else [43]) :: R) ∨ (R = [] ∧ ps0 = wT T)))
theorem RdI.next {s0 s : Int} {ps0 R : List (List Nat)} {T U : List (Nat × Rat)} {p : Pol} {h : Nat} (I : RdI s0 ps0 T s R p h) (hR : R ≠ []) (uD : Dec U) (uO : ∀ t, t ∈ U → TmOk t) (e : ps0 = wT U) : ∃ t V, R = wT (t :: V) ∧ TmOk t ∧ t.1 < h ∧ (∀ v, v ∈ V → TmOk v) := by
  rcases I.form with ⟨h1, h2, _⟩ | ⟨h1, _, ⟨_, h2⟩ | ⟨h2, _⟩⟩
  · rw [h2, e] at hR
    cases U with
    | nil => exact absurd rfl hR
    | cons t V =>
      refine ⟨t, V, by rw [h2, e], uO t (by simp), ?_, fun v hv => uO v (by simp [hv])⟩
      have := (uO t (by simp)).2.2
      rw [I.first h1]
      omega
  · rw [e] at h2
    have hc : nsg (if s = -1 then [45] else [43]) = false := by split <;> rfl
    obtain ⟨T', t, V, e1, e2, e3, e4⟩ := wT_next hc (fun t ht => (I.ok t ht).1) (fun t ht => (uO t ht).1) h1 h2
    refine ⟨t, V, e4, uO t (by rw [e1]; simp), ?_, fun v hv => uO v (by rw [e1]; simp [hv])⟩
    obtain ⟨u, hu, hu2⟩ := I.last h1
    have : u.1 ∈ T'.map (·.1) := by rw [e2]; exact List.mem_map_of_mem hu
    obtain ⟨v, hv, hv2⟩ := List.mem_map.mp this
    unfold Dec at uD
    rw [e1, List.pairwise_append] at uD
    have := uD.2.2 v hv t (by simp)
    omega
  · exact absurd h2 hR
theorem RdI.step {s0 s : Int} {ps0 R : List (List Nat)} {T : List (Nat × Rat)} {p : Pol} {h k : Nat} {r : Rat} (I : RdI s0 ps0 T s R p h) (hR : R ≠ []) (r0 : 0 < r) (rf : F40 r) (kh : k < h) (k24 : k ≤ 24) (hs0 : s0 = 1 ∨ s0 = -1) (hw : wordsL r k = R.takeWhile nsg) {s' : Int} {R' : List (List Nat)} (hs' : s' = 1 ∨ s' = -1)
    (hR' : (R.dropWhile nsg = [] ∧ R' = []) ∨ (R' ≠ [] ∧ R.dropWhile nsg = (if s' = -1 then [45] else [43]) :: R')) : RdI s0 ps0 (T ++ [(k, if s = -1 then -r else r)]) s' R' (p + mono (if s = -1 then -r else r) k) k := by
  obtain ⟨v, hv⟩ : ∃ v : Rat, v = if s = -1 then -r else r := ⟨_, rfl⟩
  rw [← hv]
  have v0 : v ≠ 0 := by
    rw [hv]
    split
    · grind
    · grind
  have va : ab v = r := by
    unfold ab
    rw [hv]
    split <;> split <;> grind
  have vf : F40 v := by
    rw [hv]
    split
    · exact ⟨by rw [Rat.neg_num, Int.natAbs_neg]; exact rf.1, by rw [Rat.neg_den]; exact rf.2⟩
    · exact rf
  have vs : (s = -1 ∧ v < 0) ∨ (s = 1 ∧ ¬ v < 0) := by
    rcases I.sg with q | q
    · right
      refine ⟨q, ?_⟩
      rw [hv, if_neg (by omega)]
      grind
    · left
      refine ⟨q, ?_⟩
      rw [hv, if_pos q]
      grind
  have all : R = wordsL (ab v) k ++ R.dropWhile nsg := by
    rw [va, hw]
    exact (List.takeWhile_append_dropWhile).symm
  have sp : sgP (k, v) = if s = -1 then [45] else [43] := by
    unfold sgP
    rcases vs with ⟨a, b⟩ | ⟨a, b⟩
    · rw [if_pos a]; simp [b]
    · rw [if_neg (show ¬ s = -1 by omega)]; simp [b]
  have w1 : wT (T ++ [(k, v)]) = if T = [] then wordsL (ab v) k else wT T ++ (if s = -1 then [45] else [43]) :: wordsL (ab v) k := by
    cases T with
    | nil => simp [wT, tailL]
    | cons t T =>
      rw [if_neg (by simp), ← sp]
      simp [wT, tailL, sgP]
  have fb : FB 140 v := ⟨Nat.lt_of_lt_of_le vf.1 (by decide +kernel), Nat.lt_of_lt_of_le vf.2 (by decide +kernel)⟩
  refine ⟨?_, ?_, ?_, ?_, ?_, ?_, ?_, ?_, hs', ?_⟩
  · unfold Dec
    rw [List.pairwise_append]
    refine ⟨I.dec, by simp, fun t ht u hu => ?_⟩
    simp at hu
    rw [hu]
    have := I.low t ht
    dsimp only
    omega
  · intro t ht
    rcases List.mem_append.mp ht with ht | ht
    · exact I.ok t ht
    · simp at ht
      rw [ht]
      exact ⟨v0, vf, k24⟩
  · intro j
    rw [co_add, I.co j, cs_snoc, co_mono]
    congr 1
    by_cases e : j = k
    · rw [if_pos e, if_pos e.symm]
    · rw [if_neg e, if_neg (fun z => e z.symm)]
  · have := (I.size.add ((mono_sz fb (e := k)).mono (Nat.le_refl _) (m' := 25) (by omega)))
    refine this.mono ?_ (Nat.le_refl _)
    rw [List.length_append]
    simp
    omega
  · have := I.len
    rw [List.length_append]
    simp
    omega
  · intro t ht
    rcases List.mem_append.mp ht with ht | ht
    · have := I.low t ht; omega
    · simp at ht; rw [ht]; exact Nat.le_refl _
  · intro _
    exact ⟨(k, v), by simp, rfl⟩
  · intro z
    simp at z
  · right
    have hd : HdS s0 (T ++ [(k, v)]) := by
      rcases I.form with ⟨h1, h2, h3⟩ | ⟨h1, ⟨t, V, e1, e2⟩, _⟩
      · rw [h1]
        exact ⟨(k, v), [], rfl, by rw [← h3]; exact vs⟩
      · exact ⟨t, V ++ [(k, v)], by rw [e1]; rfl, e2⟩
    refine ⟨by simp, hd, ?_⟩
    have base : ps0 = wT (T ++ [(k, v)]) ++ R.dropWhile nsg := by
      rw [w1]
      rcases I.form with ⟨h1, h2, h3⟩ | ⟨h1, _, ⟨_, h2⟩ | ⟨h2, _⟩⟩
      · rw [if_pos h1, ← h2]
        exact all
      · rw [if_neg h1, h2, List.append_assoc]
        rw [List.cons_append, ← all]
      · exact absurd h2 hR
    rcases hR' with ⟨a, b⟩ | ⟨a, b⟩
    · exact .inr ⟨b, by rw [base, a, List.append_nil]⟩
    · exact .inl ⟨a, by rw [base, b]⟩
end NW
namespace NW
open PySem PySem.Spec PyProof.Rows L2
theorem cutD_from {xs : List PyData} {k : Nat} : cutD xs (some (k : Int)) none = xs.drop k := by
  unfold cutD
  rw [HT.sIx_nat, HT.sIx_none]
  by_cases h : k ≤ xs.length
  · rw [Nat.min_eq_left h, List.take_of_length_le (by simp)]
  · rw [Nat.min_eq_right (by omega), List.take_of_length_le (by simp), List.drop_eq_nil_of_le (Nat.le_refl _), List.drop_eq_nil_of_le (by omega)]
theorem wsD_len {R : List (List Nat)} : (wsD R).length = R.length := by simp [wsD]
theorem wsD_take {R : List (List Nat)} {m : Nat} : (wsD R).take m = wsD (R.take m) := by simp [wsD]
theorem wsD_drop {R : List (List Nat)} {m : Nat} : (wsD R).drop m = wsD (R.drop m) := by simp [wsD]
theorem RdI.sub {s0 s : Int} {ps0 R : List (List Nat)} {T : List (Nat × Rat)} {p : Pol} {h : Nat} (I : RdI s0 ps0 T s R p h) : ∀ x, x ∈ R → x ∈ ps0 := fun x hx => by
  rcases I.form with ⟨h1, h2, _⟩ | ⟨h1, _, ⟨_, h2⟩ | ⟨h2, _⟩⟩
  · rw [← h2]; exact hx
  · rw [h2]; simp [hx]
  · rw [h2] at hx; simp at hx
theorem RdI.subl {s0 s : Int} {ps0 R : List (List Nat)} {T : List (Nat × Rat)} {p : Pol} {h : Nat} (I : RdI s0 ps0 T s R p h) : R.length ≤ ps0.length := by
  rcases I.form with ⟨h1, h2, _⟩ | ⟨h1, _, ⟨_, h2⟩ | ⟨h2, _⟩⟩
  · rw [← h2]; exact Nat.le_refl _
  · rw [h2]; simp; omega
  · rw [h2]; simp
theorem tw_at : ∀ {R : List (List Nat)} {j : Nat} (hj : j < R.length), j = (R.takeWhile nsg).length → nsg R[j] = false
  | c :: R, j, hj, e => by
    by_cases hc : nsg c = true
    · rw [List.takeWhile_cons_of_pos hc, List.length_cons] at e
      obtain ⟨i, rfl⟩ : ∃ i, j = i + 1 := ⟨j - 1, by omega⟩
      exact tw_at (R := R) (j := i) (by simpa using hj) (by omega)
    · rw [List.takeWhile_cons_of_neg hc] at e
      have : j = 0 := e
      subst this
      simpa using hc
theorem many_run {l : List Nat} {s h n0 : Int} {R : List (List Nat)} {P : PyData} {a6 a7 a8 a9 : Option U} (hR : R.length ≤ 1000000) (ha : ∀ x, x ∈ R → Asc x) (hn0 : n0 = (R.length : Int)) {L0 : NW.Loc} (hL0 : L0 = [some (.d (.str (S l))), some (.d (.int s)), some (.d (.list (wsD R))), some (.d P), some (.d (.int h)), some (.d (.int n0)), a6, a7, a8, a9]) {N : NW.Loc → Sto → Prop} {Q : U → Sto → Prop}
    (fin : ∀ a6 m, m = ((R.takeWhile nsg).length : Int) → N [some (.d (.str (S l))), some (.d (.int s)), some (.d (.list (wsD R))), some (.d P), some (.d (.int h)), some (.d (.int m)), a6, a7, a8, a9] ⟨none, []⟩) :
    (sFor (mR1 (aCons (eCB cLen (aCons (eVar 2) aNil)) aNil)) (gNameM 6)
    (sIf (bTest (eOp (fIn false) (eOp fIx (eVar 2) (eVar 6)) (eTup (aCons (eC (.str ("+" : Str))) (aCons (eC (.str ("-" : Str))) aNil)))))
    (sAsg 5 (eCB cMin2 (aCons (eVar 5) (aCons (eVar 6) aNil))))
    sNext) L0 ⟨none, []⟩).To N Q := by
  obtain ⟨t, ht⟩ : ∃ t, t = (R.takeWhile nsg).length := ⟨_, rfl⟩
  have htl : t ≤ R.length := by rw [ht]; exact (List.takeWhile_sublist nsg).length_le
  obtain ⟨I, hI⟩ : ∃ I : Nat → NW.Loc → Sto → Prop, ∀ j l' st, I j l' st ↔ ∃ (a6 : Option U) (m : Int), l' = [some (.d (.str (S l))), some (.d (.int s)), some (.d (.list (wsD R))), some (.d P), some (.d (.int h)), some (.d (.int m)), a6, a7, a8, a9] ∧ st = ⟨none, []⟩ ∧ m = if t < j then (t : Int) else (R.length : Int) := ⟨_, fun _ _ _ => Iff.rfl⟩
  have start : I 0 L0 ⟨none, []⟩ := (hI _ _ _).mpr ⟨a6, n0, hL0, rfl, by rw [if_neg (by omega)]; exact hn0⟩
  have hL : L0[2]? = some (some (.d (.list (wsD R)))) := by
    rw [hL0]; rfl
  have hr : rOk (R.length : Int) = true := decide_eq_true (by omega)
  have hr2 : R.length ≤ 16777216 := by omega
  simp [hL, wsD_len, hr, hr2]
  refine for_ix I (fun _ _ _ _ => chk_nil) start ?_ ?_
  · rintro j x l' st hx h'
    obtain ⟨a6, m, e1, e2, hm⟩ := (hI _ _ _).mp h'
    have hj := (List.getElem?_eq_some_iff.mp hx).1
    simp [rangeD] at hj
    have hxj : x = .int j := by
      have := (List.getElem?_eq_some_iff.mp hx).2
      rw [← this]
      simp [rangeD]
    subst hxj
    have hix : idxN (wsD R).length (j : Int) = some j := idxN_nat (by rw [wsD_len]; exact hj)
    have hget : (wsD R)[j]? = some (.str (S R[j])) := by
      unfold wsD
      rw [List.getElem?_map, List.getElem?_eq_getElem hj]
      rfl
    have hsg : nsg R[j] = true ↔ (R[j] ≠ [43] ∧ R[j] ≠ [45]) := by
      unfold nsg
      simp
    have hlt : j < t → nsg R[j] = true := fun q => by
      have h1 : (R.takeWhile nsg)[j]'(by rw [← ht]; exact q) = R[j] := by
        exact (List.takeWhile_prefix nsg).getElem _
      have := List.all_takeWhile (p := nsg) (l := R)
      rw [List.all_eq_true] at this
      rw [← h1]
      exact this _ (List.getElem_mem _)
    have heq : j = t → nsg R[j] = false := fun q => by
      exact tw_at hj (q.trans ht)
    have nx : ∀ m' : Int, m' = (if t < j + 1 then (t : Int) else (R.length : Int)) → I (j + 1) [some (.d (.str (S l))), some (.d (.int s)), some (.d (.list (wsD R))), some (.d P), some (.d (.int h)), some (.d (.int m')), some (.d (.int j)), a7, a8, a9] ⟨none, []⟩ := fun m' e => (hI _ _ _).mpr ⟨_, m', rfl, rfl, e⟩
    rw [e1, e2]
    simp [hix, hget]
    rw [to_inT]
    refine ⟨⟨rfl, fun y hy => by simp at hy; rcases hy with rfl | rfl <;> rfl⟩, ?_⟩
    cases hn : nsg R[j] with
    | true =>
      obtain ⟨n1, n2⟩ := hsg.mp hn
      refine .inl ⟨?_, nx m ?_⟩
      · simp [eqv_S]
        exact ⟨fun z => n1 z.symm, fun z => n2 z.symm⟩
      · have : j ≠ t := fun z => by rw [heq z] at hn; cases hn
        rw [hm]
        split <;> split <;> first | rfl | omega
    | false =>
      have h1 : R[j] = [43] ∨ R[j] = [45] := nsg_no hn
      refine .inr ⟨?_, nx _ ?_⟩
      · simp [eqv_S]
        rcases h1 with z | z
        · exact .inl z.symm
        · exact .inr z.symm
      · have : ¬ j < t := fun z => by rw [hlt z] at hn; cases hn
        rw [hm]
        split <;> split <;> first | rfl | omega | (split <;> omega)
  · rintro l' st h'
    obtain ⟨a6, m, rfl, rfl, hm⟩ := (hI _ _ _).mp h'
    have hl : (rangeD 0 1 R.length).length = R.length := by simp [rangeD]
    rw [hl] at hm
    refine fin a6 m ?_
    rw [hm, ← ht]
    split
    · rfl
    · omega
end NW
namespace NW
open PySem PySem.Spec PyProof.Rows L2
theorem rd_word {s0 s : Int} {l : List Nat} {ps0 R : List (List Nat)} {T : List (Nat × Rat)} {p : Pol} {h : Nat} (I : RdI s0 ps0 T s R p h) (hR : R ≠ []) (hs0 : s0 = 1 ∨ s0 = -1) (hps : ∀ x, x ∈ ps0 → Asc x ∧ x.length ≤ 900000) (hpl : ps0.length ≤ 1000000) {P : PyData → Prop} (noP : (∀ U, Dec U → (∀ t, t ∈ U → TmOk t) → ps0 = wT U → False) → P .none) {a8 a9 : Option U} {m : Int} (hm : m = ((R.takeWhile nsg).length : Int)) {a6 a7 : Option U}
    {L0 : NW.Loc} (hL0 : L0 = [some (.d (.str (S l))), some (.d (.int s)), some (.d (.list (wsD R))), some (.d (polyD p)), some (.d (.int h)), some (.d (.int m)), a6, a7, a8, a9]) {N : NW.Loc → Sto → Prop}
    (fin : ∀ (r : Rat) (k : Nat), 0 < r → F40 r → k ≤ 24 → k < h → wordsL r k = R.takeWhile nsg → R.take (if m > 1 then m else 1).toNat = R.takeWhile nsg → R.drop (if m > 1 then m else 1).toNat = R.dropWhile nsg → N [some (.d (.str (S l))), some (.d (.int s)), some (.d (.list (wsD R))), some (.d (polyD p)), some (.d (.int h)), some (.d (.int m)), a6, some (.d (.tuple [fracD r, .int k])), a8, a9] ⟨none, []⟩) :
    (sSeq (sAsg 7 (eCallP 1 m_L_read_word (aCons (eSlAny (eVar 2) oNone (oSome (eCB cMax2 (aCons (eC (.int 1)) (aCons (eVar 5) aNil))))) aNil)))
    (sIf (bOr (bTest (eOp (fIsN false) (eVar 7) (eC .none))) (bTest (eOp fGe (eOp fIx (eVar 7) (eC (.int 1))) (eVar 4))))
    (sRet (eC .none))
    sNext) L0 ⟨none, []⟩).To N (retP P) := by
  obtain ⟨M, hM⟩ : ∃ M : Nat, (M : Int) = (if m > 1 then m else 1) := ⟨(if m > 1 then m else 1).toNat, by split <;> omega⟩
  have hM1 : 1 ≤ M := by split at hM <;> omega
  have hW0 : R.take M ≠ [] := by
    obtain ⟨j, hj⟩ : ∃ j, M = j + 1 := ⟨M - 1, by omega⟩
    rw [hj]
    cases R with
    | nil => exact absurd rfl hR
    | cons c R' => simp
  have hsubl := I.subl
  have hWm : ∀ x, x ∈ R.take M → Asc x ∧ x.length ≤ 900000 := fun x hx => hps x (I.sub x (List.mem_of_mem_take hx))
  have hWl : (R.take M).length ≤ 1000000 := by rw [List.length_take]; omega
  -- how the words lie
  have lay : R.takeWhile nsg ≠ [] → R.take M = R.takeWhile nsg ∧ R.drop M = R.dropWhile nsg := fun hne => by
    have hlen := List.length_pos_iff.mpr hne
    have e : M = (R.takeWhile nsg).length := by split at hM <;> omega
    have h1 : R.takeWhile nsg ++ R.dropWhile nsg = R := List.takeWhile_append_dropWhile
    constructor
    · have := List.take_left (l₁ := R.takeWhile nsg) (l₂ := R.dropWhile nsg)
      rw [h1] at this
      rw [e, this]
    · have := List.drop_left (l₁ := R.takeWhile nsg) (l₂ := R.dropWhile nsg)
      rw [h1] at this
      rw [e, this]
  have next : ∀ U, Dec U → (∀ t, t ∈ U → TmOk t) → ps0 = wT U → ∃ t V, R = wT (t :: V) ∧ TmOk t ∧ t.1 < h ∧ R.takeWhile nsg = wordsL (ab t.2) t.1 ∧ R.take M = wordsL (ab t.2) t.1 := fun U u1 u2 u3 => by
    obtain ⟨t, V, e, ok, lt, _⟩ := I.next hR u1 u2 u3
    have e2 : R.takeWhile nsg = wordsL (ab t.2) t.1 := by rw [e]; exact (wT_first ok.1).1
    have hne : R.takeWhile nsg ≠ [] := by rw [e2]; exact wordsL_ne _ _
    exact ⟨t, V, e, ok, lt, e2, by rw [(lay hne).1, e2]⟩
  refine cut (fun L st => (L = [some (.d (.str (S l))), some (.d (.int s)), some (.d (.list (wsD R))), some (.d (polyD p)), some (.d (.int h)), some (.d (.int m)), a6, some (.d .none), a8, a9] ∧ st = ⟨none, []⟩ ∧ P .none) ∨ ∃ (r : Rat) (k : Nat), (0 < r ∧ F40 r ∧ k ≤ 24 ∧ wordsL r k = R.take M) ∧ L = [some (.d (.str (S l))), some (.d (.int s)), some (.d (.list (wsD R))), some (.d (polyD p)), some (.d (.int h)), some (.d (.int m)), a6, some (.d (.tuple [fracD r, .int k])), a8, a9] ∧ st = ⟨none, []⟩) ?_ fun L st hs => ?_
  · rw [hL0]
    simp
    rw [← hM, cutD_takeN, wsD_take]
    refine L_read_word_val hW0 hWm hWl (fun r k b1 b2 b3 b4 => .inr ⟨r, k, ⟨b1, b2, b3, b4⟩, rfl⟩) fun z => .inl ⟨rfl, noP fun U u1 u2 u3 => ?_⟩
    obtain ⟨t, V, _, ok, _, _, e⟩ := next U u1 u2 u3
    exact z (ab t.2) t.1 (ab_pos ok.1) ok.2.1.ab ok.2.2 e.symm
  rcases hs with ⟨rfl, rfl, hP⟩ | ⟨r, k, ⟨b1, b2, b3, b4⟩, rfl, rfl⟩
  · simp [isNon]
    exact hP
  · have hne : R.takeWhile nsg ≠ [] := by
      intro z
      cases R with
      | nil => exact hR rfl
      | cons c R' =>
        have hc : nsg c = false := by
          cases hc : nsg c with
          | false => rfl
          | true => rw [List.takeWhile_cons_of_pos hc] at z; cases z
        have : c ∈ wordsL r k := by
          rw [b4]
          obtain ⟨j, rfl⟩ : ∃ j, M = j + 1 := ⟨M - 1, by omega⟩
          simp
        have := words_nsg b1 c this
        rw [hc] at this
        cases this
    obtain ⟨l1, l2⟩ := lay hne
    have hMt : (if m > 1 then m else 1).toNat = M := by rw [← hM]; simp
    simp [isNon, idxN]
    by_cases hk : k < h
    · refine .inl ⟨by omega, ?_⟩
      exact fin r k b1 b2 b3 hk (b4.trans l1) (by rw [hMt]; exact l1) (by rw [hMt]; exact l2)
    · refine .inr ⟨by omega, noP fun U u1 u2 u3 => ?_⟩
      obtain ⟨t, V, _, ok, lt, _, e⟩ := next U u1 u2 u3
      have := (wordsL_inj (b4.trans e)).2
      omega
theorem dw_hd {c : List Nat} {R' : List (List Nat)} : ∀ {R : List (List Nat)}, R.dropWhile nsg = c :: R' → nsg c = false
  | [], h => by cases h
  | d :: R, h => by
    by_cases hd : nsg d = true
    · rw [List.dropWhile_cons_of_pos hd] at h
      exact dw_hd h
    · rw [List.dropWhile_cons_of_neg hd] at h
      injection h with h _
      rw [← h]
      exact eq_false_of_ne_true hd
theorem rd_rest {s0 s : Int} {l : List Nat} {ps0 R : List (List Nat)} {T : List (Nat × Rat)} {p : Pol} {h : Nat} (I : RdI s0 ps0 T s R p h) (hR : R ≠ []) (hs0 : s0 = 1 ∨ s0 = -1) (hps : ∀ x, x ∈ ps0 → Asc x ∧ x.length ≤ 900000) (hpl : ps0.length ≤ 1000000) {P : PyData → Prop} (noP : (∀ U, Dec U → (∀ t, t ∈ U → TmOk t) → ps0 = wT U → False) → P .none) {a8 a9 : Option U} {m : Int} {a6 : Option U}
    {r : Rat} {k : Nat} (b1 : 0 < r) (b2 : F40 r) (b3 : k ≤ 24) (kh : k < h) (b4 : wordsL r k = R.takeWhile nsg) (b5 : R.drop (if m > 1 then m else 1).toNat = R.dropWhile nsg) (hm : 0 ≤ m)
    {L0 : NW.Loc} (hL0 : L0 = [some (.d (.str (S l))), some (.d (.int s)), some (.d (.list (wsD R))), some (.d (polyD p)), some (.d (.int h)), some (.d (.int m)), a6, some (.d (.tuple [fracD r, .int k])), a8, a9]) {N : NW.Loc → Sto → Prop}
    (fin : ∀ (T' : List (Nat × Rat)) (s' : Int) (R' : List (List Nat)) (p' : Pol) (h' : Nat) (a5 a6 a7 a8 a9 : Option U), RdI s0 ps0 T' s' R' p' h' → R'.length < R.length → N [some (.d (.str (S l))), some (.d (.int s')), some (.d (.list (wsD R'))), some (.d (polyD p')), some (.d (.int h')), a5, a6, a7, a8, a9] ⟨none, []⟩) :
    (sSeq (sAsgG (eVar 7) (gTupM 2 (gConsM (gTupM 2 (gConsM (gNameM 8) (gConsM (gNameM 9) gNilM))) (gConsM (gNameM 4) gNilM))))
    (sSeq (sAsg 3 (eCallP 2 m_L_sum (aCons (eVar 3) (aCons (eCallP 2 m_L_poly (aCons (eOp fAddA (eOp fMulA (eFrz (lDisp (aCons (eC (.int 0)) aNil))) (eVar 4)) (eFrz (lDisp (aCons (eOp fMulA (eVar 1) (eVar 8)) aNil)))) (aCons (eVar 9) aNil))) aNil))))
    (sSeq (sAsg 2 (eSlAny (eVar 2) (oSome (eCB cMax2 (aCons (eC (.int 1)) (aCons (eVar 5) aNil)))) oNone))
    (sSeq (sIf (bTest (eOp (opEq false) (eCB cLen (aCons (eVar 2) aNil)) (eC (.int 1))))
    (sRet (eC .none))
    sNext)
    (sIf (bTest (eOp fGt (eCB cLen (aCons (eVar 2) aNil)) (eC (.int 1))))
    (sSeq (sAsg 1 (eOp fSub (eC (.int 1)) (eOp fMulA (eC (.int 2)) (eCB cInt (aCons (eOp (opEq false) (eOp fIx (eVar 2) (eC (.int 0))) (eC (.str ("-" : Str)))) aNil)))))
    (sAsg 2 (eSlAny (eVar 2) (oSome (eC (.int 1))) oNone)))
    sNext)))) L0 ⟨none, []⟩).To N (retP P) := by
  obtain ⟨v, hv⟩ : ∃ v : Rat, v = if s = -1 then -r else r := ⟨_, rfl⟩
  have hmono : mk (List.replicate k 0 ++ [s * r.num]) r.den = mono v k := Pol.ext_co fun j => by
    rw [co_mk r.den_pos, co_mono]
    by_cases hj : j = k
    · subst hj
      have e : (List.replicate j (0 : Int) ++ [s * r.num]).getD j 0 = s * r.num := by
        rw [List.getD_eq_getElem?_getD, List.getElem?_append_right (by simp)]
        simp
      rw [e, if_pos rfl, hv]
      rcases I.sg with z | z
      · rw [z, if_neg (by omega), Int.one_mul]
        exact Rat.num_divInt_den r
      · rw [z, if_pos rfl]
        have := Rat.num_divInt_den (-r)
        rw [Rat.neg_num, Rat.neg_den] at this
        rw [← this]
        congr 1
        omega
    · have e : (List.replicate k (0 : Int) ++ [s * r.num]).getD j 0 = 0 := by
        rw [List.getD_eq_getElem?_getD]
        by_cases hjk : j < k
        · rw [List.getElem?_append_left (by simpa using hjk)]
          simp [hjk]
        · rw [List.getElem?_append_right (by simp; omega)]
          have : ¬ (j - k = 0) := by omega
          simp [this]
      rw [e, if_neg hj, Rat.zero_divInt]
  obtain ⟨Q, hQ⟩ : ∃ Q, Q = R.dropWhile nsg := ⟨_, rfl⟩
  have r140 : r.num.natAbs < 2 ^ 140 := Nat.lt_of_lt_of_le b2.1 (by decide +kernel)
  have mc : mulC s r.num = true := mulC_of (a := 2) (b := 140) (by rcases I.sg with z | z <;> rw [z] <;> decide) r140 (by omega) (by omega) (by omega)
  have fb : FB 140 v := by
    rw [hv]
    split
    · exact ⟨by rw [Rat.neg_num, Int.natAbs_neg]; exact r140, by rw [Rat.neg_den]; exact Nat.lt_of_lt_of_le b2.2 (by decide +kernel)⟩
    · exact ⟨r140, Nat.lt_of_lt_of_le b2.2 (by decide +kernel)⟩
  have hcut : cutD (wsD R) (some (if 1 < m then m else 1)) none = wsD Q := by
    obtain ⟨M, hM⟩ : ∃ M : Nat, (M : Int) = (if m > 1 then m else 1) := ⟨(if m > 1 then m else 1).toNat, by split <;> omega⟩
    have e : (if 1 < m then m else 1) = (M : Int) := hM.symm
    rw [← hM] at b5
    rw [e, cutD_from, wsD_drop, hQ, ← b5]
    rfl
  have tl := I.len
  have hsub := I.subl
  have hQl : Q.length < R.length := by
    have h1 : R.takeWhile nsg ++ R.dropWhile nsg = R := List.takeWhile_append_dropWhile
    have := congrArg List.length h1
    rw [List.length_append, ← b4, ← hQ] at this
    have := List.length_pos_iff.mpr (wordsL_ne r k)
    omega
  refine cut (fun L st => L = [some (.d (.str (S l))), some (.d (.int s)), some (.d (.list (wsD R))), some (.d (polyD p)), some (.d (.int k)), some (.d (.int m)), a6, some (.d (.tuple [fracD r, .int k])), some (.d (.int r.num)), some (.d (.int r.den))] ∧ st = ⟨none, []⟩) ?_ fun L st hs1 => ?_
  · rw [hL0]
    simp [fracD]
  refine cut (fun L st => L = [some (.d (.str (S l))), some (.d (.int s)), some (.d (.list (wsD R))), some (.d (polyD (p + mono v k))), some (.d (.int k)), some (.d (.int m)), a6, some (.d (.tuple [fracD r, .int k])), some (.d (.int r.num)), some (.d (.int r.den))] ∧ st = ⟨none, []⟩) ?_ fun L st hs2 => ?_
  · rw [hs1.1, hs1.2]
    simp
    rw [fMulA_k (r := k) (by omega) (by omega) (by omega)]
    simp [mc]
    have es : PyData.list (List.replicate k (PyData.int 0) ++ [PyData.int (s * r.num)]) = PyData.list ((List.replicate k (0 : Int) ++ [s * r.num]).map .int) := by simp
    rw [es]
    refine ⟨by omega, ?_⟩
    refine L_poly_to (ts := List.replicate k 0 ++ [s * r.num]) (.inl rfl) r.den_pos trivial (by simp; omega) ?_
    rw [hmono]
    exact L_sumx I.size ((mono_sz fb (e := k)).mono (Nat.le_refl _) (m' := 25) (by omega)) (by omega) (by omega) rfl
  refine cut (fun L st => L = [some (.d (.str (S l))), some (.d (.int s)), some (.d (.list (wsD Q))), some (.d (polyD (p + mono v k))), some (.d (.int k)), some (.d (.int m)), a6, some (.d (.tuple [fracD r, .int k])), some (.d (.int r.num)), some (.d (.int r.den))] ∧ st = ⟨none, []⟩) ?_ fun L st hs3 => ?_
  · rw [hs2.1, hs2.2]
    simp
    exact hcut
  have nx := fun (s' : Int) (R' : List (List Nat)) (hs' : s' = 1 ∨ s' = -1) (hR' : (R.dropWhile nsg = [] ∧ R' = []) ∨ (R' ≠ [] ∧ R.dropWhile nsg = (if s' = -1 then [45] else [43]) :: R')) => I.step hR b1 b2 kh b3 hs0 b4 hs' hR'
  rw [← hv, ← hQ] at nx
  have hQlen : (wsD Q).length = Q.length := wsD_len
  have q1 : Q.length ≤ 16777216 := by omega
  cases hc : Q with
  | nil =>
    refine cut (fun L st => L = [some (.d (.str (S l))), some (.d (.int s)), some (.d (.list (wsD Q))), some (.d (polyD (p + mono v k))), some (.d (.int k)), some (.d (.int m)), a6, some (.d (.tuple [fracD r, .int k])), some (.d (.int r.num)), some (.d (.int r.den))] ∧ st = ⟨none, []⟩) ?_ fun L st hs4 => ?_
    · rw [hs3.1, hs3.2]
      simp [hc, wsD]
    · rw [hs4.1, hs4.2]
      simp [hc, wsD]
      exact fin _ s [] _ k _ _ _ _ _ (nx s [] I.sg (.inl ⟨hc, rfl⟩)) (by have := List.length_pos_iff.mpr hR; simpa using this)
  | cons c R' =>
    have hcn : nsg c = false := dw_hd (hQ.symm.trans hc)
    by_cases hR' : R' = []
    · refine cut (fun _ _ => False) ?_ fun _ _ z => z.elim
      rw [hs3.1, hs3.2]
      simp [hc, wsD, hR']
      refine noP fun U u1 u2 u3 => ?_
      obtain ⟨t, V, e, ok, _, _⟩ := I.next hR u1 u2 u3
      have h2 : tailL V = [c] := by
        rw [← (wT_first ok.1 (V := V)).2, ← e, ← hQ, hc, hR']
      cases V with
      | nil => simp [tailL] at h2
      | cons w V =>
        rw [tailL_cons] at h2
        have h3 : wT (w :: V) = [] := by
          have h4 : sgP w :: wT (w :: V) = [c] := h2
          injection h4
        unfold wT at h3
        exact wordsL_ne _ _ (List.append_eq_nil_iff.mp h3).1
    · refine cut (fun L st => L = [some (.d (.str (S l))), some (.d (.int s)), some (.d (.list (wsD Q))), some (.d (polyD (p + mono v k))), some (.d (.int k)), some (.d (.int m)), a6, some (.d (.tuple [fracD r, .int k])), some (.d (.int r.num)), some (.d (.int r.den))] ∧ st = ⟨none, []⟩) ?_ fun L st hs4 => ?_
      · rw [hs3.1, hs3.2]
        simp [hc, wsD, hR']
        have := List.length_pos_iff.mpr hR'
        exact .inl (by omega)
      · rw [hs4.1, hs4.2]
        simp [hc, wsD]
        have hp := List.length_pos_iff.mpr hR'
        have hca : Asc c := (hps c (I.sub c (by
          have h1 : R.takeWhile nsg ++ R.dropWhile nsg = R := List.takeWhile_append_dropWhile
          rw [← h1, ← hQ, hc]
          simp))).1
        have hcut2 : cutD (PyData.str (S c) :: List.map (fun l => PyData.str (S l)) R') (some 1) none = wsD R' := cutD_from (k := 1)
        have hlen : R'.length < R.length := by rw [hc] at hQl; simp at hQl; omega
        refine .inr ⟨by omega, ⟨hca.sh, str_sh (by decide +kernel)⟩, by split <;> decide, ?_⟩
        rw [hcut2, eqv_S]
        rcases nsg_no hcn with z | z
        · have e1 : (1 : Int) - 2 * (if decide (c = [45]) = true then 1 else 0) = 1 := by rw [z]; rfl
          rw [e1]
          exact fin _ 1 R' _ k _ _ _ _ _ (nx 1 R' (.inl rfl) (.inr ⟨hR', by rw [hc, z]; rfl⟩)) hlen
        · have e1 : (1 : Int) - 2 * (if decide (c = [45]) = true then 1 else 0) = -1 := by rw [z]; rfl
          rw [e1]
          exact fin _ (-1) R' _ k _ _ _ _ _ (nx (-1) R' (.inr rfl) (.inr ⟨hR', by rw [hc, z]; rfl⟩)) hlen
end NW
namespace NW
open PySem PySem.Spec PyProof.Rows L2
theorem L_read_val {l : List Nat} (ha : Asc l) (hl : l.length ≤ 900000) {P : PyData → Prop} (h1 : ∀ p, Gd p → poL p = l → P (polyD p)) (h0 : (∀ p, Gd p → poL p ≠ l) → P .none) : (m_L_read [.str (S l)]).To P := by
  unfold m_L_read
  rw [pure_to]
  unfold b_L_read
  have s48 : SeqAt.shaped (PyData.str (S [48])) = true := str_sh (by decide +kernel)
  by_cases hz : l = [48]
  · subst hz
    simp [startL, eqv_S]
    exact ⟨s48, h1 Pol.zero ⟨by simp [Pol.zero], fun k => by rw [co_high (by simp [Pol.zero])]; exact ⟨by decide, by decide⟩⟩ (poL_nil (by simp [Pol.zero]))⟩
  obtain ⟨s0, p0, hs⟩ := sgP_of l
  obtain ⟨ps0, n1, n2, n3⟩ := pieces 32 p0
  have hs0 : s0 = 1 ∨ s0 = -1 := by rcases hs with h | h <;> omega
  have hpl : p0.length ≤ l.length := by
    rcases hs with ⟨_, h⟩ | ⟨_, h, _⟩
    · rw [h]; simp
    · rw [h]; exact Nat.le_refl _
  have hpa : Asc p0 := by
    rcases hs with ⟨_, h⟩ | ⟨_, h, _⟩
    · rw [h] at ha; exact ha.tail
    · rw [h]; exact ha
  obtain ⟨j1, j2, j3⟩ := joinL_len (c := 32) n1
  rw [← n3] at j1 j2 j3
  have hps : ∀ x, x ∈ ps0 → Asc x ∧ x.length ≤ 900000 := fun x hx => ⟨fun c hc => hpa c (j3 x hx c hc), by have := j1 x hx; omega⟩
  have hps2 : ps0.length ≤ 1000000 := by omega
  have noP : (∀ U, Dec U → (∀ t, t ∈ U → TmOk t) → ps0 = wT U → False) → P .none := fun z => h0 fun p hp e => by
    have hne : p.ts ≠ [] := fun w => hz (by rw [← e, poL_nil w])
    obtain ⟨U, u1, u2, u3, _⟩ := poL_good hp hne e hs n1 n2 n3
    exact z U u1 u2 u3
  refine cut (fun L st => L = [some (.d (.str (S l))), none, none, none, none, none, none, none, none, none] ∧ st = ⟨none, []⟩) ?_ fun L st g1 => ?_
  · simp [startL, eqv_S, hz]
    exact ⟨ha.sh, s48⟩
  refine cut (fun L st => L = [some (.d (.str (S l))), some (.d (.int s0)), none, none, none, none, none, none, none, none] ∧ st = ⟨none, []⟩) ?_ fun L st g2 => ?_
  · rw [g1.1, g1.2]
    simp
    rw [to_slS (by rw [S_len]; omega), cut_to (by omega)]
    simp [eqv_S]
    refine ⟨⟨Asc.sh (fun c hc => ha c (List.mem_of_mem_take hc)), Asc.sh (fun c hc => by simp at hc; omega)⟩, by split <;> decide, ?_⟩
    rcases hs with ⟨rfl, h⟩ | ⟨rfl, _, h⟩
    · rw [h]; rfl
    · rw [if_neg h]; rfl
  refine cut (fun L st => L = [some (.d (.str (S l))), some (.d (.int s0)), some (.d (.list (wsD ps0))), none, none, none, none, none, none, none] ∧ st = ⟨none, []⟩) ?_ fun L st g3 => ?_
  · rw [g2.1, g2.2]
    simp
    rw [to_slS (by rw [S_len]; omega), cut_from (by split <;> omega)]
    have e : l.drop (if s0 < 0 then (1 : Int) else 0).toNat = p0 := by
      rcases hs with ⟨rfl, h⟩ | ⟨rfl, h, _⟩
      · rw [h]; rfl
      · rw [h]; rfl
    rw [e]
    simp
    refine ⟨by omega, ?_⟩
    unfold splitD
    rw [n3, split_pieces (by omega) n1 n2, List.map_map]
    rfl
  refine cut (fun L st => L = [some (.d (.str (S l))), some (.d (.int s0)), some (.d (.list (wsD ps0))), some (.d (polyD Pol.zero)), none, none, none, none, none, none] ∧ st = ⟨none, []⟩) ?_ fun L st g4 => ?_
  · rw [g3.1, g3.2]
    simp
    rfl
  refine cut (fun L st => L = [some (.d (.str (S l))), some (.d (.int s0)), some (.d (.list (wsD ps0))), some (.d (polyD Pol.zero)), some (.d (.int (25 : Nat))), none, none, none, none, none] ∧ st = ⟨none, []⟩) ?_ fun L st g5 => ?_
  · rw [g4.1, g4.2]
    simp
  have I0 : RdI s0 ps0 [] s0 ps0 Pol.zero 25 := ⟨List.Pairwise.nil, by simp, fun j => by rw [co_high (by simp [Pol.zero])]; rfl, PBt.zero.mono (by omega) (by omega), by simp, by simp, fun z => absurd rfl z, fun _ => rfl, hs0, .inl ⟨rfl, rfl, rfl⟩⟩
  obtain ⟨J, hJ⟩ : ∃ J : Nat → NW.Loc → Sto → Prop, ∀ n L st, J n L st ↔ ∃ (T : List (Nat × Rat)) (s : Int) (R : List (List Nat)) (p : Pol) (h : Nat) (a5 a6 a7 a8 a9 : Option U), RdI s0 ps0 T s R p h ∧ n = R.length ∧ L = [some (.d (.str (S l))), some (.d (.int s)), some (.d (.list (wsD R))), some (.d (polyD p)), some (.d (.int h)), a5, a6, a7, a8, a9] ∧ st = ⟨none, []⟩ := ⟨_, fun _ _ _ => Iff.rfl⟩
  refine cut (fun L st => ∃ (T : List (Nat × Rat)) (p : Pol), (Dec T ∧ (∀ t, t ∈ T → TmOk t) ∧ (∀ j, p.co j = cs T j) ∧ ps0 = wT T ∧ HdS s0 T) ∧ L[3]? = some (some (.d (polyD p))) ∧ st = ⟨none, []⟩) ?_ fun L st g6 => ?_
  · refine while_to (I := J) ?_ ps0.length L st ((hJ _ _ _).mpr ⟨[], s0, ps0, Pol.zero, 25, _, _, _, _, _, I0, rfl, g5.1, g5.2⟩)
    intro n L st hj
    obtain ⟨T, s, R, p, h, a5, a6, a7, a8, a9, I, hn, e1, e2⟩ := (hJ _ _ _).mp hj
    have hRl := I.subl
    have hc : ∀ (Q : Bool → Sto → Prop), Q (decide (0 < R.length)) st → (bTest (eOp fGt (eCB cLen (aCons (eVar 2) aNil)) (eC (.int 0))) L st).To Q := fun Q q => by
      rw [e2] at q ⊢
      rw [e1]
      have hl2 : R.length ≤ 16777216 := by omega
      simp [wsD_len, hl2]
      have e3 : decide ((0 : Int) < R.length) = decide (0 < R.length) := by
        rw [Bool.eq_iff_iff, decide_eq_true_iff, decide_eq_true_iff]
        omega
      by_cases z : R = []
      · rw [z] at q
        exact .inl ⟨z, q⟩
      · have := List.length_pos_iff.mpr z
        rw [decide_eq_true this] at q
        exact .inr ⟨this, q⟩
    refine hc _ ?_
    by_cases hR : R = []
    · rw [hR]
      show (if decide (0 < ([] : List (List Nat)).length) = true then _ else _)
      rw [if_neg (by simp)]
      rcases I.form with ⟨f1, f2, f3⟩ | ⟨f1, f2, ⟨f3, _⟩ | ⟨_, f4⟩⟩
      · exact absurd (f2.symm.trans hR) n1
      · exact absurd hR f3
      · exact ⟨T, p, ⟨I.dec, I.ok, I.co, f4, f2⟩, by rw [e1]; rfl, e2⟩
    · have hRp := List.length_pos_iff.mpr hR
      rw [if_pos (decide_eq_true hRp)]
      rw [e2]
      refine cut (fun L st => L = [some (.d (.str (S l))), some (.d (.int s)), some (.d (.list (wsD R))), some (.d (polyD p)), some (.d (.int h)), some (.d (.int R.length)), a6, a7, a8, a9] ∧ st = ⟨none, []⟩) ?_ fun L st g7 => ?_
      · rw [e1]
        have hl2 : R.length ≤ 16777216 := by omega
        simp [wsD_len, hl2]
      refine cut (fun L st => ∃ (a6 : Option U) (m : Int), m = ((R.takeWhile nsg).length : Int) ∧ L = [some (.d (.str (S l))), some (.d (.int s)), some (.d (.list (wsD R))), some (.d (polyD p)), some (.d (.int h)), some (.d (.int m)), a6, a7, a8, a9] ∧ st = ⟨none, []⟩) ?_ fun L st g8 => ?_
      · rw [g7.2]
        exact many_run (by omega) (fun x hx => (hps x (I.sub x hx)).1) rfl g7.1 fun a6 m hm => ⟨a6, m, hm, rfl, rfl⟩
      obtain ⟨a6', m, hm, g9, g10⟩ := g8
      rw [g10]
      have hass : ∀ {a b c : MS} {N : NW.Loc → Sto → Prop} {Q : U → Sto → Prop}, (sSeq (sSeq a b) c L ⟨none, []⟩).To N Q → (sSeq a (sSeq b c) L ⟨none, []⟩).To N Q := fun {a b c N Q} q => by
        rw [to_sSeq] at q ⊢
        rw [to_sSeq] at q
        exact q.mono (fun l s r => by rw [to_sSeq]; exact r) fun _ _ r => r
      refine hass ?_
      refine cut (fun L st => ∃ (r : Rat) (k : Nat), (0 < r ∧ F40 r ∧ k ≤ 24 ∧ k < h ∧ wordsL r k = R.takeWhile nsg ∧ R.drop (if m > 1 then m else 1).toNat = R.dropWhile nsg) ∧ L = [some (.d (.str (S l))), some (.d (.int s)), some (.d (.list (wsD R))), some (.d (polyD p)), some (.d (.int h)), some (.d (.int m)), a6', some (.d (.tuple [fracD r, .int k])), a8, a9] ∧ st = ⟨none, []⟩) ?_ fun L st g11 => ?_
      · exact rd_word I hR hs0 hps hps2 noP hm g9 fun r k b1 b2 b3 b4 b5 b6 b7 => ⟨r, k, ⟨b1, b2, b3, b4, b5, b7⟩, rfl, rfl⟩
      obtain ⟨r, k, ⟨b1, b2, b3, b4, b5, b6⟩, g12, g13⟩ := g11
      rw [g13]
      refine rd_rest I hR hs0 hps hps2 noP b1 b2 b3 b4 b5 b6 (by omega) g12 fun T' s' R' p' h' c5 c6 c7 c8 c9 I' hlt => ?_
      exact ⟨R'.length, by omega, (hJ _ _ _).mpr ⟨T', s', R', p', h', c5, c6, c7, c8, c9, I', rfl, rfl, rfl⟩⟩
  · obtain ⟨T, p, ⟨u1, u2, u3, u4, u5⟩, e1, e2⟩ := g6
    obtain ⟨v1, v2⟩ := good_poL u1 u2 u3 hs n3 u4 u5
    have := h1 p v1 v2
    rw [e2]
    simp [e1]
    exact this
end NW
namespace NW
open PySem PySem.Spec PyProof.Rows L2
section
variable {st : Sto} {Q : U → Sto → Prop} {l : NW.Loc}
@[simp] theorem to_gSubS {o i : ME} {y : Str} {P : NW.Loc → Sto → Prop} : (gSubM o i (.d (.str y)) l st).To P ↔ (o l st).To fun ou s => (i l s).To fun iu s => (match ou, iu with
  | .ref k, .d (.int j) => ∃ xs n, s.obs[k]? = some (.lst xs) ∧ idxN xs.length j = some n ∧ P l (s.put k (xs.set n (.str y)))
  | _, _ => False) := to_gSubG (fun x h => by cases h)
end
def tot (ls : List (List Nat)) : Nat := (ls.map fun x => x.length + 1).sum
theorem tot_app {a b : List (List Nat)} : tot (a ++ b) = tot a + tot b := by simp [tot]
theorem tot_cons {a : List Nat} {b : List (List Nat)} : tot (a :: b) = a.length + 1 + tot b := by simp [tot]
theorem tot_take {a : List (List Nat)} {n : Nat} : tot (a.take n) ≤ tot a := by
  have := tot_app (a := a.take n) (b := a.drop n)
  rw [List.take_append_drop] at this
  omega
theorem tot_drop {a : List (List Nat)} {n : Nat} : tot (a.drop n) ≤ tot a := by
  have := tot_app (a := a.take n) (b := a.drop n)
  rw [List.take_append_drop] at this
  omega
theorem tot_mem : ∀ {a : List (List Nat)} {x : List Nat}, x ∈ a → x.length + 1 ≤ tot a
  | y :: a, x, h => by
    rw [tot_cons]
    rcases List.mem_cons.mp h with rfl | h
    · omega
    · have := tot_mem h; omega
theorem tot_len : ∀ {a : List (List Nat)}, a.length ≤ tot a
  | [] => by simp
  | y :: a => by have := tot_len (a := a); rw [tot_cons, List.length_cons]; omega
theorem tot_set : ∀ {a : List (List Nat)} {n : Nat} {x : List Nat}, tot (a.set n x) ≤ tot a + x.length + 1
  | [], _, _ => by simp [tot]
  | y :: a, 0, x => by rw [List.set_cons_zero, tot_cons, tot_cons]; omega
  | y :: a, n + 1, x => by
    have := tot_set (a := a) (n := n) (x := x)
    rw [List.set_cons_succ, tot_cons, tot_cons]; omega
theorem tot_join {c : Nat} : ∀ {a : List (List Nat)}, (TL.joinL [c] a).length ≤ tot a ∧ (a ≠ [] → tot a = (TL.joinL [c] a).length + 1)
  | [] => by simp [tot, TL.joinL]
  | [x] => by simp [tot, TL.joinL]
  | x :: y :: a => by
    obtain ⟨h1, h2⟩ := tot_join (c := c) (a := y :: a)
    have e : TL.joinL [c] (x :: y :: a) = x ++ ([c] ++ TL.joinL [c] (y :: a)) := rfl
    have := h2 (by simp)
    rw [e, tot_cons]
    simp
    omega
theorem joinL_ascG {c : Nat} (hc : c < 128) : ∀ {a : List (List Nat)}, (∀ x, x ∈ a → Asc x) → Asc (TL.joinL [c] a)
  | [], _ => fun d hd => by simp [TL.joinL] at hd
  | [x], h => h x (by simp)
  | x :: y :: a, h => by
    have e : TL.joinL [c] (x :: y :: a) = x ++ ([c] ++ TL.joinL [c] (y :: a)) := rfl
    rw [e]
    refine (h x (by simp)).append (Asc.append (fun d hd => by simp at hd; omega) (joinL_ascG hc fun z hz => h z (by simp [hz])))
def Wd (N : Nat) (ls : List (List Nat)) : Prop := (∀ x, x ∈ ls → Asc x) ∧ tot ls ≤ N
theorem Wd.mem {N : Nat} {ls : List (List Nat)} (h : Wd N ls) {x : List Nat} (hx : x ∈ ls) : TxN N (.str (S x)) := ⟨x, rfl, h.1 x hx, by have := tot_mem hx; have := h.2; omega⟩
theorem Wd.app {N M : Nat} {a b : List (List Nat)} (ha : Wd N a) (hb : Wd M b) : Wd (N + M) (a ++ b) := ⟨fun x hx => (List.mem_append.mp hx).elim (ha.1 x) (hb.1 x), by rw [tot_app]; have := ha.2; have := hb.2; omega⟩
theorem Wd.take {N : Nat} {a : List (List Nat)} (ha : Wd N a) (n : Nat) : Wd N (a.take n) := ⟨fun x hx => ha.1 x (List.mem_of_mem_take hx), Nat.le_trans tot_take ha.2⟩
theorem Wd.drop {N : Nat} {a : List (List Nat)} (ha : Wd N a) (n : Nat) : Wd N (a.drop n) := ⟨fun x hx => ha.1 x (List.mem_of_mem_drop hx), Nat.le_trans tot_drop ha.2⟩
theorem Wd.set {N M : Nat} {a : List (List Nat)} (ha : Wd N a) (n : Nat) {x : List Nat} (hx : Asc x) (hl : x.length + 1 ≤ M) : Wd (N + M) (a.set n x) := ⟨fun y hy => by
  rcases List.mem_or_eq_of_mem_set hy with h | h
  · exact ha.1 y h
  · rw [h]; exact hx, by have := tot_set (a := a) (n := n) (x := x); have := ha.2; omega⟩
theorem Wd.mono {N M : Nat} {a : List (List Nat)} (ha : Wd N a) (h : N ≤ M) : Wd M a := ⟨ha.1, by have := ha.2; omega⟩
theorem Wd.of {N : Nat} {l : List Nat} (ha : Asc l) (hl : l.length ≤ N) : ∃ ls, ls ≠ [] ∧ (∀ x, x ∈ ls → 32 ∉ x) ∧ l = TL.joinL [32] ls ∧ Wd (N + 1) ls := by
  obtain ⟨ls, n1, n2, n3⟩ := pieces 32 l
  obtain ⟨_, _, j3⟩ := joinL_len (c := 32) n1
  refine ⟨ls, n1, n2, n3, fun x hx c hc => ha c (by rw [n3]; exact j3 x hx c hc), ?_⟩
  have := (tot_join (c := 32) (a := ls)).2 n1
  rw [this, ← n3]
  omega
theorem strsOf_ws : ∀ {ls : List (List Nat)}, strsOf (wsD ls) = some (ls.map S)
  | [] => rfl
  | x :: ls => by
    have := strsOf_ws (ls := ls)
    show (strsOf (wsD ls)).map (S x :: ·) = _
    rw [this]
    rfl
theorem join_T {N i : Nat} {ls : List (List Nat)} {st : Sto} {Q : U → Sto → Prop} (h : Wd N ls) (hN : N ≤ 16777216) (ho : st.obs[i]? = some (.lst (wsD ls))) (k : ∀ d, TxN N d → Q (.d d) st) : (fJoin (.d (.str (S [32]))) (.ref i) st).To Q := by
  have hs : seqOf st (.ref i) = some (wsD ls) := by
    have : listOf st (.ref i) = some (wsD ls) := by
      show (match st.obs[i]? with | some (Ob.lst xs) => some xs | _ => none) = some (wsD ls)
      rw [ho]
    unfold seqOf
    rw [this]
    rfl
  have hj : joinOk (S [32]) (ls.map S) = true := by
    refine decide_eq_true ?_
    have e : ((ls.map S).map (·.length)).sum + (ls.map S).length * (S [32]).length = tot ls := by
      have h1 : (S [32]).length = 1 := by simp
      rw [h1, List.map_map]
      clear hs ho k h
      induction ls with
      | nil => rfl
      | cons x ls ih =>
        rw [tot_cons]
        simp at ih ⊢
        omega
    rw [e]
    have := h.2
    omega
  unfold fJoin
  rw [hs, Option.bind_some, strsOf_ws]
  show (if joinOk (S [32]) (ls.map S) = true then Res.ok (U.d (.str (Txt.join (S [32]) (ls.map S)))) st else .no).To Q
  rw [if_pos hj, show Txt.join (S [32]) (ls.map S) = S (TL.joinL [32] ls) from SX.join_S [32] ls]
  exact k _ ⟨_, rfl, joinL_ascG (by omega) h.1, by have := (tot_join (c := 32) (a := ls)).1; have := h.2; omega⟩
theorem L_word_otherwise_to {f : Fl} (hf : FlOk f) {w : PyData} {n : Nat} (h : TxN n w) (hn : n ≤ 1000000) : (m_L_word_otherwise [w] f).To fun d f' => TxN (n + 60) d ∧ FlOk f' := by
  unfold m_L_word_otherwise
  rw [flow_to]
  unfold b_L_word_otherwise
  have okc : ∀ {x : Str}, ((TL.tl x).all (· < 128) && decide ((TL.tl x).length ≤ 50)) = true → TxN 50 (.str x) := fun {x} z => by
    rw [Bool.and_eq_true] at z
    exact TxN.cst z.1 (of_decide_eq_true z.2)
  refine cut (fun l s => ∃ ds : List PyData, (∀ d, d ∈ ds → TxN 50 d) ∧ (1 ≤ ds.length ∧ ds.length ≤ 15) ∧ l = [some .flow, some (.d w), some (.d (.list ds)), none] ∧ s = ⟨some f, []⟩) ?_ fun l s h1 => ?_
  · simp [startL]
    and_intros <;> first | exact okc (by decide +kernel) | trivial
  obtain ⟨ds, d1, d2, rfl, rfl⟩ := h1
  refine cut (fun l s => ∃ ds : List PyData, (∀ d, d ∈ ds → TxN 50 d) ∧ (1 ≤ ds.length ∧ ds.length ≤ 30) ∧ l = [some .flow, some (.d w), some (.d (.list ds)), none] ∧ s = ⟨some f, []⟩) ?_ fun l s h2 => ?_
  · simp
    refine ⟨by omega, fun d hd => ?_, by omega⟩
    rcases hd with hd | rfl | rfl | rfl | rfl | rfl | rfl | rfl | rfl | rfl | rfl | rfl | rfl | rfl
    · exact d1 d hd
    all_goals exact okc (by decide +kernel)
  obtain ⟨ds, d1, d2, rfl, rfl⟩ := h2
  refine cut (fun l s => ∃ ds : List PyData, (∀ d, d ∈ ds → TxN 50 d) ∧ (1 ≤ ds.length ∧ ds.length ≤ 40) ∧ l = [some .flow, some (.d w), some (.d (.list ds)), none] ∧ s = ⟨some f, []⟩) ?_ fun l s h3 => ?_
  · have r1 : repOk (S [57]) 40 = true := by decide +kernel
    simp
    have t2 : TxN 2 (.str ("1/" : Str)) := TxN.cst (by decide +kernel) (by decide +kernel)
    have t0 : TxN 40 (.str (repS ("7" : Str) 40)) := TxN.cst (by decide +kernel) (by decide +kernel)
    have t1 : TxN 41 (.str (repS ("7" : Str) 41)) := TxN.cst (by decide +kernel) (by decide +kernel)
    have t3 : TxN 2 (.str (" x" : Str)) := TxN.cst (by decide +kernel) (by decide +kernel)
    have t4 : TxN 50 (.str (repS (S [57]) 40)) := TxN.cst (by decide +kernel) (by decide +kernel)
    have t5 : TxN 50 (.str (repS (S [57]) 41)) := TxN.cst (by decide +kernel) (by decide +kernel)
    refine ⟨r1, by decide +kernel, by decide +kernel, ?_⟩
    refine add_T t2 t0 (by omega) fun e1 h1 => ?_
    refine ⟨by decide +kernel, ?_⟩
    refine add_T t2 t1 (by omega) fun e2 h2 => ?_
    refine ⟨by decide +kernel, ?_⟩
    refine add_T t2 t1 (by omega) fun e3 h3 => ?_
    refine add_T h3 t3 (by omega) fun e4 h4 => ?_
    refine ⟨_, ⟨[e1, e2, e4], rfl, rfl⟩, (by show (5 : Nat) ≤ 16777216; decide), (by show ds.length + 5 ≤ 16777216; omega), _, ?_, ?_, rfl, rfl⟩
    · intro d hd
      rcases List.mem_append.mp hd with hd | hd
      · exact d1 d hd
      · simp only [List.mem_cons, List.not_mem_nil, or_false] at hd
        rcases hd with rfl | rfl | rfl | rfl | rfl
        · exact t4
        · exact t5
        · exact h1.mono (by omega)
        · exact h2.mono (by omega)
        · exact h4.mono (by omega)
    · rw [List.length_append]
      have : [PyData.str (repS (S [57]) 40), PyData.str (repS (S [57]) 41), e1, e2, e4].length = 5 := rfl
      omega
  obtain ⟨ds, d1, d2, rfl, rfl⟩ := h3
  refine cut (fun l s => ∃ (v : Int) (g : Fl), 0 ≤ v ∧ v < 3 ∧ FlOk g ∧ l = [some .flow, some (.d w), some (.d (.list ds)), some (.d (.int v))] ∧ s = ⟨some g, []⟩) ?_ fun l s h4 => ?_
  · simp
    refine (pick_to hf (by omega) (by omega)).mono ?_
    rintro _ g ⟨v, rfl, v1, v2, og⟩
    exact ⟨v, v1, v2, og, rfl⟩
  obtain ⟨v, g, v1, v2, og, rfl, rfl⟩ := h4
  have pick : ∀ {Q : U → Sto → Prop}, (∀ d g', TxN 50 d → FlOk g' → Q (.d d) ⟨some g', []⟩) → (m_L_pick [PyData.int ds.length] g).To fun i g' => (fIx (U.d (.list ds)) (.d i) ⟨some g', []⟩).To Q := fun {Q} k => by
    refine (pick_to og (by omega) (by omega)).mono ?_
    rintro _ g2 ⟨i, rfl, i1, i2, o2⟩
    exact ixl_to (p := TxN 50) i1 i2 d1 fun x hx => k x g2 hx o2
  have dl : ds.length ≤ 16777216 := by omega
  refine cut (fun l s => ¬ v = 0 ∧ l = [some .flow, some (.d w), some (.d (.list ds)), some (.d (.int v))] ∧ s = ⟨some g, []⟩) ?_ fun l s h5 => ?_
  · by_cases c : v = 0
    · simp [c, dl]
      refine pick fun d g' hd og' => ?_
      exact ⟨g', rfl, hd.mono (by omega), og'⟩
    · simp [c]
  obtain ⟨c1, rfl, rfl⟩ := h5
  refine cut (fun l s => ¬ v = 1 ∧ l = [some .flow, some (.d w), some (.d (.list ds)), some (.d (.int v))] ∧ s = ⟨some g, []⟩) ?_ fun l s h6 => ?_
  · by_cases c : v = 1
    · simp [c]
      refine add_T h (TxN.of (l := [32]) (by intro c hc; simp at hc; omega)) (by simp; omega) fun e1 h1 => ?_
      simp [dl]
      refine pick fun d g' hd og' => ?_
      refine add_T h1 hd (by simp; omega) fun e2 h2 => ?_
      exact ⟨g', rfl, h2.mono (by simp), og'⟩
    · simp [c]
  obtain ⟨c2, rfl, rfl⟩ := h6
  simp
  refine add_T (TxN.of (l := [45]) (by intro c hc; simp at hc; omega)) h (by simp; omega) fun e1 h1 => ?_
  exact ⟨g, rfl, h1.mono (by simp; omega), og⟩
end NW
namespace NW
open PySem PySem.Spec PyProof.Rows L2
theorem idx_ws {ls : List (List Nat)} {i : Int} (h0 : 0 ≤ i) (h1 : i < ls.length) : ∃ x, x ∈ ls ∧ ((idxN (wsD ls).length i).bind fun j => (wsD ls)[j]?) = some (.str (S x)) ∧ idxN (wsD ls).length i = some i.toNat := by
  obtain ⟨n, rfl⟩ := Int.eq_ofNat_of_zero_le h0
  have hn : n < ls.length := by omega
  refine ⟨ls[n], List.getElem_mem hn, ?_, ?_⟩
  · rw [idxN_nat (by rw [wsD_len]; exact hn)]
    show (wsD ls)[n]? = _
    unfold wsD
    rw [List.getElem?_map, List.getElem?_eq_getElem hn]
    rfl
  · rw [idxN_nat (by rw [wsD_len]; exact hn)]
    simp
theorem ws_set {ls : List (List Nat)} {n : Nat} {x : List Nat} : (wsD ls).set n (.str (S x)) = wsD (ls.set n x) := by
  unfold wsD
  rw [List.map_set]
theorem cat_to {a b : U} {xs ys : List PyData} {st : Sto} {Q : List PyData → Sto → Prop} (ha : listOf st a = some xs) (hb : listOf st b = some ys) (hl : xs.length + ys.length ≤ 16777216) (h : Q (xs ++ ys) st) : (fCat a b st).To Q := by
  unfold fCat
  rw [ha, hb]
  have : lenOk (xs.length + ys.length) = true := decide_eq_true (by rw [sizeLine_eq]; exact hl)
  show (if lenOk (xs.length + ys.length) = true then Res.ok (xs ++ ys) st else .no).To Q
  rw [if_pos this]
  exact h
theorem ws_app {a b : List (List Nat)} : wsD a ++ wsD b = wsD (a ++ b) := by simp [wsD]
theorem cut_ws_to {ls : List (List Nat)} {i : Int} (h : 0 ≤ i) : cutD (wsD ls) none (some i) = wsD (ls.take i.toNat) := by
  obtain ⟨n, rfl⟩ := Int.eq_ofNat_of_zero_le h
  exact cutD_takeN.trans wsD_take
theorem cut_ws_from {ls : List (List Nat)} {i : Int} (h : 0 ≤ i) : cutD (wsD ls) (some i) none = wsD (ls.drop i.toNat) := by
  obtain ⟨n, rfl⟩ := Int.eq_ofNat_of_zero_le h
  exact cutD_from.trans wsD_drop
theorem tot_ln {a : List (List Nat)} {N : Nat} (h : Wd N a) : (wsD a).length ≤ N := by rw [wsD_len]; exact Nat.le_trans tot_len h.2
theorem L_otherwise_2_to {f : Fl} (hf : FlOk f) {t : PyData} {n : Nat} (ht : TxN n t) (hn : n ≤ 300000) : (m_L_otherwise_2 [t] f).To fun d f' => TxN (3 * n + 100) d ∧ FlOk f' := by
  obtain ⟨l, rfl, la, ll⟩ := id ht
  obtain ⟨ls, n1, n2, n3, hw⟩ := Wd.of la ll
  have hlen := List.length_pos_iff.mpr n1
  have hlN : ls.length ≤ n + 1 := Nat.le_trans tot_len hw.2
  unfold m_L_otherwise_2
  rw [flow_to]
  unfold b_L_otherwise_2
  have hsp : splitD (S l) (S [32]) = wsD ls := by
    unfold splitD
    rw [n3, split_pieces (by omega) n1 n2, List.map_map]
    rfl
  refine cut (fun L s => L = [some .flow, some (.d (.str (S l))), some (.ref 0), none, none, none, none] ∧ s = ⟨some f, [.lst (wsD ls)]⟩) ?_ fun L s g1 => ?_
  · simp [startL]
    exact ⟨by omega, hsp⟩
  refine cut (fun L s => ∃ (i : Int) (g : Fl), 0 ≤ i ∧ i < ls.length ∧ FlOk g ∧ L = [some .flow, some (.d (.str (S l))), some (.ref 0), some (.d (.int i)), none, none, none] ∧ s = ⟨some g, [.lst (wsD ls)]⟩) ?_ fun L s g2 => ?_
  · rw [g1.1, g1.2]
    simp [wsD_len]
    refine (pick_to hf (by omega) (by omega)).mono ?_
    rintro _ g ⟨i, rfl, i1, i2, og⟩
    exact ⟨i, i1, i2, og, rfl⟩
  obtain ⟨i, g, i1, i2, og, g3, g4⟩ := g2
  refine cut (fun L s => ∃ (j : Int) (g : Fl), 0 ≤ j ∧ j < ls.length ∧ FlOk g ∧ L = [some .flow, some (.d (.str (S l))), some (.ref 0), some (.d (.int i)), some (.d (.int j)), none, none] ∧ s = ⟨some g, [.lst (wsD ls)]⟩) ?_ fun L s g2 => ?_
  · rw [g3, g4]
    simp [wsD_len]
    refine (pick_to og (by omega) (by omega)).mono ?_
    rintro _ g ⟨i, rfl, i1, i2, og⟩
    exact ⟨i, i1, i2, og, rfl⟩
  obtain ⟨j, g, j1, j2, og, g3, g4⟩ := g2
  refine cut (fun L s => ∃ (w : Int) (g : Fl), 0 ≤ w ∧ w < 9 ∧ FlOk g ∧ L = [some .flow, some (.d (.str (S l))), some (.ref 0), some (.d (.int i)), some (.d (.int j)), some (.d (.int w)), none] ∧ s = ⟨some g, [.lst (wsD ls)]⟩) ?_ fun L s g2 => ?_
  · rw [g3, g4]
    simp
    refine (pick_to og (by omega) (by omega)).mono ?_
    rintro _ g ⟨i, rfl, i1, i2, og⟩
    exact ⟨i, i1, i2, og, rfl⟩
  obtain ⟨w, g, w1, w2, og, g3, g4⟩ := g2
  refine cut (fun L s => ∃ (k : Int) (g : Fl), 0 ≤ k ∧ FlOk g ∧ L = [some .flow, some (.d (.str (S l))), some (.ref 0), some (.d (.int i)), some (.d (.int j)), some (.d (.int w)), some (.d (.int k))] ∧ s = ⟨some g, [.lst (wsD ls)]⟩) ?_ fun L s g2 => ?_
  · rw [g3, g4]
    simp
    refine ⟨by omega, ?_⟩
    refine (pick_to og (by omega) (by omega)).mono ?_
    rintro _ g ⟨i, rfl, i1, i2, og⟩
    exact ⟨i, i1, og, rfl⟩
  obtain ⟨k, g, k1, og, g3, g4⟩ := g2
  refine cut (fun L s => ¬ w < 3 ∧ L = [some .flow, some (.d (.str (S l))), some (.ref 0), some (.d (.int i)), some (.d (.int j)), some (.d (.int w)), some (.d (.int k))] ∧ s = ⟨some g, [.lst (wsD ls)]⟩) ?_ fun L s g2 => ?_
  · rw [g3, g4]
    by_cases c : w < 3
    · simp [c]
      refine upto_T ht (by omega) k1 fun a ha => ?_
      simp
      refine (L_sign_to og).mono ?_
      rintro s1 f3 ⟨t1, o3⟩
      refine (L_sign_to o3).mono ?_
      rintro s2 f4 ⟨t2, o4⟩
      have key : ∀ x, TxN 1 x → (fAddA (U.d a) (U.d x) ⟨some f4, [.lst (wsD ls)]⟩).To fun x s => (fSl (U.d (.str (S l))) (some (k + if 0 < w then 1 else 0)) none s).To fun y s => (fAddA x y s).To (retF fun d f' => TxN (3 * n + 100) d ∧ FlOk f') := fun x hx => by
        refine add_T ha hx (by omega) fun d1 h1 => ?_
        refine from_T ht (by omega) (by split <;> omega) fun d2 h2 => ?_
        refine add_T h1 h2 (by omega) fun d3 h3 => ?_
        exact ⟨f4, rfl, h3.mono (by omega), o4⟩
      have e : TxN 1 (.str (S [])) := ⟨[], rfl, by intro c hc; simp at hc, by simp⟩
      have hw : w = 0 ∨ w = 1 ∨ w = 2 := by omega
      rcases hw with rfl | rfl | rfl
      · exact ⟨_, rfl, key _ t1⟩
      · exact ⟨_, rfl, key _ e⟩
      · exact ⟨_, rfl, key _ t2⟩
    · simp [c]
  obtain ⟨c0, g3, g4⟩ := g2
  -- the words otherwise, then joined
  refine cut (fun L s => ∃ (r : Nat) (ls' : List (List Nat)) (g : Fl) (obs : List Ob), Wd (3 * n + 100) ls' ∧ FlOk g ∧ L[2]? = some (some (.ref r)) ∧ s = ⟨some g, obs⟩ ∧ obs[r]? = some (.lst (wsD ls'))) ?_ fun L s g5 => ?_
  · rw [g3, g4]
    obtain ⟨x, xm, xi, xn⟩ := idx_ws i1 i2
    obtain ⟨y, ym, yi, yn⟩ := idx_ws j1 j2
    have hxa := hw.1 x xm
    have hya := hw.1 y ym
    have hxl := tot_mem xm
    have hyl := tot_mem ym
    have htot := hw.2
    by_cases c3 : w = 3
    · simp [c3]
      rw [cut_ws_to i1, cut_ws_from (by omega)]
      have h1 := hw.take i.toNat
      have h2 := hw.drop (i + 1).toNat
      refine cat_to rfl rfl (by have := tot_ln h1; have := tot_ln h2; omega) ?_
      rw [ws_app]
      refine ⟨1, _, ?_, g, og, rfl, _, rfl, rfl⟩
      exact (h1.app h2).mono (by omega)
    by_cases c4 : w = 4
    · simp [c4]
      rw [cut_ws_to (by omega), cut_ws_from i1]
      have h1 := hw.take (i + 1).toNat
      have h2 := hw.drop i.toNat
      refine cat_to rfl rfl (by have := tot_ln h1; have := tot_ln h2; omega) ?_
      rw [ws_app]
      refine ⟨1, _, ?_, g, og, rfl, _, rfl, rfl⟩
      exact (h1.app h2).mono (by omega)
    by_cases c5 : w = 5
    · simp [c5]
      refine ⟨_, yi, _, xi, ?_⟩
      simp [xn]
      have yn' : idxN (wsD (ls.set i.toNat y)).length j = some j.toNat := by
        rw [wsD_len, List.length_set, ← wsD_len]
        exact yn
      rw [ws_set]
      refine ⟨_, yn, 0, _, ?_, g, og, rfl, _, ⟨rfl, rfl⟩, by rw [ws_set]; rfl⟩
      exact ((hw.set i.toNat hya (M := y.length + 1) (by omega)).set j.toNat hxa (M := x.length + 1) (by omega)).mono (by omega)
    by_cases c6 : w = 6
    · simp [c6]
      refine (pick_to og (by omega) (by omega)).mono ?_
      rintro _ g2 ⟨v, rfl, v1, v2, o2⟩
      have sg : ∀ c : List Nat, c = [43] ∨ c = [45] → Asc c ∧ c.length = 1 := fun c hc => by rcases hc with rfl | rfl <;> exact ⟨fun d hd => by simp at hd; omega, rfl⟩
      refine ixl_to (p := fun d => ∃ c : List Nat, d = .str (S c) ∧ (c = [43] ∨ c = [45])) v1 (by simp; omega) (fun d hd => ?_) ?_
      · simp at hd
        rcases hd with rfl | rfl
        · exact ⟨_, rfl, .inl rfl⟩
        · exact ⟨_, rfl, .inr rfl⟩
      rintro _ ⟨c, rfl, hc⟩
      obtain ⟨sa, sl⟩ := sg c hc
      refine ⟨_, rfl, _, yi, [_, _], rfl, (by show (2 : Nat) ≤ 16777216; decide), ?_⟩
      have h2 : Wd (y.length + 3) [c, y] := ⟨fun z hz => by
        simp at hz
        rcases hz with rfl | rfl
        · exact sa
        · exact hya, by simp [tot, sl]; omega⟩
      refine cat_to (xs := wsD ls) (ys := wsD [c, y]) rfl rfl (by have := tot_ln hw; have := tot_ln h2; omega) ?_
      rw [ws_app]
      refine ⟨1, _, ?_, g2, o2, rfl, _, rfl, rfl⟩
      exact (hw.app h2).mono (by omega)
    by_cases c7 : w = 7
    · simp [c7]
      refine (pick_to og (by omega) (by omega)).mono ?_
      rintro _ g2 ⟨v, rfl, v1, v2, o2⟩
      refine ixl_to (p := fun d => ∃ c : List Nat, d = .str (S c) ∧ (c = [43] ∨ c = [45] ∨ c = [32])) v1 (by simp; omega) (fun d hd => ?_) ?_
      · simp at hd
        rcases hd with rfl | rfl | rfl
        · exact ⟨_, rfl, .inl rfl⟩
        · exact ⟨_, rfl, .inr (.inl rfl)⟩
        · exact ⟨_, rfl, .inr (.inr rfl)⟩
      rintro _ ⟨c, rfl, hc⟩
      have sg : Asc c ∧ c.length = 1 := by rcases hc with rfl | rfl | rfl <;> exact ⟨fun d hd => by simp at hd; omega, rfl⟩
      simp [xn]
      rw [ws_set]
      refine ⟨0, _, ?_, g2, o2, rfl, _, ⟨rfl, rfl⟩, rfl⟩
      exact (hw.set i.toNat sg.1 (M := 2) (by omega)).mono (by omega)
    simp [c3, c4, c5, c6, c7]
    refine ⟨_, xi, ?_⟩
    refine (L_word_otherwise_to og (w := .str (S x)) (n := x.length) ⟨x, rfl, hxa, Nat.le_refl _⟩ (by omega)).mono ?_
    rintro _ g2 ⟨⟨z, rfl, za, zl⟩, o2⟩
    simp [xn]
    rw [ws_set]
    refine ⟨0, _, ?_, g2, o2, rfl, _, ⟨rfl, rfl⟩, rfl⟩
    exact (hw.set i.toNat za (M := z.length + 1) (by omega)).mono (by omega)
  · obtain ⟨r, ls', g, obs, hw', og, e1, rfl, e2⟩ := g5
    simp [e1]
    refine join_T hw' (by omega) e2 fun d hd => ?_
    exact ⟨g, rfl, hd, og⟩
end NW
namespace K11
open PySem PySem.Spec PyProof.Rows L2 NW
theorem gd_small {p : Pol} {n m : Nat} (h : PBt n m p) (hn : n ≤ 100) (hm : m ≤ 25) : Gd p := ⟨by have := h.1; omega, fun k => by
  have := (h.co_FB k).mono hn
  exact ⟨Nat.lt_of_lt_of_le this.1 (by decide +kernel), Nat.lt_of_lt_of_le this.2 (by decide +kernel)⟩⟩
theorem gd_zero : Gd Pol.zero := ⟨by simp [Pol.zero], fun k => by rw [co_high (by simp [Pol.zero])]; exact ⟨by decide, by decide⟩⟩
def due (l : List Nat) (d : PyData) : Prop := (∃ p, Gd p ∧ poL p = l ∧ d = polyD p) ∨ ((∀ p, Gd p → poL p ≠ l) ∧ d = .tuple [.str "refused", .int 0])
theorem hsem : ∀ ns : List Int, ns.length ≤ 63 → ∃ st', b_law_k11 ((startL 7 [.scr ns]).set 1 (some .flow)) ⟨some (fl0 ns), []⟩ = .rt (.d (.bool true)) st' := by
  intro ns _
  refine rt_true ?_
  unfold b_law_k11
  refine cut (fun L s => ∃ (p : Pol) (g : Fl), Gd p ∧ FlOk g ∧ L = [some (.scr ns), some .flow, some (.d (polyD p)), none, none, none, none] ∧ s = ⟨some g, []⟩) ?_ fun L s g1 => ?_
  · simp [startL]
    refine (pick_to (fl0_ok ns) (by omega) (by omega)).mono ?_
    rintro _ f1 ⟨i, rfl, i1, i2, o1⟩
    refine (pick_to o1 (by omega) (by omega)).mono ?_
    rintro _ f2 ⟨j, rfl, j1, j2, o2⟩
    refine ixl_to (p := fun x => ∃ m : Int, x = .int m ∧ 3 ≤ m ∧ m ≤ 20) j1 (by simp; omega) (by simp) ?_
    rintro _ ⟨m, rfl, m1, m2⟩
    obtain ⟨I, rfl⟩ := Int.eq_ofNat_of_zero_le i1
    simp
    refine (any_poly_to o2 (n := 5) (by omega) (by omega) (by omega) (by omega) (by omega) (by omega)).mono ?_
    rintro _ f3 ⟨p, rfl, p1, p2, o3⟩
    exact ⟨p, gd_small p1 (by omega) (by omega), o3, rfl⟩
  obtain ⟨p0, g, hp0, og, g3, g4⟩ := g1
  refine cut (fun L s => ∃ (p : Pol) (g : Fl), Gd p ∧ FlOk g ∧ L = [some (.scr ns), some .flow, some (.d (polyD p)), none, none, none, none] ∧ s = ⟨some g, []⟩) ?_ fun L s g1 => ?_
  · rw [g3, g4]
    simp
    refine (pick_to og (by omega) (by omega)).mono ?_
    rintro _ f1 ⟨i, rfl, i1, i2, o1⟩
    by_cases c : i = 0
    · simp [c]
      exact ⟨Pol.zero, gd_zero, o1, rfl⟩
    · simp [c]
      exact ⟨p0, hp0, o1, rfl⟩
  obtain ⟨p, g, hp, og, g3, g4⟩ := g1
  have hl := hp.1
  have hf := fun k => (hp.2 k).fb
  have pa := poL_asc p
  have pl := poL_len hl hf
  refine cut (fun L s => L = [some (.scr ns), some .flow, some (.d (polyD p)), some (.d (.str (S (poL p)))), none, none, none] ∧ s = ⟨some g, []⟩) ?_ fun L s g1 => ?_
  · rw [g3, g4]
    simp
    exact L_poly_text_to (by omega) hf rfl
  refine cut (fun L s => L = [some (.scr ns), some .flow, some (.d (polyD p)), some (.d (.str (S (poL p)))), none, none, none] ∧ s = ⟨some g, []⟩) ?_ fun L s g2 => ?_
  · rw [g1.1, g1.2]
    simp
    refine L_read_val pa (by omega) (fun q hq e => ?_) fun z => absurd rfl (z p hp)
    rw [poL_inj e]
    refine (alike_poly rfl (by omega)).mono ?_
    rintro _ rfl
    simp
  obtain ⟨I, hI⟩ : ∃ I : Nat → NW.Loc → Sto → Prop, ∀ j l s, I j l s ↔ ∃ (a b c : Option U) (g : Fl), FlOk g ∧ l = [some (.scr ns), some .flow, some (.d (polyD p)), some (.d (.str (S (poL p)))), a, b, c] ∧ s = ⟨some g, []⟩ := ⟨_, fun _ _ _ => Iff.rfl⟩
  have start : I 0 L s := (hI _ _ _).mpr ⟨_, _, _, g, og, g2.1, g2.2⟩
  refine cut (fun L s => ∃ j, I j L s) ?_ fun L s g5 => ?_
  · simp
    refine ⟨by decide, ?_⟩
    refine for_ix I (fun _ _ _ _ => chk_nil) start ?_ ?_
    · rintro j x L s hx h'
      obtain ⟨a, b, c, g, og, e1, e2⟩ := (hI _ _ _).mp h'
      rw [e2]
      rw [e1, to_gName]
      refine cut (fun L s => ∃ (t : PyData) (g : Fl), TxN 120100 t ∧ FlOk g ∧ L = [some (.scr ns), some .flow, some (.d (polyD p)), some (.d (.str (S (poL p)))), some (.d x), some (.d t), c] ∧ s = ⟨some g, []⟩) ?_ fun L s g6 => ?_
      · simp
        refine (L_otherwise_2_to og (n := 40000) ⟨_, rfl, pa, by omega⟩ (by omega)).mono ?_
        rintro t1 g1 ⟨ht1, o1⟩
        exact ⟨ht1, o1⟩
      obtain ⟨t1, g, ht1, og, g7, g8⟩ := g6
      refine cut (fun L s => ∃ (t : PyData) (g : Fl), TxN 400000 t ∧ FlOk g ∧ L = [some (.scr ns), some .flow, some (.d (polyD p)), some (.d (.str (S (poL p)))), some (.d x), some (.d t), c] ∧ s = ⟨some g, []⟩) ?_ fun L s g6 => ?_
      · rw [g7, g8]
        simp
        refine (pick_to og (by omega) (by omega)).mono ?_
        rintro _ g2 ⟨v, rfl, v1, v2, o2⟩
        by_cases c0 : v = 0
        · simp [c0]
          refine (L_otherwise_2_to o2 ht1 (by omega)).mono ?_
          rintro t1 g1 ⟨ht1, o1⟩
          exact ⟨ht1.mono (by omega), o1⟩
        · simp [c0]
          exact ⟨ht1.mono (by omega), o2⟩
      obtain ⟨t2, g, ⟨l, rfl, la, ll⟩, og, g7, g8⟩ := g6
      have base : ∀ d, due l d → (sIf (bOr (bNot (bTru (eCallP 2 (m_L_alike 8) (aCons (eCallP 1 m_asked_read_poly (aCons (eVar 5) aNil)) (aCons (eVar 6) aNil))))) (bTest (eOp (opEq true) (eCallX0 1 m_read_poly (aCons (eVar 3) aNil)) (eVar 2))))
    (sRet (eC (.bool false)))
    sNext [some (.scr ns), some .flow, some (.d (polyD p)), some (.d (.str (S (poL p)))), some (.d x), some (.d (.str (S l))), some (.d d)] ⟨some g, []⟩).To (I (j + 1)) (fun u s => u = .d (.bool true)) := fun d hd => by
        have nx : I (j + 1) [some (.scr ns), some .flow, some (.d (polyD p)), some (.d (.str (S (poL p)))), some (.d x), some (.d (.str (S l))), some (.d d)] ⟨some g, []⟩ := (hI _ _ _).mpr ⟨_, _, _, g, og, rfl, rfl⟩
        have ask : ∀ (P : PyData → Prop), P (.bool true) → (m_asked_read_poly [.str (S l)]).To fun z => (m_L_alike 8 [z, d]).To P := fun P hP => by
          unfold m_asked_read_poly
          rcases hd with ⟨q, hq, rfl, rfl⟩ | ⟨hq, rfl⟩
          · refine asked_to (read_poly_gd hq ?_)
            refine (alike_poly rfl (by have := hq.1; omega)).mono ?_
            rintro _ rfl
            exact hP
          · have := (read_poly_any la (by omega)).resolve_left fun ⟨q, hg, e, _⟩ => hq q hg e
            refine asked_ex this ?_
            refine (alike_to 8 _ lk_refused).mono ?_
            rintro _ rfl
            exact hP
        simp
        refine ask _ ?_
        simp
        refine read_poly_gd hp ?_
        simp
        exact nx
      refine cut (fun L s => ((∃ q, Gd q ∧ poL q = l ∧ L = [some (.scr ns), some .flow, some (.d (polyD p)), some (.d (.str (S (poL p)))), some (.d x), some (.d (.str (S l))), some (.d (polyD q))]) ∨ ((∀ q, Gd q → poL q ≠ l) ∧ L = [some (.scr ns), some .flow, some (.d (polyD p)), some (.d (.str (S (poL p)))), some (.d x), some (.d (.str (S l))), some (.d .none)])) ∧ s = ⟨some g, []⟩) ?_ fun L s g9 => ?_
      · rw [g7, g8]
        simp
        refine L_read_val la (by omega) (fun q hq e => .inl ⟨q, hq, e, rfl⟩) fun z => .inr ⟨z, rfl⟩
      refine cut (fun L s => ∃ d, due l d ∧ L = [some (.scr ns), some .flow, some (.d (polyD p)), some (.d (.str (S (poL p)))), some (.d x), some (.d (.str (S l))), some (.d d)] ∧ s = ⟨some g, []⟩) ?_ fun L s g10 => ?_
      · obtain ⟨g9, e⟩ := g9
        rw [e]
        rcases g9 with ⟨q, hq, e1, e2⟩ | ⟨hq, e2⟩
        · rw [e2]
          simp
          exact .inl ⟨rfl, .inl ⟨q, hq, e1, rfl⟩⟩
        · rw [e2]
          simp
          exact .inr ⟨rfl, .inr ⟨hq, rfl⟩⟩
      obtain ⟨d, hd, e1, e2⟩ := g10
      rw [e1, e2]
      exact base d hd
    · rintro L s h'
      exact ⟨_, h'⟩
  obtain ⟨j, g6⟩ := g5
  obtain ⟨a, b, c, g, og, e1, e2⟩ := (hI _ _ _).mp g6
  rw [e1, e2]
  simp
end K11
namespace K11
open PySem PySem.Spec PyProof.Rows L2 LiI NW
def topS (i : Nat) : Stmt := PySem.Challenge.pw_nestwright_k11_texts_of_no_polynomial.main.body.getD i (.Pass ⟨0, 0, 0, 0⟩)
abbrev s_common_part : Stmt := topS 8
theorem sc_common_part : FnScope [("one" : Str), ("other" : Str)] [("one" : Str), ("other" : Str)] (defScope s_common_part) := ⟨rfl, rfl, rfl, by decide +kernel, rfl, by decide +kernel, by decide +kernel⟩
theorem k_common_part {P : Program} {w : World} {K : PySem.W.Frag} {mg : Str → Option Value} {base : Heap} (hNT : base.NoSeer ∧ P.given.tree = none) (z_abs : mg "abs" = none) (D : DefIn K mg "common_part" s_common_part [("one" : Str), ("other" : Str)]) : Cal P w K mg base 33 "common_part" [("one" : Str), ("other" : Str)] (spP K 2 m_common_part) := by
  unfold m_common_part
  exact calP D sc_common_part (by decide) (fun f cdv A outer s H E hr => ⟨_, ((qss_cons (qs_while PassesOwn.never (qt_ne hr (q_var 1) q_int)
    (qss_one (qs_par 0 1 rfl sc_common_part.nd (qa_cons (q_var 1) (qa_cons (q_mod (q_var 0) (q_var 1)) qa_nil)))))
    (qss_one (qs_ret (q_abs z_abs (qa_cons (q_var 0) qa_nil))))))⟩)
abbrev s_fraction : Stmt := topS 9
theorem sc_fraction : FnScope [("top" : Str), ("bottom" : Str), ("part" : Str)] [("top" : Str), ("bottom" : Str)] (defScope s_fraction) := ⟨rfl, rfl, rfl, by decide +kernel, rfl, by decide +kernel, by decide +kernel⟩
theorem k_fraction {P : Program} {w : World} {K : PySem.W.Frag} {mg : Str → Option Value} {base : Heap} (hNT : base.NoSeer ∧ P.given.tree = none) (k_common_part : Cal P w K mg base 33 "common_part" [("one" : Str), ("other" : Str)] (spP K 2 m_common_part)) (D : DefIn K mg "fraction" s_fraction [("top" : Str), ("bottom" : Str)]) : Cal P w K mg base 34 "fraction" [("top" : Str), ("bottom" : Str)] (spP K 2 m_fraction) := by
  unfold m_fraction
  exact calP D sc_fraction (by decide) (fun f cdv A outer s H E hr => ⟨_, ((qss_cons (qs_set 2 sc_fraction.nd (q_calP k_common_part hr (by decide) (qa_cons (q_var 0) (qa_cons (q_var 1) qa_nil))))
    (qss_cons (qs_if (qt_lt (q_var 1) q_int)
    (qss_one (qs_set 2 sc_fraction.nd (q_sub q_int (q_var 2))))
    qss_nil)
    (qss_one (qs_ret (q_tup (qa_cons (q_div (seX hNT hr (by decide) ⟨_, _, rfl, rfl, rfl, rfl, rfl⟩) (q_var 0) (q_var 2)) (qa_cons (q_div (seX hNT hr (by decide) ⟨_, _, rfl, rfl, rfl, rfl, rfl⟩) (q_var 1) (q_var 2)) qa_nil))))))))⟩)
abbrev s_over : Stmt := topS 11
theorem sc_over : FnScope [("tops" : Str), ("bottom" : Str), ("many" : Str), ("part" : Str), ("top" : Str)] [("tops" : Str), ("bottom" : Str)] (defScope s_over) := ⟨rfl, rfl, rfl, by decide +kernel, rfl, by decide +kernel, by decide +kernel⟩
theorem k_over {P : Program} {w : World} {K : PySem.W.Frag} {mg : Str → Option Value} {base : Heap} (hNT : base.NoSeer ∧ P.given.tree = none) (z_len : mg "len" = none) (z_tuple : mg "tuple" = none) (k_common_part : Cal P w K mg base 33 "common_part" [("one" : Str), ("other" : Str)] (spP K 2 m_common_part)) (D : DefIn K mg "over" s_over [("tops" : Str), ("bottom" : Str)]) : Cal P w K mg base 34 "over" [("tops" : Str), ("bottom" : Str)] (spP K 2 m_over) := by
  unfold m_over
  exact calP D sc_over (by decide) (fun f cdv A outer s H E hr => ⟨_, ((qss_cons (qs_set 2 sc_over.nd (q_len z_len (qa_cons (q_var 0) qa_nil)))
    (qss_cons (qs_while PassesOwn.never (qt_w (qw_and (qt_gt (q_var 2) q_int) (qw_and1 (qt_eq hr (q_ix (q_var 0) (q_sub (q_var 2) q_int)) q_int))))
    (qss_one (qs_set 2 sc_over.nd (q_sub (q_var 2) q_int))))
    (qss_cons (qs_set 3 sc_over.nd (q_var 1))
    (qss_cons (qs_for PassesOwn.never rfl (qi_any (q_slA (q_var 0) qo_none (qo_some (q_var 2)))) (qg_name 4 sc_over.nd)
    (qss_one (qs_set 3 sc_over.nd (q_calP k_common_part hr (by decide) (qa_cons (q_var 3) (qa_cons (q_var 4) qa_nil))))))
    (qss_one (qs_ret (q_tup (qa_cons (q_tuple z_tuple (qa_cons (q_frz (qn_lc (g := (gName 4)) (tt := tYes) (te := (tOp rDivI (tVar 4) (tVar 3))) (gm := (gNameM 4)) (cm := bYes) (em := (eOp fDiv (eVar 4) (eVar 3))) (ws := [4]) [(("top" : Str), 4)] rfl sc_over.nd (qi_any (q_slA (q_var 0) qo_none (qo_some (q_var 2)))) rfl rfl (by kernel_rfl) (fun _ _ _ _ _ => (qg_name 4 sc_over.nd)) (fun _ _ _ _ _ => qts_nil) (fun _ _ _ _ _ => (q_div (seX hNT hr (by decide) ⟨_, _, rfl, rfl, rfl, rfl, rfl⟩) (q_var 4) (q_var 3))) (by decide))) qa_nil)) (qa_cons (q_div (seX hNT hr (by decide) ⟨_, _, rfl, rfl, rfl, rfl, rfl⟩) (q_var 1) (q_var 3)) qa_nil))))))))))⟩)
abbrev s_poly : Stmt := topS 12
theorem sc_poly : FnScope [("some" : Str), ("bottom" : Str), ("top" : Str), ("own" : Str)] [("some" : Str)] (defScope s_poly) := ⟨rfl, rfl, rfl, by decide +kernel, rfl, by decide +kernel, by decide +kernel⟩
theorem k_poly {P : Program} {w : World} {K : PySem.W.Frag} {mg : Str → Option Value} {base : Heap} (hNT : base.NoSeer ∧ P.given.tree = none) (k_over : Cal P w K mg base 34 "over" [("tops" : Str), ("bottom" : Str)] (spP K 2 m_over)) (k_common_part : Cal P w K mg base 33 "common_part" [("one" : Str), ("other" : Str)] (spP K 2 m_common_part)) (D : DefIn K mg "poly" s_poly [("some" : Str)]) : Cal P w K mg base 35 "poly" [("some" : Str)] (spP K 1 m_poly) := by
  unfold m_poly
  exact calP D sc_poly (by decide) (fun f cdv A outer s H E hr => ⟨_, ((qss_cons (qs_set 1 sc_poly.nd q_int)
    (qss_cons (qs_for PassesOwn.never rfl (qi_any (q_var 0)) (qg_tup rfl (qgs_cons (qg_name 2 sc_poly.nd) (gName_noEx 2) (qgs_cons (qg_name 3 sc_poly.nd) (gName_noEx 3) qgs_nil)))
    (qss_one (qs_set 1 sc_poly.nd (q_div (seX hNT hr (by decide) ⟨_, _, rfl, rfl, rfl, rfl, rfl⟩) (q_mulA (q_var 1) (q_var 3)) (q_calP k_common_part hr (by decide) (qa_cons (q_var 1) (qa_cons (q_var 3) qa_nil)))))))
    (qss_one (qs_ret (q_calP k_over hr (by decide) (qa_cons (q_frz (qn_lc (g := (gTup K 2 (gCons (gName 2) (gCons (gName 3) gNil)))) (tt := tYes) (te := (tOp (rMulA K) (tVar 2) (tOp rDivI (tVar 1) (tVar 3)))) (gm := (gTupM 2 (gConsM (gNameM 2) (gConsM (gNameM 3) gNilM)))) (cm := bYes) (em := (eOp fMulA (eVar 2) (eOp fDiv (eVar 1) (eVar 3)))) (ws := ([2] ++ ([3] ++ []))) [(("top" : Str), 2), (("own" : Str), 3)] rfl sc_poly.nd (qi_any (q_var 0)) rfl rfl (by kernel_rfl) (fun _ _ _ _ _ => (qg_tup rfl (qgs_cons (qg_name 2 sc_poly.nd) (gName_noEx 2) (qgs_cons (qg_name 3 sc_poly.nd) (gName_noEx 3) qgs_nil)))) (fun _ _ _ _ _ => qts_nil) (fun _ _ _ _ _ => (q_mulA (q_var 2) (q_div (seX hNT hr (by decide) ⟨_, _, rfl, rfl, rfl, rfl, rfl⟩) (q_var 1) (q_var 3)))) (by decide))) (qa_cons (q_var 1) qa_nil))))))))⟩)
abbrev s_fraction_at : Stmt := topS 13
theorem sc_fraction_at : FnScope [("p" : Str), ("k" : Str)] [("p" : Str), ("k" : Str)] (defScope s_fraction_at) := ⟨rfl, rfl, rfl, by decide +kernel, rfl, by decide +kernel, by decide +kernel⟩
theorem k_fraction_at {P : Program} {w : World} {K : PySem.W.Frag} {mg : Str → Option Value} {base : Heap} (hNT : base.NoSeer ∧ P.given.tree = none) (z_len : mg "len" = none) (k_fraction : Cal P w K mg base 34 "fraction" [("top" : Str), ("bottom" : Str)] (spP K 2 m_fraction)) (D : DefIn K mg "fraction_at" s_fraction_at [("p" : Str), ("k" : Str)]) : Cal P w K mg base 35 "fraction_at" [("p" : Str), ("k" : Str)] (spP K 2 m_fraction_at) := by
  unfold m_fraction_at
  exact calP D sc_fraction_at (by decide) (fun f cdv A outer s H E hr => ⟨_, ((qss_cons (qs_if (qt_ge (q_var 1) (q_len z_len (qa_cons (q_ix (q_var 0) q_int) qa_nil)))
    (qss_one (qs_ret (q_tup (qa_cons q_int (qa_cons q_int qa_nil)))))
    qss_nil)
    (qss_one (qs_ret (q_calP k_fraction hr (by decide) (qa_cons (q_ix (q_ix (q_var 0) q_int) (q_var 1)) (qa_cons (q_ix (q_var 0) q_int) qa_nil)))))))⟩)
abbrev s_fraction_text : Stmt := topS 18
theorem sc_fraction_text : FnScope [("r" : Str)] [("r" : Str)] (defScope s_fraction_text) := ⟨rfl, rfl, rfl, by decide +kernel, rfl, by decide +kernel, by decide +kernel⟩
theorem k_fraction_text {P : Program} {w : World} {K : PySem.W.Frag} {mg : Str → Option Value} {base : Heap} (hNT : base.NoSeer ∧ P.given.tree = none) (z_str : mg "str" = none) (D : DefIn K mg "fraction_text" s_fraction_text [("r" : Str)]) : Cal P w K mg base 33 "fraction_text" [("r" : Str)] (spP K 1 m_fraction_text) := by
  unfold m_fraction_text
  exact calP D sc_fraction_text (by decide) (fun f cdv A outer s H E hr => ⟨_, ((qss_cons (qs_if (qt_eq hr (q_ix (q_var 0) q_int) q_int)
    (qss_one (qs_ret (q_strI z_str (qa_cons (q_ix (q_var 0) q_int) qa_nil))))
    qss_nil)
    (qss_one (qs_ret (q_js (qj_cons (q_fmt (q_ix (q_var 0) q_int)) (qj_cons q_str (qj_cons (q_fmt (q_ix (q_var 0) q_int)) qj_nil))))))))⟩)
abbrev s_letter_text : Stmt := topS 19
theorem sc_letter_text : FnScope [("k" : Str)] [("k" : Str)] (defScope s_letter_text) := ⟨rfl, rfl, rfl, by decide +kernel, rfl, by decide +kernel, by decide +kernel⟩
theorem k_letter_text {P : Program} {w : World} {K : PySem.W.Frag} {mg : Str → Option Value} {base : Heap} (hNT : base.NoSeer ∧ P.given.tree = none) (D : DefIn K mg "letter_text" s_letter_text [("k" : Str)]) : Cal P w K mg base 33 "letter_text" [("k" : Str)] (spP K 1 m_letter_text) := by
  unfold m_letter_text
  exact calP D sc_letter_text (by decide) (fun f cdv A outer s H E hr => ⟨_, ((qss_cons (qs_if (qt_eq hr (q_var 0) q_int)
    (qss_one (qs_ret q_str))
    qss_nil)
    (qss_one (qs_ret (q_js (qj_cons q_str (qj_cons (q_fmt (q_var 0)) qj_nil)))))))⟩)
abbrev s_word_text : Stmt := topS 20
theorem sc_word_text : FnScope [("r" : Str), ("k" : Str)] [("r" : Str), ("k" : Str)] (defScope s_word_text) := ⟨rfl, rfl, rfl, by decide +kernel, rfl, by decide +kernel, by decide +kernel⟩
theorem k_word_text {P : Program} {w : World} {K : PySem.W.Frag} {mg : Str → Option Value} {base : Heap} (hNT : base.NoSeer ∧ P.given.tree = none) (k_fraction_text : Cal P w K mg base 33 "fraction_text" [("r" : Str)] (spP K 1 m_fraction_text)) (k_letter_text : Cal P w K mg base 33 "letter_text" [("k" : Str)] (spP K 1 m_letter_text)) (D : DefIn K mg "word_text" s_word_text [("r" : Str), ("k" : Str)]) : Cal P w K mg base 34 "word_text" [("r" : Str), ("k" : Str)] (spP K 2 m_word_text) := by
  unfold m_word_text
  exact calP D sc_word_text (by decide) (fun f cdv A outer s H E hr => ⟨_, ((qss_cons (qs_if (qt_eq hr (q_var 1) q_int)
    (qss_one (qs_ret (q_calP k_fraction_text hr (by decide) (qa_cons (q_var 0) qa_nil))))
    qss_nil)
    (qss_cons (qs_if (qt_eq hr (q_var 0) (q_tup (qa_cons q_int (qa_cons q_int qa_nil))))
    (qss_one (qs_ret (q_calP k_letter_text hr (by decide) (qa_cons (q_var 1) qa_nil))))
    qss_nil)
    (qss_one (qs_ret (q_addA (q_addA (q_calP k_fraction_text hr (by decide) (qa_cons (q_var 0) qa_nil)) q_str) (q_calP k_letter_text hr (by decide) (qa_cons (q_var 1) qa_nil))))))))⟩)
abbrev s_poly_text : Stmt := topS 21
theorem sc_poly_text : FnScope [("p" : Str), ("found" : Str), ("k" : Str), ("top" : Str), ("bottom" : Str), ("sign" : Str)] [("p" : Str)] (defScope s_poly_text) := ⟨rfl, rfl, rfl, by decide +kernel, rfl, by decide +kernel, by decide +kernel⟩
theorem k_poly_text {P : Program} {w : World} {K : PySem.W.Frag} {mg : Str → Option Value} {base : Heap} (hNT : base.NoSeer ∧ P.given.tree = none) (z_abs : mg "abs" = none) (z_int : mg "int" = none) (z_len : mg "len" = none) (z_range : mg "range" = none) (z_reversed : mg "reversed" = none) (k_word_text : Cal P w K mg base 34 "word_text" [("r" : Str), ("k" : Str)] (spP K 2 m_word_text)) (k_fraction_at : Cal P w K mg base 35 "fraction_at" [("p" : Str), ("k" : Str)] (spP K 2 m_fraction_at)) (D : DefIn K mg "poly_text" s_poly_text [("p" : Str)]) : Cal P w K mg base 36 "poly_text" [("p" : Str)] (spP K 1 m_poly_text) := by
  unfold m_poly_text
  exact calP D sc_poly_text (by decide) (fun f cdv A outer s H E hr => ⟨_, ((qss_cons (qs_set 1 sc_poly_text.nd q_str)
    (qss_cons (qs_for PassesOwn.never rfl (qi_revR z_reversed z_range (q_len z_len (qa_cons (q_ix (q_var 0) q_int) qa_nil))) (qg_name 2 sc_poly_text.nd)
    (qss_cons (qs_asg (q_calP k_fraction_at hr (by decide) (qa_cons (q_var 0) (qa_cons (q_var 2) qa_nil))) (qg_tup rfl (qgs_cons (qg_name 3 sc_poly_text.nd) (gName_noEx 3) (qgs_cons (qg_name 4 sc_poly_text.nd) (gName_noEx 4) qgs_nil))))
    (qss_one (qs_if (qt_ne hr (q_var 3) q_int)
    (qss_cons (qs_set 5 sc_poly_text.nd (q_ix (q_frz (qn_disp (qa_cons q_str (qa_cons q_str qa_nil)))) (q_intc z_int (qa_cons (q_lt (q_var 3) q_int) qa_nil))))
    (qss_cons (qs_if (qt_eq hr (q_var 1) q_str)
    (qss_one (qs_set 5 sc_poly_text.nd (q_ix (q_frz (qn_disp (qa_cons q_str (qa_cons q_str qa_nil)))) (q_intc z_int (qa_cons (q_lt (q_var 3) q_int) qa_nil)))))
    qss_nil)
    (qss_one (qs_set 1 sc_poly_text.nd (q_addA (q_addA (q_var 1) (q_var 5)) (q_calP k_word_text hr (by decide) (qa_cons (q_tup (qa_cons (q_abs z_abs (qa_cons (q_var 3) qa_nil)) (qa_cons (q_var 4) qa_nil))) (qa_cons (q_var 2) qa_nil))))))))
    qss_nil))))
    (qss_cons (qs_if (qt_eq hr (q_var 1) q_str)
    (qss_one (qs_ret q_str))
    qss_nil)
    (qss_one (qs_ret (q_var 1)))))))⟩)
abbrev s_is_number : Stmt := topS 22
theorem sc_is_number : FnScope [("text" : Str), ("sign" : Str)] [("text" : Str)] (defScope s_is_number) := ⟨rfl, rfl, rfl, by decide +kernel, rfl, by decide +kernel, by decide +kernel⟩
theorem k_is_number {P : Program} {w : World} {K : PySem.W.Frag} {mg : Str → Option Value} {base : Heap} (hNT : base.NoSeer ∧ P.given.tree = none) (z_all : mg "all" = none) (z_len : mg "len" = none) (hC_FIGURES : ConIn K mg "FIGURES" c_FIGURES) (hC_MOST_FIGURES : ConIn K mg "MOST_FIGURES" c_MOST_FIGURES) (D : DefIn K mg "is_number" s_is_number [("text" : Str)]) : Cal P w K mg base 33 "is_number" [("text" : Str)] (spP K 1 m_is_number) := by
  obtain ⟨u_FIGURES, v_FIGURES, hm_FIGURES, hc_FIGURES⟩ := hC_FIGURES.ex
  obtain ⟨u_MOST_FIGURES, v_MOST_FIGURES, hm_MOST_FIGURES, hc_MOST_FIGURES⟩ := hC_MOST_FIGURES.ex
  unfold m_is_number
  exact calP D sc_is_number (by decide) (fun f cdv A outer s H E hr => ⟨_, ((qss_cons (qs_if (qt_w (qw_or (qt_eq hr (q_len z_len (qa_cons (q_var 0) qa_nil)) q_int) (qw_or (qt_gt (q_len z_len (qa_cons (q_var 0) qa_nil)) (q_glob (by rfl) hm_MOST_FIGURES hc_MOST_FIGURES)) (qw_or1 (qt_not (qt_tru (q_all rfl z_all (qa_cons (q_frz (qn_lc (g := (gName 1)) (tt := tYes) (te := (tOp rInS (tVar 1) (tC v_FIGURES))) (gm := (gNameM 1)) (cm := bYes) (em := (eOp (fInS false) (eVar 1) (eC c_FIGURES))) (ws := [1]) [(("sign" : Str), 1)] rfl sc_is_number.nd (qi_str (q_var 0)) rfl rfl (by kernel_rfl) (fun _ _ _ _ _ => (qg_name 1 sc_is_number.nd)) (fun _ _ _ _ _ => qts_nil) (fun _ _ _ _ _ => (q_inS (q_var 1) (q_glob (by rfl) hm_FIGURES hc_FIGURES))) (by decide))) qa_nil))))))))
    (qss_one (qs_ret q_bl))
    qss_nil)
    (qss_one (qs_ret (q_or (q_eq hr (q_var 0) q_str) (q_one (q_ne hr (q_ix (q_var 0) q_int) q_str)))))))⟩)
abbrev si_BadText : Stmt := (clsBody (topS 2)).getD 0 (.Pass ⟨0, 0, 0, 0⟩)
theorem sci_BadText : FnScope [("self" : Str), ("at" : Str)] [("self" : Str), ("at" : Str)] (defScope si_BadText) := ⟨rfl, rfl, rfl, by decide +kernel, rfl, by decide +kernel, by decide +kernel⟩
theorem ini_BadText {P : Program} {w : World} {K : PySem.W.Frag} {mg : Str → Option Value} {base : Heap} {C f : Addr} {fd : FuncData} (F : Fun K "__init__" "BadText.__init__" si_BadText f fd) (T : OexC K C) (hno : PySem.W.findIn K (.ref C) "at" = some none) : FnOk P w K mg base CX0 1 f fd [("self" : Str), ("at" : Str)] (spInit K C "at") :=
  F.ok sci_BadText (fun vs H Q E h => by obtain ⟨a, y, rfl, _⟩ := h; rfl) (fun cdv A outer s H vs Q E hr h => ⟨_, pss_one (ps_ost (pv 0) (pv 1)), initT T hno h⟩)
abbrev s_read_fraction : Stmt := topS 23
theorem sc_read_fraction : FnScope [("text" : Str), ("plain" : Str), ("top" : Str), ("mark" : Str), ("bottom" : Str), ("found" : Str)] [("text" : Str)] (defScope s_read_fraction) := ⟨rfl, rfl, rfl, by decide +kernel, rfl, by decide +kernel, by decide +kernel⟩
theorem k_read_fraction {P : Program} {w : World} {K : PySem.W.Frag} {mg : Str → Option Value} {base : Heap} (hNT : base.NoSeer ∧ P.given.tree = none) (z_int : mg "int" = none) (k_fraction_text : Cal P w K mg base 33 "fraction_text" [("r" : Str)] (spP K 1 m_fraction_text)) (k_fraction : Cal P w K mg base 34 "fraction" [("top" : Str), ("bottom" : Str)] (spP K 2 m_fraction)) (k_is_number : Cal P w K mg base 33 "is_number" [("text" : Str)] (spP K 1 m_is_number)) (c_BadText : Cls1 P w K mg base "BadText" "at") (D : DefIn K mg "read_fraction" s_read_fraction [("text" : Str)]) : CalX P w K mg base 35 "read_fraction" [("text" : Str)] (spX K mg 1 m_read_fraction) := by
  unfold m_read_fraction
  exact calX D sc_read_fraction (by decide) (fun f cdv A outer s H E hr => ⟨_, ((qssx_cons (QS.x (qs_set 1 sc_read_fraction.nd (q_var 0)))
    (qssx_cons (qsx_if (qt_tru (q_starts (q_var 0) q_str))
    (qssx_one (QS.x (qs_set 1 sc_read_fraction.nd (q_slA (q_var 0) (qo_some q_int) qo_none))))
    qssx_nil)
    (qssx_cons (QS.x (qs_asg (q_part (q_var 1) q_str) (qg_tup rfl (qgs_cons (qg_name 2 sc_read_fraction.nd) (gName_noEx 2) (qgs_cons (qg_name 3 sc_read_fraction.nd) (gName_noEx 3) (qgs_cons (qg_name 4 sc_read_fraction.nd) (gName_noEx 4) qgs_nil))))))
    (qssx_cons (qsx_if (qt_eq hr (q_var 3) q_str)
    (qssx_one (QS.x (qs_set 4 sc_read_fraction.nd q_str)))
    qssx_nil)
    (qssx_cons (qsx_if (qt_w (qw_or (qt_not (qt_tru (q_calP k_is_number hr (by decide) (qa_cons (q_var 2) qa_nil)))) (qw_or (qt_not (qt_tru (q_calP k_is_number hr (by decide) (qa_cons (q_var 4) qa_nil)))) (qw_or1 (qt_eq hr (q_var 4) q_str)))))
    (qssx_one (qsx_raise1 c_BadText rfl (takes_of rfl rfl rfl rfl) hr (by decide) q_int))
    qssx_nil)
    (qssx_cons (QS.x (qs_set 5 sc_read_fraction.nd (q_calP k_fraction hr (by decide) (qa_cons (q_mulA (q_intS z_int (qa_cons (q_var 2) qa_nil)) (q_ix (q_frz (qn_disp (qa_cons q_int (qa_cons (q_neg 1) qa_nil)))) (q_intc z_int (qa_cons (q_ne hr (q_var 1) (q_var 0)) qa_nil)))) (qa_cons (q_intS z_int (qa_cons (q_var 4) qa_nil)) qa_nil)))))
    (qssx_cons (qsx_if (qt_ne hr (q_calP k_fraction_text hr (by decide) (qa_cons (q_var 5) qa_nil)) (q_var 0))
    (qssx_one (qsx_raise1 c_BadText rfl (takes_of rfl rfl rfl rfl) hr (by decide) q_int))
    qssx_nil)
    (qssx_one (QS.x (qs_ret (q_var 5))))))))))))⟩)
abbrev s_read_power : Stmt := topS 24
theorem sc_read_power : FnScope [("text" : Str), ("k" : Str)] [("text" : Str)] (defScope s_read_power) := ⟨rfl, rfl, rfl, by decide +kernel, rfl, by decide +kernel, by decide +kernel⟩
theorem k_read_power {P : Program} {w : World} {K : PySem.W.Frag} {mg : Str → Option Value} {base : Heap} (hNT : base.NoSeer ∧ P.given.tree = none) (z_int : mg "int" = none) (k_is_number : Cal P w K mg base 33 "is_number" [("text" : Str)] (spP K 1 m_is_number)) (hC_MOST_DEGREE : ConIn K mg "MOST_DEGREE" c_MOST) (D : DefIn K mg "read_power" s_read_power [("text" : Str)]) : Cal P w K mg base 34 "read_power" [("text" : Str)] (spP K 1 m_read_power) := by
  obtain ⟨u_MOST_DEGREE, v_MOST_DEGREE, hm_MOST_DEGREE, hc_MOST_DEGREE⟩ := hC_MOST_DEGREE.ex
  unfold m_read_power
  exact calP D sc_read_power (by decide) (fun f cdv A outer s H E hr => ⟨_, ((qss_cons (qs_if (qt_eq hr (q_var 0) q_str)
    (qss_one (qs_ret q_int))
    qss_nil)
    (qss_cons (qs_if (qt_w (qw_or (qt_not (qt_tru (q_starts (q_var 0) q_str))) (qw_or1 (qt_not (qt_tru (q_calP k_is_number hr (by decide) (qa_cons (q_slA (q_var 0) (qo_some q_int) qo_none) qa_nil)))))))
    (qss_one (qs_ret q_non))
    qss_nil)
    (qss_cons (qs_set 1 sc_read_power.nd (q_intS z_int (qa_cons (q_slA (q_var 0) (qo_some q_int) qo_none) qa_nil)))
    (qss_cons (qs_if (qt_chain cr_le cr_le q_int (q_var 1) (q_glob (by rfl) hm_MOST_DEGREE hc_MOST_DEGREE))
    (qss_one (qs_ret (q_var 1)))
    qss_nil)
    (qss_one (qs_ret q_non)))))))⟩)
abbrev s_read_words : Stmt := topS 25
theorem sc_read_words : FnScope [("words" : Str), ("k" : Str), ("rest" : Str)] [("words" : Str)] (defScope s_read_words) := ⟨rfl, rfl, rfl, by decide +kernel, rfl, by decide +kernel, by decide +kernel⟩
theorem k_read_words {P : Program} {w : World} {K : PySem.W.Frag} {mg : Str → Option Value} {base : Heap} (hNT : base.NoSeer ∧ P.given.tree = none) (z_len : mg "len" = none) (k_read_fraction : CalX P w K mg base 35 "read_fraction" [("text" : Str)] (spX K mg 1 m_read_fraction)) (k_read_power : Cal P w K mg base 34 "read_power" [("text" : Str)] (spP K 1 m_read_power)) (c_BadText : Cls1 P w K mg base "BadText" "at") (D : DefIn K mg "read_words" s_read_words [("words" : Str)]) : CalX P w K mg base 36 "read_words" [("words" : Str)] (spX K mg 1 m_read_words) := by
  unfold m_read_words
  exact calX D sc_read_words (by decide) (fun f cdv A outer s H E hr => ⟨_, ((qssx_cons (QS.x (qs_set 1 sc_read_words.nd (q_calP k_read_power hr (by decide) (qa_cons (q_ix (q_var 0) (q_neg 1)) qa_nil))))
    (qssx_cons (qsx_if (qt_isN (q_var 1) q_non)
    (qssx_one (QS.x (qs_set 1 sc_read_words.nd q_int)))
    qssx_nil)
    (qssx_cons (QS.x (qs_set 2 sc_read_words.nd (q_var 0)))
    (qssx_cons (qsx_if (qt_gt (q_var 1) q_int)
    (qssx_one (QS.x (qs_set 2 sc_read_words.nd (q_slA (q_var 0) qo_none (qo_some (q_neg 1))))))
    qssx_nil)
    (qssx_cons (qsx_if (qt_w (qw_or (qt_gt (q_len z_len (qa_cons (q_var 2) qa_nil)) q_int) (qw_or1 (qt_w (qw_and (qt_eq hr (q_len z_len (qa_cons (q_var 2) qa_nil)) q_int) (qw_and1 (qt_eq hr (q_var 1) q_int)))))))
    (qssx_one (qsx_raise1 c_BadText rfl (takes_of rfl rfl rfl rfl) hr (by decide) q_int))
    qssx_nil)
    (qssx_cons (qsx_if (qt_eq hr (q_len z_len (qa_cons (q_var 2) qa_nil)) q_int)
    (qssx_one (QS.x (qs_ret (q_tup (qa_cons (q_tup (qa_cons q_int (qa_cons q_int qa_nil))) (qa_cons (q_var 1) qa_nil))))))
    qssx_nil)
    (qssx_one (qsx_ret (qex_tup (qax_cons (qx_cal k_read_fraction (takes_of rfl rfl rfl rfl) hr (by decide) (qa_cons (q_ix (q_var 2) q_int) qa_nil)) (qax_cons (QE.x (q_var 1)) qax_nil))))))))))))⟩)
abbrev s_parted : Stmt := topS 26
theorem sc_parted : FnScope [("text" : Str), ("found" : Str), ("part" : Str)] [("text" : Str)] (defScope s_parted) := ⟨rfl, rfl, rfl, by decide +kernel, rfl, by decide +kernel, by decide +kernel⟩
theorem k_parted {P : Program} {w : World} {K : PySem.W.Frag} {mg : Str → Option Value} {base : Heap} (hNT : base.NoSeer ∧ P.given.tree = none) (z_int : mg "int" = none) (D : DefIn K mg "parted" s_parted ["text"]) : Cal P w K mg base 33 "parted" ["text"] (spP K 1 m_parted) := by
  obtain ⟨f, fd, F, hm, hb'⟩ := D.ex
  refine ⟨f, fd, F.ok sc_parted (fun vs H Q E h => ?_) (fun cdv A outer s H vs Q E hr h => ⟨tParted K, ?_, parted_read h⟩), hm, F.kp, hb'⟩
  · obtain ⟨O0, ds, d, fr, _, r, hl, _⟩ := h
    rw [r.len, hl]; rfl
  · have z : QSs (cxOf CX0 P w K mg base _ "parted" (defScope s_parted) f cdv A outer s H E).nox (defBody s_parted) _ _ := (qss_cons (qs_set 1 sc_parted.nd (q_own (qn_disp (qa_cons (q_tup (qa_cons q_int (qa_cons (q_frz (qn_disp qa_nil)) qa_nil))) qa_nil))))
    (qss_cons (qs_if (qt_tru (q_starts (q_var 0) q_str))
    (qss_cons (qs_set 1 sc_parted.nd (q_own (qn_disp (qa_cons (q_tup (qa_cons (q_neg 1) (qa_cons (q_frz (qn_disp qa_nil)) qa_nil))) qa_nil))))
    (qss_one (qs_set 0 sc_parted.nd (q_slA (q_var 0) (qo_some q_int) qo_none))))
    qss_nil)
    (qss_cons (qs_for PassesOwn.never rfl (qi_any (q_split (q_var 0) q_str)) (qg_name 2 sc_parted.nd)
    (qss_one (qs_if (qt_in (q_var 2) (q_tup (qa_cons q_str (qa_cons q_str qa_nil))))
    (qss_one (qs_expr (q_append (q_var 1) (qa_cons (q_tup (qa_cons (q_ix (q_frz (qn_disp (qa_cons q_int (qa_cons (q_neg 1) qa_nil)))) (q_intc z_int (qa_cons (q_eq hr (q_var 2) q_str) qa_nil))) (qa_cons (q_frz (qn_disp qa_nil)) qa_nil))) qa_nil))))
    (qss_one (qs_expr (q_append (q_ix (q_ix (q_var 1) (q_neg 1)) q_int) (qa_cons (q_var 2) qa_nil)))))))
    (qss_one (qs_ret (q_var 1))))))
    exact z.pss
abbrev s_read_poly : Stmt := topS 27
theorem sc_read_poly : FnScope [("text" : Str), ("some" : Str), ("sign" : Str), ("words" : Str), ("r" : Str), ("k" : Str), ("found" : Str)] [("text" : Str)] (defScope s_read_poly) := ⟨rfl, rfl, rfl, by decide +kernel, rfl, by decide +kernel, by decide +kernel⟩
theorem k_read_poly {P : Program} {w : World} {K : PySem.W.Frag} {mg : Str → Option Value} {base : Heap} (hNT : base.NoSeer ∧ P.given.tree = none) (z_len : mg "len" = none) (k_poly_text : Cal P w K mg base 36 "poly_text" [("p" : Str)] (spP K 1 m_poly_text)) (k_poly : Cal P w K mg base 35 "poly" [("some" : Str)] (spP K 1 m_poly)) (k_parted : Cal P w K mg base 33 "parted" [("text" : Str)] (spP K 1 m_parted)) (k_read_words : CalX P w K mg base 36 "read_words" [("words" : Str)] (spX K mg 1 m_read_words)) (c_BadText : Cls1 P w K mg base "BadText" "at") (hC_MOST_DEGREE : ConIn K mg "MOST_DEGREE" c_MOST) (D : DefIn K mg "read_poly" s_read_poly [("text" : Str)]) : CalX P w K mg base 37 "read_poly" [("text" : Str)] (spX K mg 1 m_read_poly) := by
  obtain ⟨u_MOST_DEGREE, v_MOST_DEGREE, hm_MOST_DEGREE, hc_MOST_DEGREE⟩ := hC_MOST_DEGREE.ex
  unfold m_read_poly
  exact calX D sc_read_poly (by decide) (fun f cdv A outer s H E hr => ⟨_, ((qssx_cons (QS.x (qs_set 1 sc_read_poly.nd (q_own (qn_rep (q_frz (qn_disp (qa_cons (q_tup (qa_cons q_int (qa_cons q_int qa_nil))) qa_nil))) (q_addA (q_glob (by rfl) hm_MOST_DEGREE hc_MOST_DEGREE) q_int)))))
    (qssx_cons (qsx_for (passes_of rfl) rfl (qi_any (q_calP k_parted hr (by decide) (qa_cons (q_var 0) qa_nil))) (qg_tup rfl (qgs_cons (qg_name 2 sc_read_poly.nd) (gName_noEx 2) (qgs_cons (qg_name 3 sc_read_poly.nd) (gName_noEx 3) qgs_nil)))
    (qssx_cons (qsx_if (qt_eq hr (q_len z_len (qa_cons (q_var 3) qa_nil)) q_int)
    (qssx_one (qsx_raise1 c_BadText rfl (takes_of rfl rfl rfl rfl) hr (by decide) q_int))
    qssx_nil)
    (qssx_cons (qsx_asg (qx_cal k_read_words (takes_of rfl rfl rfl rfl) hr (by decide) (qa_cons (q_var 3) qa_nil)) (qg_tup rfl (qgs_cons (qg_name 4 sc_read_poly.nd) (gName_noEx 4) (qgs_cons (qg_name 5 sc_read_poly.nd) (gName_noEx 5) qgs_nil))))
    (qssx_one (QS.x (qs_asg (q_tup (qa_cons (q_mulA (q_var 2) (q_ix (q_var 4) q_int)) (qa_cons (q_ix (q_var 4) q_int) qa_nil))) (qg_sub (q_var 1) (q_var 5))))))))
    (qssx_cons (QS.x (qs_set 6 sc_read_poly.nd (q_calP k_poly hr (by decide) (qa_cons (q_var 1) qa_nil))))
    (qssx_cons (qsx_if (qt_ne hr (q_calP k_poly_text hr (by decide) (qa_cons (q_var 6) qa_nil)) (q_var 0))
    (qssx_one (qsx_raise1 c_BadText rfl (takes_of rfl rfl rfl rfl) hr (by decide) q_int))
    qssx_nil)
    (qssx_one (QS.x (qs_ret (q_var 6)))))))))⟩)
abbrev s_L_flow : Stmt := topS 29
theorem sc_L_flow : FnScope [("_law_script" : Str)] [("_law_script" : Str)] (defScope s_L_flow) := ⟨rfl, rfl, rfl, by decide +kernel, rfl, by decide +kernel, by decide +kernel⟩
theorem k_L_flow {P : Program} {w : World} {K : PySem.W.Frag} {mg : Str → Option Value} {base : Heap} (hNT : base.NoSeer ∧ P.given.tree = none) (z_list : mg "list" = none) (D : DefIn K mg "_law_flow" s_L_flow [("_law_script" : Str)]) : Cal P w K mg base 33 "_law_flow" [("_law_script" : Str)] (spFl K) := by
  exact calFl (b := b_L_flow) D sc_L_flow rfl (by decide) (fun ns => rfl) (fun f cdv A outer s H E hr => ⟨_, ((qss_one (qs_ret (q_own (qn_disp (qa_cons (q_frz (qn_list z_list (qa_cons (q_var 0) qa_nil))) (qa_cons q_int (qa_cons q_int (qa_cons q_int (qa_cons q_int qa_nil))))))))))⟩)
abbrev s_L_pick : Stmt := topS 30
theorem sc_L_pick : FnScope [("_law_flow_here" : Str), ("_law_many" : Str), ("_law_cell" : Str), ("_law_digit" : Str)] [("_law_flow_here" : Str), ("_law_many" : Str)] (defScope s_L_pick) := ⟨rfl, rfl, rfl, by decide +kernel, rfl, by decide +kernel, by decide +kernel⟩
theorem k_L_pick {P : Program} {w : World} {K : PySem.W.Frag} {mg : Str → Option Value} {base : Heap} (hNT : base.NoSeer ∧ P.given.tree = none) (z_len : mg "len" = none) (D : DefIn K mg "_law_pick" s_L_pick [("_law_flow_here" : Str), ("_law_many" : Str)]) : Cal P w K mg base 33 "_law_pick" [("_law_flow_here" : Str), ("_law_many" : Str)] (spF K 2 m_L_pick) := by
  unfold m_L_pick
  exact calF D sc_L_pick (by decide) (fun f cdv A outer s H E hr => ⟨_, ((qss_cons (qs_if (qt_w (qw_and (qt_eq hr (q_ix (q_var 0) q_int) q_int) (qw_and1 (qt_lt (q_ix (q_var 0) q_int) (q_len z_len (qa_cons (q_ix (q_var 0) q_int) qa_nil))))))
    (qss_cons (qs_set 2 sc_L_pick.nd (q_ix (q_ix (q_var 0) q_int) (q_ix (q_var 0) q_int)))
    (qss_cons (qs_asg (q_addA (q_ix (q_var 0) q_int) q_int) (qg_sub (q_var 0) q_int))
    (qss_one (qs_if (qt_ge (q_var 2) (q_pow q_int q_int))
    (qss_one (qs_asg (q_var 2) (qg_sub (q_var 0) q_int)))
    (qss_one (qs_asg (q_mod (q_addA (q_addA (q_mulA (q_ix (q_var 0) q_int) q_int) (q_mod (q_var 2) q_int)) q_int) q_int) (qg_sub (q_var 0) q_int)))))))
    qss_nil)
    (qss_cons (qs_if (qt_gt (q_ix (q_var 0) q_int) q_int)
    (qss_cons (qs_set 3 sc_L_pick.nd (q_mod (q_ix (q_var 0) q_int) (q_var 1)))
    (qss_cons (qs_asg (q_div (seX hNT hr (by decide) ⟨_, _, rfl, rfl, rfl, rfl, rfl⟩) (q_ix (q_var 0) q_int) (q_var 1)) (qg_sub (q_var 0) q_int))
    (qss_one (qs_ret (q_var 3)))))
    qss_nil)
    (qss_cons (qs_asg (q_addA (q_ix (q_var 0) q_int) q_int) (qg_sub (q_var 0) q_int))
    (qss_cons (qs_asg (q_mod (q_addA (q_addA (q_mulA (q_ix (q_var 0) q_int) q_int) q_int) (q_ix (q_var 0) q_int)) q_int) (qg_sub (q_var 0) q_int))
    (qss_one (qs_ret (q_mod (q_div (seX hNT hr (by decide) ⟨_, _, rfl, rfl, rfl, rfl, rfl⟩) (q_mod (q_mulA (q_addA (q_mod (q_ix (q_var 0) q_int) q_int) q_int) (q_addA (q_div (seX hNT hr (by decide) ⟨_, _, rfl, rfl, rfl, rfl, rfl⟩) (q_ix (q_var 0) q_int) q_int) q_int)) q_int) q_int) (q_var 1)))))))))⟩)
abbrev s_L_alike : Stmt := topS 31
theorem sc_L_alike : FnScope [("_law_found" : Str), ("_law_due" : Str), ("_law_k" : Str)] [("_law_found" : Str), ("_law_due" : Str)] (defScope s_L_alike) := ⟨rfl, rfl, rfl, by decide +kernel, rfl, by decide +kernel, by decide +kernel⟩
theorem k_L_alike {P : Program} {w : World} {K : PySem.W.Frag} {mg : Str → Option Value} {base : Heap} (hNT : base.NoSeer ∧ P.given.tree = none) (z_all : mg "all" = none) (z_bool : mg "bool" = none) (z_isinstance : mg "isinstance" = none) (z_len : mg "len" = none) (z_list : mg "list" = none) (z_range : mg "range" = none) (z_tuple : mg "tuple" = none) (D : DefIn K mg "_law_alike" s_L_alike [("_law_found" : Str), ("_law_due" : Str)]) : ∀ n, Cal P w K mg base (33 + n) "_law_alike" [("_law_found" : Str), ("_law_due" : Str)] (spP K 2 (m_L_alike n))
  | 0 => by
    rw [NW.z_L_alike]
    exact calP0 D sc_L_alike
  | n + 1 => by
    have k_L_alike := k_L_alike (P := P) (w := w) (base := base) hNT z_all z_bool z_isinstance z_len z_list z_range z_tuple D n
    rw [NW.s_L_alike]
    exact calP (k := 33 + n) D sc_L_alike (by decide) (fun f cdv A outer s H E hr => ⟨_, ((qss_cons (qs_if (qt_tru (q_isiT z_isinstance (q_var 1) (qty_cons z_list boot_list (qty_cons z_tuple boot_tuple qty_nil))))
    (qss_cons (qs_if (qt_ne hr (q_isi z_isinstance z_list boot_list (q_var 0)) (q_isi z_isinstance z_list boot_list (q_var 1)))
    (qss_one (qs_ret q_bl))
    qss_nil)
    (qss_cons (qs_if (qt_ne hr (q_isi z_isinstance z_tuple boot_tuple (q_var 0)) (q_isi z_isinstance z_tuple boot_tuple (q_var 1)))
    (qss_one (qs_ret q_bl))
    qss_nil)
    (qss_one (qs_ret (q_and (q_eq hr (q_len z_len (qa_cons (q_var 0) qa_nil)) (q_len z_len (qa_cons (q_var 1) qa_nil))) (q_one (q_all rfl z_all (qa_cons (q_frz (qn_lc (g := (gName 2)) (tt := tYes) (te := (tCall (spP K 2 (m_L_alike n)) [] E0 (tCons (tOp (rIx K) (tVar 0) (tVar 2)) (tCons (tOp (rIx K) (tVar 1) (tVar 2)) tNil)))) (gm := (gNameM 2)) (cm := bYes) (em := (eCallP 2 (m_L_alike n) (aCons (eOp fIx (eVar 0) (eVar 2)) (aCons (eOp fIx (eVar 1) (eVar 2)) aNil)))) (ws := [2]) [(("_law_k" : Str), 2)] rfl sc_L_alike.nd (qi_r1 z_range (qa_cons (q_len z_len (qa_cons (q_var 1) qa_nil)) qa_nil)) rfl rfl (by kernel_rfl) (fun _ _ _ _ _ => (qg_name 2 sc_L_alike.nd)) (fun _ _ _ _ _ => qts_nil) (fun _ _ _ _ _ => (q_calP k_L_alike hr (by omega) (qa_cons (q_ix (q_var 0) (q_var 2)) (qa_cons (q_ix (q_var 1) (q_var 2)) qa_nil)))) (by decide))) qa_nil))))))))
    qss_nil)
    (qss_one (qs_ret (q_and (q_eq hr (q_isi z_isinstance z_bool boot_bool (q_var 0)) (q_isi z_isinstance z_bool boot_bool (q_var 1))) (q_one (q_eq hr (q_var 0) (q_var 1))))))))⟩)
abbrev s_L_common : Stmt := topS 32
theorem sc_L_common : FnScope [("_law_a" : Str), ("_law_b" : Str)] [("_law_a" : Str), ("_law_b" : Str)] (defScope s_L_common) := ⟨rfl, rfl, rfl, by decide +kernel, rfl, by decide +kernel, by decide +kernel⟩
theorem k_L_common {P : Program} {w : World} {K : PySem.W.Frag} {mg : Str → Option Value} {base : Heap} (hNT : base.NoSeer ∧ P.given.tree = none) (z_abs : mg "abs" = none) (D : DefIn K mg "_law_common" s_L_common [("_law_a" : Str), ("_law_b" : Str)]) : Cal P w K mg base 33 "_law_common" [("_law_a" : Str), ("_law_b" : Str)] (spP K 2 m_L_common) := by
  unfold m_L_common
  exact calP D sc_L_common (by decide) (fun f cdv A outer s H E hr => ⟨_, ((qss_cons (qs_while PassesOwn.never (qt_ne hr (q_var 1) q_int)
    (qss_one (qs_par 0 1 rfl sc_L_common.nd (qa_cons (q_var 1) (qa_cons (q_mod (q_var 0) (q_var 1)) qa_nil)))))
    (qss_one (qs_ret (q_abs z_abs (qa_cons (q_var 0) qa_nil))))))⟩)
abbrev s_L_fraction : Stmt := topS 33
theorem sc_L_fraction : FnScope [("_law_top" : Str), ("_law_bottom" : Str), ("_law_part" : Str)] [("_law_top" : Str), ("_law_bottom" : Str)] (defScope s_L_fraction) := ⟨rfl, rfl, rfl, by decide +kernel, rfl, by decide +kernel, by decide +kernel⟩
theorem k_L_fraction {P : Program} {w : World} {K : PySem.W.Frag} {mg : Str → Option Value} {base : Heap} (hNT : base.NoSeer ∧ P.given.tree = none) (k_L_common : Cal P w K mg base 33 "_law_common" [("_law_a" : Str), ("_law_b" : Str)] (spP K 2 m_L_common)) (D : DefIn K mg "_law_fraction" s_L_fraction [("_law_top" : Str), ("_law_bottom" : Str)]) : Cal P w K mg base 34 "_law_fraction" [("_law_top" : Str), ("_law_bottom" : Str)] (spP K 2 m_L_fraction) := by
  unfold m_L_fraction
  exact calP D sc_L_fraction (by decide) (fun f cdv A outer s H E hr => ⟨_, ((qss_cons (qs_set 2 sc_L_fraction.nd (q_calP k_L_common hr (by decide) (qa_cons (q_var 0) (qa_cons (q_var 1) qa_nil))))
    (qss_cons (qs_if (qt_lt (q_var 1) q_int)
    (qss_one (qs_set 2 sc_L_fraction.nd (q_sub q_int (q_var 2))))
    qss_nil)
    (qss_one (qs_ret (q_tup (qa_cons (q_div (seX hNT hr (by decide) ⟨_, _, rfl, rfl, rfl, rfl, rfl⟩) (q_var 0) (q_var 2)) (qa_cons (q_div (seX hNT hr (by decide) ⟨_, _, rfl, rfl, rfl, rfl, rfl⟩) (q_var 1) (q_var 2)) qa_nil))))))))⟩)
abbrev s_L_poly : Stmt := topS 34
theorem sc_L_poly : FnScope [("_law_tops" : Str), ("_law_bottom" : Str), ("_law_part" : Str), ("_law_top" : Str)] [("_law_tops" : Str), ("_law_bottom" : Str)] (defScope s_L_poly) := ⟨rfl, rfl, rfl, by decide +kernel, rfl, by decide +kernel, by decide +kernel⟩
theorem k_L_poly {P : Program} {w : World} {K : PySem.W.Frag} {mg : Str → Option Value} {base : Heap} (hNT : base.NoSeer ∧ P.given.tree = none) (z_len : mg "len" = none) (z_list : mg "list" = none) (z_tuple : mg "tuple" = none) (k_L_common : Cal P w K mg base 33 "_law_common" [("_law_a" : Str), ("_law_b" : Str)] (spP K 2 m_L_common)) (D : DefIn K mg "_law_poly" s_L_poly [("_law_tops" : Str), ("_law_bottom" : Str)]) : Cal P w K mg base 34 "_law_poly" [("_law_tops" : Str), ("_law_bottom" : Str)] (spP K 2 m_L_poly) := by
  unfold m_L_poly
  exact calP D sc_L_poly (by decide) (fun f cdv A outer s H E hr => ⟨_, ((qss_cons (qs_set 0 sc_L_poly.nd (q_own (qn_list z_list (qa_cons (q_var 0) qa_nil))))
    (qss_cons (qs_while PassesOwn.never (qt_w (qw_and (qt_gt (q_len z_len (qa_cons (q_var 0) qa_nil)) q_int) (qw_and1 (qt_eq hr (q_ix (q_var 0) (q_neg 1)) q_int))))
    (qss_one (qs_expr (q_pop (q_var 0)))))
    (qss_cons (qs_set 2 sc_L_poly.nd (q_var 1))
    (qss_cons (qs_for PassesOwn.never rfl (qi_any (q_var 0)) (qg_name 3 sc_L_poly.nd)
    (qss_one (qs_set 2 sc_L_poly.nd (q_calP k_L_common hr (by decide) (qa_cons (q_var 2) (qa_cons (q_var 3) qa_nil))))))
    (qss_one (qs_ret (q_tup (qa_cons (q_tuple z_tuple (qa_cons (q_frz (qn_lc (g := (gName 3)) (tt := tYes) (te := (tOp rDivI (tVar 3) (tVar 2))) (gm := (gNameM 3)) (cm := bYes) (em := (eOp fDiv (eVar 3) (eVar 2))) (ws := [3]) [(("_law_top" : Str), 3)] rfl sc_L_poly.nd (qi_any (q_var 0)) rfl rfl (by kernel_rfl) (fun _ _ _ _ _ => (qg_name 3 sc_L_poly.nd)) (fun _ _ _ _ _ => qts_nil) (fun _ _ _ _ _ => (q_div (seX hNT hr (by decide) ⟨_, _, rfl, rfl, rfl, rfl, rfl⟩) (q_var 3) (q_var 2))) (by decide))) qa_nil)) (qa_cons (q_div (seX hNT hr (by decide) ⟨_, _, rfl, rfl, rfl, rfl, rfl⟩) (q_var 1) (q_var 2)) qa_nil))))))))))⟩)
abbrev s_L_sum : Stmt := topS 35
theorem sc_L_sum : FnScope [("_law_p" : Str), ("_law_q" : Str), ("_law_many" : Str), ("_law_found" : Str), ("_law_k" : Str), ("_law_top" : Str)] [("_law_p" : Str), ("_law_q" : Str)] (defScope s_L_sum) := ⟨rfl, rfl, rfl, by decide +kernel, rfl, by decide +kernel, by decide +kernel⟩
theorem k_L_sum {P : Program} {w : World} {K : PySem.W.Frag} {mg : Str → Option Value} {base : Heap} (hNT : base.NoSeer ∧ P.given.tree = none) (z_enumerate : mg "enumerate" = none) (z_len : mg "len" = none) (z_max : mg "max" = none) (k_L_poly : Cal P w K mg base 34 "_law_poly" [("_law_tops" : Str), ("_law_bottom" : Str)] (spP K 2 m_L_poly)) (D : DefIn K mg "_law_sum" s_L_sum [("_law_p" : Str), ("_law_q" : Str)]) : Cal P w K mg base 35 "_law_sum" [("_law_p" : Str), ("_law_q" : Str)] (spP K 2 m_L_sum) := by
  unfold m_L_sum
  exact calP D sc_L_sum (by decide) (fun f cdv A outer s H E hr => ⟨_, ((qss_cons (qs_set 2 sc_L_sum.nd (q_max2 rfl z_max (qa_cons (q_len z_len (qa_cons (q_ix (q_var 0) q_int) qa_nil)) (qa_cons (q_len z_len (qa_cons (q_ix (q_var 1) q_int) qa_nil)) qa_nil))))
    (qss_cons (qs_set 3 sc_L_sum.nd (q_own (qn_rep (q_frz (qn_disp (qa_cons q_int qa_nil))) (q_var 2))))
    (qss_cons (qs_for PassesOwn.never rfl (qi_enum z_enumerate (qa_cons (q_ix (q_var 0) q_int) qa_nil)) (qg_tup rfl (qgs_cons (qg_name 4 sc_L_sum.nd) (gName_noEx 4) (qgs_cons (qg_name 5 sc_L_sum.nd) (gName_noEx 5) qgs_nil)))
    (qss_one (qs_asg (q_addA (q_ix (q_var 3) (q_var 4)) (q_mulA (q_var 5) (q_ix (q_var 1) q_int))) (qg_sub (q_var 3) (q_var 4)))))
    (qss_cons (qs_for PassesOwn.never rfl (qi_enum z_enumerate (qa_cons (q_ix (q_var 1) q_int) qa_nil)) (qg_tup rfl (qgs_cons (qg_name 4 sc_L_sum.nd) (gName_noEx 4) (qgs_cons (qg_name 5 sc_L_sum.nd) (gName_noEx 5) qgs_nil)))
    (qss_one (qs_asg (q_addA (q_ix (q_var 3) (q_var 4)) (q_mulA (q_var 5) (q_ix (q_var 0) q_int))) (qg_sub (q_var 3) (q_var 4)))))
    (qss_one (qs_ret (q_calP k_L_poly hr (by decide) (qa_cons (q_var 3) (qa_cons (q_mulA (q_ix (q_var 0) q_int) (q_ix (q_var 1) q_int)) qa_nil))))))))))⟩)
abbrev s_L_number : Stmt := topS 36
theorem sc_L_number : FnScope [("_law_flow_here" : Str), ("_law_most" : Str)] [("_law_flow_here" : Str), ("_law_most" : Str)] (defScope s_L_number) := ⟨rfl, rfl, rfl, by decide +kernel, rfl, by decide +kernel, by decide +kernel⟩
theorem k_L_number {P : Program} {w : World} {K : PySem.W.Frag} {mg : Str → Option Value} {base : Heap} (hNT : base.NoSeer ∧ P.given.tree = none) (k_L_pick : Cal P w K mg base 33 "_law_pick" [("_law_flow_here" : Str), ("_law_many" : Str)] (spF K 2 m_L_pick)) (D : DefIn K mg "_law_number" s_L_number [("_law_flow_here" : Str), ("_law_most" : Str)]) : Cal P w K mg base 34 "_law_number" [("_law_flow_here" : Str), ("_law_most" : Str)] (spF K 2 m_L_number) := by
  unfold m_L_number
  exact calF D sc_L_number (by decide) (fun f cdv A outer s H E hr => ⟨_, ((qss_one (qs_ret (q_sub (q_calF k_L_pick hr (by decide) (qa_cons (q_var 0) (qa_cons (q_addA (q_mulA q_int (q_var 1)) q_int) qa_nil))) (q_var 1)))))⟩)
abbrev s_L_any_poly : Stmt := topS 37
theorem sc_L_any_poly : FnScope [("_law_flow_here" : Str), ("_law_many" : Str), ("_law_most" : Str), ("_law_tops" : Str), ("_law_first" : Str), ("_law_k" : Str)] [("_law_flow_here" : Str), ("_law_many" : Str), ("_law_most" : Str)] (defScope s_L_any_poly) := ⟨rfl, rfl, rfl, by decide +kernel, rfl, by decide +kernel, by decide +kernel⟩
theorem k_L_any_poly {P : Program} {w : World} {K : PySem.W.Frag} {mg : Str → Option Value} {base : Heap} (hNT : base.NoSeer ∧ P.given.tree = none) (z_int : mg "int" = none) (z_range : mg "range" = none) (k_L_poly : Cal P w K mg base 34 "_law_poly" [("_law_tops" : Str), ("_law_bottom" : Str)] (spP K 2 m_L_poly)) (k_L_pick : Cal P w K mg base 33 "_law_pick" [("_law_flow_here" : Str), ("_law_many" : Str)] (spF K 2 m_L_pick)) (k_L_number : Cal P w K mg base 34 "_law_number" [("_law_flow_here" : Str), ("_law_most" : Str)] (spF K 2 m_L_number)) (D : DefIn K mg "_law_any_poly" s_L_any_poly [("_law_flow_here" : Str), ("_law_many" : Str), ("_law_most" : Str)]) : Cal P w K mg base 35 "_law_any_poly" [("_law_flow_here" : Str), ("_law_many" : Str), ("_law_most" : Str)] (spF K 3 m_L_any_poly) := by
  unfold m_L_any_poly
  exact calF D sc_L_any_poly (by decide) (fun f cdv A outer s H E hr => ⟨_, ((qss_cons (qs_setLc (g := (gName 5)) (tt := tYes) (te := (tOp (rMulA K) (tCall (spF K 2 m_L_number) [] E0 (tCons (tVar 0) (tCons (tVar 2) tNil))) (tCB rIntA (tCons (tOp rGtI (tCall (spF K 2 m_L_pick) [] E0 (tCons (tVar 0) (tCons (tC (.int 4)) tNil))) (tC (.int 0))) tNil)))) (gm := (gNameM 5)) (cm := bYes) (em := (eOp fMulA (eCallF 2 m_L_number (aCons (eVar 0) (aCons (eVar 2) aNil))) (eCB cInt (aCons (eOp fGt (eCallF 2 m_L_pick (aCons (eVar 0) (aCons (eC (.int 4)) aNil))) (eC (.int 0))) aNil)))) (ws := [5]) 3 [(("_law_k" : Str), 5)] true rfl sc_L_any_poly.nd (sw_true rfl rfl rfl (by decide +kernel)) (qi_r1 z_range (qa_cons (q_var 1) qa_nil)) rfl rfl (by kernel_rfl) (fun _ _ _ _ _ => (qg_name 5 sc_L_any_poly.nd)) (fun _ _ _ _ _ => qts_nil) (fun _ _ _ _ _ => (q_mulA (q_calF k_L_number hr (by decide) (qa_cons (q_var 0) (qa_cons (q_var 2) qa_nil))) (q_intc z_int (qa_cons (q_gt (q_calF k_L_pick hr (by decide) (qa_cons (q_var 0) (qa_cons q_int qa_nil))) q_int) qa_nil)))) (by decide))
    (qss_cons (qs_set 4 sc_L_any_poly.nd (q_ix (q_frz (qn_disp (qa_cons q_int (qa_cons (q_sub q_int q_int) (qa_cons (q_addA q_int (q_calF k_L_pick hr (by decide) (qa_cons (q_var 0) (qa_cons (q_var 2) qa_nil)))) (qa_cons (q_sub (q_sub q_int q_int) (q_calF k_L_pick hr (by decide) (qa_cons (q_var 0) (qa_cons (q_var 2) qa_nil)))) qa_nil)))))) (q_calF k_L_pick hr (by decide) (qa_cons (q_var 0) (qa_cons q_int qa_nil)))))
    (qss_one (qs_ret (q_calP k_L_poly hr (by decide) (qa_cons (q_addA (q_var 3) (q_frz (qn_disp (qa_cons (q_var 4) qa_nil)))) (qa_cons (q_addA q_int (q_calF k_L_pick hr (by decide) (qa_cons (q_var 0) (qa_cons (q_ix (q_frz (qn_disp (qa_cons q_int (qa_cons q_int (qa_cons q_int (qa_cons q_int qa_nil)))))) (q_calF k_L_pick hr (by decide) (qa_cons (q_var 0) (qa_cons q_int qa_nil)))) qa_nil)))) qa_nil))))))))⟩)
abbrev s_L_fraction_text : Stmt := topS 38
theorem sc_L_fraction_text : FnScope [("_law_r" : Str)] [("_law_r" : Str)] (defScope s_L_fraction_text) := ⟨rfl, rfl, rfl, by decide +kernel, rfl, by decide +kernel, by decide +kernel⟩
theorem k_L_fraction_text {P : Program} {w : World} {K : PySem.W.Frag} {mg : Str → Option Value} {base : Heap} (hNT : base.NoSeer ∧ P.given.tree = none) (z_int : mg "int" = none) (z_str : mg "str" = none) (D : DefIn K mg "_law_fraction_text" s_L_fraction_text [("_law_r" : Str)]) : Cal P w K mg base 33 "_law_fraction_text" [("_law_r" : Str)] (spP K 1 m_L_fraction_text) := by
  unfold m_L_fraction_text
  exact calP D sc_L_fraction_text (by decide) (fun f cdv A outer s H E hr => ⟨_, ((qss_one (qs_ret (q_addA (q_strI z_str (qa_cons (q_ix (q_var 0) q_int) qa_nil)) (q_ix (q_frz (qn_disp (qa_cons (q_addA q_str (q_strI z_str (qa_cons (q_ix (q_var 0) q_int) qa_nil))) (qa_cons q_str qa_nil)))) (q_intc z_int (qa_cons (q_eq hr (q_ix (q_var 0) q_int) q_int) qa_nil)))))))⟩)
abbrev s_L_figures : Stmt := topS 39
theorem sc_L_figures : FnScope [("_law_text" : Str), ("_law_sign_here" : Str)] [("_law_text" : Str)] (defScope s_L_figures) := ⟨rfl, rfl, rfl, by decide +kernel, rfl, by decide +kernel, by decide +kernel⟩
theorem k_L_figures {P : Program} {w : World} {K : PySem.W.Frag} {mg : Str → Option Value} {base : Heap} (hNT : base.NoSeer ∧ P.given.tree = none) (z_len : mg "len" = none) (D : DefIn K mg "_law_figures" s_L_figures [("_law_text" : Str)]) : Cal P w K mg base 33 "_law_figures" [("_law_text" : Str)] (spP K 1 m_L_figures) := by
  unfold m_L_figures
  exact calP D sc_L_figures (by decide) (fun f cdv A outer s H E hr => ⟨_, ((qss_cons (qs_if (qt_w (qw_or (qt_eq hr (q_len z_len (qa_cons (q_var 0) qa_nil)) q_int) (qw_or (qt_gt (q_len z_len (qa_cons (q_var 0) qa_nil)) q_int) (qw_or1 (qt_ne hr (q_frz (qn_lc (g := (gName 1)) (tt := (tTest (tOp rNotInS (tVar 1) (tC (.str ("0123456789" : Str)))))) (te := (tVar 1)) (gm := (gNameM 1)) (cm := (bTest (eOp (fInS true) (eVar 1) (eC (.str ("0123456789" : Str)))))) (em := (eVar 1)) (ws := [1]) [(("_law_sign_here" : Str), 1)] rfl sc_L_figures.nd (qi_str (q_var 0)) rfl rfl (by kernel_rfl) (fun _ _ _ _ _ => (qg_name 1 sc_L_figures.nd)) (fun _ _ _ _ _ => (qts_one (qt_notInS (q_var 1) q_str))) (fun _ _ _ _ _ => (q_var 1)) (by decide))) (q_frz (qn_disp qa_nil)))))))
    (qss_one (qs_ret q_bl))
    qss_nil)
    (qss_one (qs_ret (q_or (q_eq hr (q_var 0) q_str) (q_one (q_ne hr (q_ix (q_var 0) q_int) q_str)))))))⟩)
abbrev s_L_read_fraction : Stmt := topS 40
theorem sc_L_read_fraction : FnScope [("_law_text" : Str), ("_law_sign_here" : Str), ("_law_pieces" : Str), ("_law_top" : Str), ("_law_bottom" : Str), ("_law_one" : Str)] [("_law_text" : Str)] (defScope s_L_read_fraction) := ⟨rfl, rfl, rfl, by decide +kernel, rfl, by decide +kernel, by decide +kernel⟩
theorem k_L_read_fraction {P : Program} {w : World} {K : PySem.W.Frag} {mg : Str → Option Value} {base : Heap} (hNT : base.NoSeer ∧ P.given.tree = none) (z_all : mg "all" = none) (z_int : mg "int" = none) (z_len : mg "len" = none) (k_L_common : Cal P w K mg base 33 "_law_common" [("_law_a" : Str), ("_law_b" : Str)] (spP K 2 m_L_common)) (k_L_figures : Cal P w K mg base 33 "_law_figures" [("_law_text" : Str)] (spP K 1 m_L_figures)) (D : DefIn K mg "_law_read_fraction" s_L_read_fraction [("_law_text" : Str)]) : Cal P w K mg base 34 "_law_read_fraction" [("_law_text" : Str)] (spP K 1 m_L_read_fraction) := by
  unfold m_L_read_fraction
  exact calP D sc_L_read_fraction (by decide) (fun f cdv A outer s H E hr => ⟨_, ((qss_cons (qs_set 1 sc_L_read_fraction.nd (q_sub q_int (q_mulA q_int (q_intc z_int (qa_cons (q_eq hr (q_slA (q_var 0) qo_none (qo_some q_int)) q_str) qa_nil)))))
    (qss_cons (qs_set 2 sc_L_read_fraction.nd (q_split (q_slA (q_var 0) (qo_some (q_intc z_int (qa_cons (q_lt (q_var 1) q_int) qa_nil))) qo_none) q_str))
    (qss_cons (qs_if (qt_w (qw_or (qt_gt (q_len z_len (qa_cons (q_var 2) qa_nil)) q_int) (qw_or (qt_not (qt_tru (q_all rfl z_all (qa_cons (q_frz (qn_lc (g := (gName 5)) (tt := tYes) (te := (tCall (spP K 1 m_L_figures) [] E0 (tCons (tVar 5) tNil))) (gm := (gNameM 5)) (cm := bYes) (em := (eCallP 1 m_L_figures (aCons (eVar 5) aNil))) (ws := [5]) [(("_law_one" : Str), 5)] rfl sc_L_read_fraction.nd (qi_any (q_var 2)) rfl rfl (by kernel_rfl) (fun _ _ _ _ _ => (qg_name 5 sc_L_read_fraction.nd)) (fun _ _ _ _ _ => qts_nil) (fun _ _ _ _ _ => (q_calP k_L_figures hr (by decide) (qa_cons (q_var 5) qa_nil))) (by decide))) qa_nil)))) (qw_or1 (qt_w (qw_and (qt_eq hr (q_ix (q_var 2) q_int) q_str) (qw_and1 (qt_ne hr (q_var 0) q_str))))))))
    (qss_one (qs_ret q_non))
    qss_nil)
    (qss_cons (qs_if (qt_eq hr (q_len z_len (qa_cons (q_var 2) qa_nil)) q_int)
    (qss_one (qs_ret (q_tup (qa_cons (q_mulA (q_var 1) (q_intS z_int (qa_cons (q_ix (q_var 2) q_int) qa_nil))) (qa_cons q_int qa_nil)))))
    qss_nil)
    (qss_cons (qs_par 3 4 rfl sc_L_read_fraction.nd (qa_cons (q_intS z_int (qa_cons (q_ix (q_var 2) q_int) qa_nil)) (qa_cons (q_intS z_int (qa_cons (q_ix (q_var 2) q_int) qa_nil)) qa_nil)))
    (qss_cons (qs_if (qt_w (qw_or (qt_lt (q_var 4) q_int) (qw_or1 (qt_ne hr (q_calP k_L_common hr (by decide) (qa_cons (q_var 3) (qa_cons (q_var 4) qa_nil))) q_int))))
    (qss_one (qs_ret q_non))
    qss_nil)
    (qss_one (qs_ret (q_tup (qa_cons (q_mulA (q_var 1) (q_var 3)) (qa_cons (q_var 4) qa_nil))))))))))))⟩)
abbrev s_L_letter : Stmt := topS 41
theorem sc_L_letter : FnScope [("_law_k" : Str)] [("_law_k" : Str)] (defScope s_L_letter) := ⟨rfl, rfl, rfl, by decide +kernel, rfl, by decide +kernel, by decide +kernel⟩
theorem k_L_letter {P : Program} {w : World} {K : PySem.W.Frag} {mg : Str → Option Value} {base : Heap} (hNT : base.NoSeer ∧ P.given.tree = none) (z_int : mg "int" = none) (z_str : mg "str" = none) (D : DefIn K mg "_law_letter" s_L_letter [("_law_k" : Str)]) : Cal P w K mg base 33 "_law_letter" [("_law_k" : Str)] (spP K 1 m_L_letter) := by
  unfold m_L_letter
  exact calP D sc_L_letter (by decide) (fun f cdv A outer s H E hr => ⟨_, ((qss_one (qs_ret (q_addA q_str (q_ix (q_frz (qn_disp (qa_cons (q_addA q_str (q_strI z_str (qa_cons (q_var 0) qa_nil))) (qa_cons q_str qa_nil)))) (q_intc z_int (qa_cons (q_eq hr (q_var 0) q_int) qa_nil)))))))⟩)
abbrev s_L_poly_text : Stmt := topS 42
theorem sc_L_poly_text : FnScope [("_law_p" : Str), ("_law_found" : Str), ("_law_k" : Str), ("_law_top" : Str), ("_law_bottom" : Str), ("_law_word" : Str)] [("_law_p" : Str)] (defScope s_L_poly_text) := ⟨rfl, rfl, rfl, by decide +kernel, rfl, by decide +kernel, by decide +kernel⟩
theorem k_L_poly_text {P : Program} {w : World} {K : PySem.W.Frag} {mg : Str → Option Value} {base : Heap} (hNT : base.NoSeer ∧ P.given.tree = none) (z_abs : mg "abs" = none) (z_int : mg "int" = none) (z_len : mg "len" = none) (z_range : mg "range" = none) (k_L_letter : Cal P w K mg base 33 "_law_letter" [("_law_k" : Str)] (spP K 1 m_L_letter)) (k_L_fraction_text : Cal P w K mg base 33 "_law_fraction_text" [("_law_r" : Str)] (spP K 1 m_L_fraction_text)) (k_L_fraction : Cal P w K mg base 34 "_law_fraction" [("_law_top" : Str), ("_law_bottom" : Str)] (spP K 2 m_L_fraction)) (D : DefIn K mg "_law_poly_text" s_L_poly_text [("_law_p" : Str)]) : Cal P w K mg base 35 "_law_poly_text" [("_law_p" : Str)] (spP K 1 m_L_poly_text) := by
  unfold m_L_poly_text
  exact calP D sc_L_poly_text (by decide) (fun f cdv A outer s H E hr => ⟨_, ((qss_cons (qs_set 1 sc_L_poly_text.nd q_str)
    (qss_cons (qs_for PassesOwn.never rfl (qi_r3 z_range (qa_cons (q_sub (q_len z_len (qa_cons (q_ix (q_var 0) q_int) qa_nil)) q_int) (qa_cons (q_sub q_int q_int) (qa_cons (q_sub q_int q_int) qa_nil)))) (qg_name 2 sc_L_poly_text.nd)
    (qss_cons (qs_asg (q_calP k_L_fraction hr (by decide) (qa_cons (q_ix (q_ix (q_var 0) q_int) (q_var 2)) (qa_cons (q_ix (q_var 0) q_int) qa_nil))) (qg_tup rfl (qgs_cons (qg_name 3 sc_L_poly_text.nd) (gName_noEx 3) (qgs_cons (qg_name 4 sc_L_poly_text.nd) (gName_noEx 4) qgs_nil))))
    (qss_cons (qs_set 5 sc_L_poly_text.nd (q_calP k_L_fraction_text hr (by decide) (qa_cons (q_tup (qa_cons (q_abs z_abs (qa_cons (q_var 3) qa_nil)) (qa_cons (q_var 4) qa_nil))) qa_nil)))
    (qss_cons (qs_if (qt_w (qw_and (qt_gt (q_var 2) q_int) (qw_and1 (qt_eq hr (q_var 5) q_str))))
    (qss_one (qs_set 5 sc_L_poly_text.nd (q_calP k_L_letter hr (by decide) (qa_cons (q_var 2) qa_nil))))
    (qss_one (qs_if (qt_gt (q_var 2) q_int)
    (qss_one (qs_set 5 sc_L_poly_text.nd (q_addA (q_addA (q_var 5) q_str) (q_calP k_L_letter hr (by decide) (qa_cons (q_var 2) qa_nil)))))
    qss_nil)))
    (qss_one (qs_if (qt_w (qw_and (qt_ne hr (q_var 3) q_int) (qw_and1 (qt_eq hr (q_var 1) q_str))))
    (qss_one (qs_set 1 sc_L_poly_text.nd (q_addA (q_ix (q_frz (qn_disp (qa_cons q_str (qa_cons q_str qa_nil)))) (q_intc z_int (qa_cons (q_lt (q_var 3) q_int) qa_nil))) (q_var 5))))
    (qss_one (qs_if (qt_ne hr (q_var 3) q_int)
    (qss_one (qs_set 1 sc_L_poly_text.nd (q_addA (q_addA (q_var 1) (q_ix (q_frz (qn_disp (qa_cons q_str (qa_cons q_str qa_nil)))) (q_intc z_int (qa_cons (q_lt (q_var 3) q_int) qa_nil)))) (q_var 5))))
    qss_nil))))))))
    (qss_one (qs_ret (q_ix (q_frz (qn_disp (qa_cons (q_var 1) (qa_cons q_str qa_nil)))) (q_intc z_int (qa_cons (q_eq hr (q_var 1) q_str) qa_nil))))))))⟩)
abbrev s_L_sign : Stmt := topS 43
theorem sc_L_sign : FnScope [("_law_flow_here" : Str), ("_law_signs" : Str)] [("_law_flow_here" : Str)] (defScope s_L_sign) := ⟨rfl, rfl, rfl, by decide +kernel, rfl, by decide +kernel, by decide +kernel⟩
theorem k_L_sign {P : Program} {w : World} {K : PySem.W.Frag} {mg : Str → Option Value} {base : Heap} (hNT : base.NoSeer ∧ P.given.tree = none) (z_len : mg "len" = none) (k_L_pick : Cal P w K mg base 33 "_law_pick" [("_law_flow_here" : Str), ("_law_many" : Str)] (spF K 2 m_L_pick)) (D : DefIn K mg "_law_sign" s_L_sign [("_law_flow_here" : Str)]) : Cal P w K mg base 34 "_law_sign" [("_law_flow_here" : Str)] (spF K 1 m_L_sign) := by
  unfold m_L_sign
  exact calF D sc_L_sign (by decide) (fun f cdv A outer s H E hr => ⟨_, ((qss_cons (qs_set 1 sc_L_sign.nd q_str)
    (qss_cons (qs_set 1 sc_L_sign.nd (q_addA (q_addA (q_addA (q_var 1) q_str) q_str) q_str))
    (qss_one (qs_ret (q_ix (q_var 1) (q_calF k_L_pick hr (by decide) (qa_cons (q_var 0) (qa_cons (q_len z_len (qa_cons (q_var 1) qa_nil)) qa_nil)))))))))⟩)
abbrev s_L_asked : Stmt := topS 44
theorem sc_L_asked : FnScope [("_law_way_of" : Str), ("_law_text" : Str), ("_law_caught" : Str), ("e" : Str)] [("_law_way_of" : Str), ("_law_text" : Str)] (defScope s_L_asked) := ⟨rfl, rfl, rfl, by decide +kernel, rfl, by decide +kernel, by decide +kernel⟩
theorem k_L_asked {P : Program} {w : World} {K : PySem.W.Frag} {mg : Str → Option Value} {base : Heap} (hNT : base.NoSeer ∧ P.given.tree = none) (z_ValueError : mg "ValueError" = none) (z_isinstance : mg "isinstance" = none) (k_read_poly : CalX P w K mg base 37 "read_poly" [("text" : Str)] (spX K mg 1 m_read_poly)) (ask : AskK K mg) (D : DefIn K mg "_law_asked" s_L_asked ["_law_way_of", "_law_text"]) : Cal P w K mg base 38 "_law_asked" ["_law_way_of", "_law_text"] (spWay K mg "read_poly" m_asked_read_poly) := by
  obtain ⟨fR, fdR, FR, mR, kR, bR⟩ := k_read_poly.ex
  obtain ⟨B, N, NN, NR, TG, TW, hB, hN, hNN, hNR, hTG, hTW, C, T, hno, xN, kV, k1, k2, k3, k4⟩ := ask.ex
  obtain ⟨f, fd, F, hm, hb'⟩ := D.ex
  unfold m_asked_read_poly
  refine ⟨f, fd, F.ok sc_L_asked (fun vs H Q E h => ?_) (fun cdv A outer s H vs Q E hr h => ⟨tAsked K mg N B fR m_read_poly (.ref B) (.ty "ValueError") (tCons (tC (.ref NN)) (tCons (tC (.ref NR)) (tCons (tC (.ref TG)) (tCons (tC (.ref TW)) tNil)))), ?_, asked_read mR hB C xN kV k1 k2 k3 k4 h⟩), hm, F.kp, hb'⟩
  · obtain ⟨g, vs', _, rfl, O0, ds, d, fr, _, r, hl, _⟩ := h
    simp [r.len, hl]
  · exact pss_cons (ps_set (i := 2) sc_L_asked.nd rfl (.inl rfl) pe_non) (pss_try_keep (i := 3) (j := 2) (by rfl) (by rfl) sc_L_asked.nd (by rfl) (by rfl) (by rfl) (.inl (by rfl)) (.inl (by rfl)) (by decide) (c := .ref N) ⟨by rfl, by decide, .inl hN⟩ takes0 (fun a oe pn => ps_set (i := 2) sc_L_asked.nd rfl (.inl rfl) (pe_var (i := 3) rfl (.inl rfl)))
      (fun W pn xe tk po => pss_one (ps_ret (pe_callLS (i := 0) FR (hr.mono (by decide)) rfl (.inl rfl) kR bR (fun σ => passAt tk σ) (pa_cons (pe_var (i := 1) rfl (.inl rfl)) pa_nil)))) pss_no
      (fun a oe cls d pn hz hf => pss_cons (ps_if (pw_or (pt_not (pt_truth (pe_callB (call_isKK hz hf) (by rfl) z_isinstance boot_isinstance (pa_cons (pe_var (by rfl) (.inl (by rfl))) (pa_cons (pe_glob (v := .ref B) (by rfl) hB rfl) pa_nil))) (fun _ => rfl))) (pw_or1 (pt_not (pt_truth (pe_callB (call_isKK hz hf) (by rfl) z_isinstance boot_isinstance (pa_cons (pe_var (by rfl) (.inl (by rfl))) (pa_cons (pe_bltn (v := .ty "ValueError") (by rfl) z_ValueError (by decide +kernel) rfl) pa_nil))) (fun _ => rfl))))).pt (pss_one (ps_ret (pe_tup (pa_cons pe_str pa_nil)))) pss_nil)
        (pss_cons (ps_if (pt_truth (pe_callB (call_isKKT hz hf) (by rfl) z_isinstance boot_isinstance (pa_cons (pe_var (by rfl) (.inl (by rfl))) (pa_cons (pe_tup (pa_cons (pe_glob (v := .ref NN) (by rfl) hNN rfl) (pa_cons (pe_glob (v := .ref NR) (by rfl) hNR rfl) (pa_cons (pe_glob (v := .ref TG) (by rfl) hTG rfl) (pa_cons (pe_glob (v := .ref TW) (by rfl) hTW rfl) pa_nil))))) pa_nil))) (fun _ => rfl)) (pss_one (ps_ret (pe_tup (pa_cons pe_str pa_nil)))) pss_nil)
          (pss_one (ps_ret (pe_tup (pa_cons pe_str (pa_cons (pe_xfK T hno hz hf (pe_var (by rfl) (.inl (by rfl)))) pa_nil))))))))
abbrev s_L_read_word : Stmt := topS 45
theorem sc_L_read_word : FnScope [("_law_pieces" : Str), ("_law_last" : Str), ("_law_k" : Str), ("_law_r" : Str)] [("_law_pieces" : Str)] (defScope s_L_read_word) := ⟨rfl, rfl, rfl, by decide +kernel, rfl, by decide +kernel, by decide +kernel⟩
theorem k_L_read_word {P : Program} {w : World} {K : PySem.W.Frag} {mg : Str → Option Value} {base : Heap} (hNT : base.NoSeer ∧ P.given.tree = none) (z_int : mg "int" = none) (z_len : mg "len" = none) (k_L_read_fraction : Cal P w K mg base 34 "_law_read_fraction" [("_law_text" : Str)] (spP K 1 m_L_read_fraction)) (k_L_figures : Cal P w K mg base 33 "_law_figures" [("_law_text" : Str)] (spP K 1 m_L_figures)) (D : DefIn K mg "_law_read_word" s_L_read_word [("_law_pieces" : Str)]) : Cal P w K mg base 35 "_law_read_word" [("_law_pieces" : Str)] (spP K 1 m_L_read_word) := by
  unfold m_L_read_word
  exact calP D sc_L_read_word (by decide) (fun f cdv A outer s H E hr => ⟨_, ((qss_cons (qs_set 1 sc_L_read_word.nd (q_ix (q_var 0) (q_neg 1)))
    (qss_cons (qs_set 2 sc_L_read_word.nd q_int)
    (qss_cons (qs_if (qt_eq hr (q_var 1) q_str)
    (qss_one (qs_set 2 sc_L_read_word.nd q_int))
    (qss_one (qs_if (qt_w (qw_and (qt_eq hr (q_slA (q_var 1) qo_none (qo_some q_int)) q_str) (qw_and (qt_tru (q_calP k_L_figures hr (by decide) (qa_cons (q_slA (q_var 1) (qo_some q_int) qo_none) qa_nil))) (qw_and1 (qt_chain cr_le cr_le q_int (q_intS z_int (qa_cons (q_slA (q_var 1) (qo_some q_int) qo_none) qa_nil)) q_int)))))
    (qss_one (qs_set 2 sc_L_read_word.nd (q_intS z_int (qa_cons (q_slA (q_var 1) (qo_some q_int) qo_none) qa_nil))))
    qss_nil)))
    (qss_cons (qs_if (qt_w (qw_or (qt_gt (q_len z_len (qa_cons (q_var 0) qa_nil)) q_int) (qw_or1 (qt_w (qw_and (qt_eq hr (q_len z_len (qa_cons (q_var 0) qa_nil)) q_int) (qw_and1 (qt_eq hr (q_var 2) q_int)))))))
    (qss_one (qs_ret q_non))
    qss_nil)
    (qss_cons (qs_if (qt_w (qw_and (qt_eq hr (q_len z_len (qa_cons (q_var 0) qa_nil)) q_int) (qw_and1 (qt_gt (q_var 2) q_int))))
    (qss_one (qs_ret (q_tup (qa_cons (q_tup (qa_cons q_int (qa_cons q_int qa_nil))) (qa_cons (q_var 2) qa_nil)))))
    qss_nil)
    (qss_cons (qs_set 3 sc_L_read_word.nd (q_calP k_L_read_fraction hr (by decide) (qa_cons (q_ix (q_var 0) q_int) qa_nil)))
    (qss_cons (qs_if (qt_w (qw_or (qt_isN (q_var 3) q_non) (qw_or (qt_lt (q_ix (q_var 3) q_int) q_int) (qw_or1 (qt_w (qw_and (qt_gt (q_var 2) q_int) (qw_and1 (qt_eq hr (q_var 3) (q_tup (qa_cons q_int (qa_cons q_int qa_nil)))))))))))
    (qss_one (qs_ret q_non))
    qss_nil)
    (qss_one (qs_ret (q_tup (qa_cons (q_var 3) (qa_cons (q_var 2) qa_nil)))))))))))))⟩)
abbrev s_L_read : Stmt := topS 46
theorem sc_L_read : FnScope [("_law_text" : Str), ("_law_sign_here" : Str), ("_law_rest" : Str), ("_law_found" : Str), ("_law_height" : Str), ("_law_many" : Str), ("_law_k" : Str), ("_law_word" : Str), ("_law_top" : Str), ("_law_bottom" : Str)] [("_law_text" : Str)] (defScope s_L_read) := ⟨rfl, rfl, rfl, by decide +kernel, rfl, by decide +kernel, by decide +kernel⟩
theorem k_L_read {P : Program} {w : World} {K : PySem.W.Frag} {mg : Str → Option Value} {base : Heap} (hNT : base.NoSeer ∧ P.given.tree = none) (z_int : mg "int" = none) (z_len : mg "len" = none) (z_max : mg "max" = none) (z_min : mg "min" = none) (z_range : mg "range" = none) (k_L_sum : Cal P w K mg base 35 "_law_sum" [("_law_p" : Str), ("_law_q" : Str)] (spP K 2 m_L_sum)) (k_L_poly : Cal P w K mg base 34 "_law_poly" [("_law_tops" : Str), ("_law_bottom" : Str)] (spP K 2 m_L_poly)) (k_L_read_word : Cal P w K mg base 35 "_law_read_word" [("_law_pieces" : Str)] (spP K 1 m_L_read_word)) (D : DefIn K mg "_law_read" s_L_read [("_law_text" : Str)]) : Cal P w K mg base 36 "_law_read" [("_law_text" : Str)] (spP K 1 m_L_read) := by
  unfold m_L_read
  exact calP D sc_L_read (by decide) (fun f cdv A outer s H E hr => ⟨_, ((qss_cons (qs_if (qt_eq hr (q_var 0) q_str)
    (qss_one (qs_ret (q_tup (qa_cons (q_tup qa_nil) (qa_cons q_int qa_nil)))))
    qss_nil)
    (qss_cons (qs_set 1 sc_L_read.nd (q_sub q_int (q_mulA q_int (q_intc z_int (qa_cons (q_eq hr (q_slA (q_var 0) qo_none (qo_some q_int)) q_str) qa_nil)))))
    (qss_cons (qs_set 2 sc_L_read.nd (q_split (q_slA (q_var 0) (qo_some (q_intc z_int (qa_cons (q_lt (q_var 1) q_int) qa_nil))) qo_none) q_str))
    (qss_cons (qs_set 3 sc_L_read.nd (q_tup (qa_cons (q_tup qa_nil) (qa_cons q_int qa_nil))))
    (qss_cons (qs_set 4 sc_L_read.nd q_int)
    (qss_cons (qs_while PassesOwn.never (qt_gt (q_len z_len (qa_cons (q_var 2) qa_nil)) q_int)
    (qss_cons (qs_set 5 sc_L_read.nd (q_len z_len (qa_cons (q_var 2) qa_nil)))
    (qss_cons (qs_for PassesOwn.never rfl (qi_r1 z_range (qa_cons (q_len z_len (qa_cons (q_var 2) qa_nil)) qa_nil)) (qg_name 6 sc_L_read.nd)
    (qss_one (qs_if (qt_in (q_ix (q_var 2) (q_var 6)) (q_tup (qa_cons q_str (qa_cons q_str qa_nil))))
    (qss_one (qs_set 5 sc_L_read.nd (q_min2 rfl z_min (qa_cons (q_var 5) (qa_cons (q_var 6) qa_nil)))))
    qss_nil)))
    (qss_cons (qs_set 7 sc_L_read.nd (q_calP k_L_read_word hr (by decide) (qa_cons (q_slA (q_var 2) qo_none (qo_some (q_max2 rfl z_max (qa_cons q_int (qa_cons (q_var 5) qa_nil))))) qa_nil)))
    (qss_cons (qs_if (qt_w (qw_or (qt_isN (q_var 7) q_non) (qw_or1 (qt_ge (q_ix (q_var 7) q_int) (q_var 4)))))
    (qss_one (qs_ret q_non))
    qss_nil)
    (qss_cons (qs_asg (q_var 7) (qg_tup rfl (qgs_cons (qg_tup rfl (qgs_cons (qg_name 8 sc_L_read.nd) (gName_noEx 8) (qgs_cons (qg_name 9 sc_L_read.nd) (gName_noEx 9) qgs_nil))) (gTup_noEx (gCons_noEx (gName_noEx 8) (gCons_noEx (gName_noEx 9) gNil_noEx))) (qgs_cons (qg_name 4 sc_L_read.nd) (gName_noEx 4) qgs_nil))))
    (qss_cons (qs_set 3 sc_L_read.nd (q_calP k_L_sum hr (by decide) (qa_cons (q_var 3) (qa_cons (q_calP k_L_poly hr (by decide) (qa_cons (q_addA (q_mulA (q_frz (qn_disp (qa_cons q_int qa_nil))) (q_var 4)) (q_frz (qn_disp (qa_cons (q_mulA (q_var 1) (q_var 8)) qa_nil)))) (qa_cons (q_var 9) qa_nil))) qa_nil))))
    (qss_cons (qs_set 2 sc_L_read.nd (q_slA (q_var 2) (qo_some (q_max2 rfl z_max (qa_cons q_int (qa_cons (q_var 5) qa_nil)))) qo_none))
    (qss_cons (qs_if (qt_eq hr (q_len z_len (qa_cons (q_var 2) qa_nil)) q_int)
    (qss_one (qs_ret q_non))
    qss_nil)
    (qss_one (qs_if (qt_gt (q_len z_len (qa_cons (q_var 2) qa_nil)) q_int)
    (qss_cons (qs_set 1 sc_L_read.nd (q_sub q_int (q_mulA q_int (q_intc z_int (qa_cons (q_eq hr (q_ix (q_var 2) q_int) q_str) qa_nil)))))
    (qss_one (qs_set 2 sc_L_read.nd (q_slA (q_var 2) (qo_some q_int) qo_none))))
    qss_nil)))))))))))
    (qss_one (qs_ret (q_var 3))))))))))⟩)
abbrev s_L_word_otherwise : Stmt := topS 47
theorem sc_L_word_otherwise : FnScope [("_law_flow_here" : Str), ("_law_word" : Str), ("_law_some" : Str), ("_law_form" : Str)] [("_law_flow_here" : Str), ("_law_word" : Str)] (defScope s_L_word_otherwise) := ⟨rfl, rfl, rfl, by decide +kernel, rfl, by decide +kernel, by decide +kernel⟩
theorem k_L_word_otherwise {P : Program} {w : World} {K : PySem.W.Frag} {mg : Str → Option Value} {base : Heap} (hNT : base.NoSeer ∧ P.given.tree = none) (z_len : mg "len" = none) (k_L_pick : Cal P w K mg base 33 "_law_pick" [("_law_flow_here" : Str), ("_law_many" : Str)] (spF K 2 m_L_pick)) (D : DefIn K mg "_law_word_otherwise" s_L_word_otherwise [("_law_flow_here" : Str), ("_law_word" : Str)]) : Cal P w K mg base 34 "_law_word_otherwise" [("_law_flow_here" : Str), ("_law_word" : Str)] (spF K 2 m_L_word_otherwise) := by
  unfold m_L_word_otherwise
  exact calF D sc_L_word_otherwise (by decide) (fun f cdv A outer s H E hr => ⟨_, ((qss_cons (qs_set 2 sc_L_word_otherwise.nd (q_frz (qn_disp (qa_cons q_str (qa_cons q_str (qa_cons q_str (qa_cons q_str (qa_cons q_str (qa_cons q_str (qa_cons q_str (qa_cons q_str (qa_cons q_str (qa_cons q_str (qa_cons q_str (qa_cons q_str (qa_cons q_str (qa_cons q_str (qa_cons q_str qa_nil))))))))))))))))))
    (qss_cons (qs_set 2 sc_L_word_otherwise.nd (q_addA (q_var 2) (q_frz (qn_disp (qa_cons q_str (qa_cons q_str (qa_cons q_str (qa_cons q_str (qa_cons q_str (qa_cons q_str (qa_cons q_str (qa_cons q_str (qa_cons q_str (qa_cons q_str (qa_cons q_str (qa_cons q_str (qa_cons q_str qa_nil)))))))))))))))))
    (qss_cons (qs_set 2 sc_L_word_otherwise.nd (q_addA (q_var 2) (q_frz (qn_disp (qa_cons (q_mulS q_str q_int) (qa_cons (q_mulS q_str q_int) (qa_cons (q_addA q_str (q_mulS q_str q_int)) (qa_cons (q_addA q_str (q_mulS q_str q_int)) (qa_cons (q_addA (q_addA q_str (q_mulS q_str q_int)) q_str) qa_nil)))))))))
    (qss_cons (qs_set 3 sc_L_word_otherwise.nd (q_calF k_L_pick hr (by decide) (qa_cons (q_var 0) (qa_cons q_int qa_nil))))
    (qss_cons (qs_if (qt_eq hr (q_var 3) q_int)
    (qss_one (qs_ret (q_ix (q_var 2) (q_calF k_L_pick hr (by decide) (qa_cons (q_var 0) (qa_cons (q_len z_len (qa_cons (q_var 2) qa_nil)) qa_nil))))))
    qss_nil)
    (qss_cons (qs_if (qt_eq hr (q_var 3) q_int)
    (qss_one (qs_ret (q_addA (q_addA (q_var 1) q_str) (q_ix (q_var 2) (q_calF k_L_pick hr (by decide) (qa_cons (q_var 0) (qa_cons (q_len z_len (qa_cons (q_var 2) qa_nil)) qa_nil)))))))
    qss_nil)
    (qss_one (qs_ret (q_addA q_str (q_var 1)))))))))))⟩)
abbrev s_L_otherwise : Stmt := topS 48
theorem sc_L_otherwise : FnScope [("_law_flow_here" : Str), ("_law_text" : Str), ("_law_words" : Str), ("_law_at" : Str), ("_law_other" : Str), ("_law_form" : Str), ("_law_spot" : Str)] [("_law_flow_here" : Str), ("_law_text" : Str)] (defScope s_L_otherwise) := ⟨rfl, rfl, rfl, by decide +kernel, rfl, by decide +kernel, by decide +kernel⟩
theorem k_L_otherwise {P : Program} {w : World} {K : PySem.W.Frag} {mg : Str → Option Value} {base : Heap} (hNT : base.NoSeer ∧ P.given.tree = none) (z_int : mg "int" = none) (z_len : mg "len" = none) (k_L_pick : Cal P w K mg base 33 "_law_pick" [("_law_flow_here" : Str), ("_law_many" : Str)] (spF K 2 m_L_pick)) (k_L_word_otherwise : Cal P w K mg base 34 "_law_word_otherwise" [("_law_flow_here" : Str), ("_law_word" : Str)] (spF K 2 m_L_word_otherwise)) (k_L_sign : Cal P w K mg base 34 "_law_sign" [("_law_flow_here" : Str)] (spF K 1 m_L_sign)) (D : DefIn K mg "_law_otherwise" s_L_otherwise [("_law_flow_here" : Str), ("_law_text" : Str)]) : Cal P w K mg base 35 "_law_otherwise" [("_law_flow_here" : Str), ("_law_text" : Str)] (spF K 2 m_L_otherwise_2) := by
  unfold m_L_otherwise_2
  exact calF D sc_L_otherwise (by decide) (fun f cdv A outer s H E hr => ⟨_, ((qss_cons (qs_set 2 sc_L_otherwise.nd (q_own (qn_split (q_var 1) q_str)))
    (qss_cons (qs_set 3 sc_L_otherwise.nd (q_calF k_L_pick hr (by decide) (qa_cons (q_var 0) (qa_cons (q_len z_len (qa_cons (q_var 2) qa_nil)) qa_nil))))
    (qss_cons (qs_set 4 sc_L_otherwise.nd (q_calF k_L_pick hr (by decide) (qa_cons (q_var 0) (qa_cons (q_len z_len (qa_cons (q_var 2) qa_nil)) qa_nil))))
    (qss_cons (qs_set 5 sc_L_otherwise.nd (q_calF k_L_pick hr (by decide) (qa_cons (q_var 0) (qa_cons q_int qa_nil))))
    (qss_cons (qs_set 6 sc_L_otherwise.nd (q_calF k_L_pick hr (by decide) (qa_cons (q_var 0) (qa_cons (q_addA (q_len z_len (qa_cons (q_var 1) qa_nil)) q_int) qa_nil))))
    (qss_cons (qs_if (qt_lt (q_var 5) q_int)
    (qss_one (qs_ret (q_addA (q_addA (q_slA (q_var 1) qo_none (qo_some (q_var 6))) (q_ix (q_frz (qn_disp (qa_cons (q_calF k_L_sign hr (by decide) (qa_cons (q_var 0) qa_nil)) (qa_cons q_str (qa_cons (q_calF k_L_sign hr (by decide) (qa_cons (q_var 0) qa_nil)) qa_nil))))) (q_var 5))) (q_slA (q_var 1) (qo_some (q_addA (q_var 6) (q_intc z_int (qa_cons (q_gt (q_var 5) q_int) qa_nil)))) qo_none))))
    qss_nil)
    (qss_cons (qs_if (qt_eq hr (q_var 5) q_int)
    (qss_one (qs_set 2 sc_L_otherwise.nd (q_own (qn_cat (q_slA (q_var 2) qo_none (qo_some (q_var 3))) (q_slA (q_var 2) (qo_some (q_addA (q_var 3) q_int)) qo_none)))))
    (qss_one (qs_if (qt_eq hr (q_var 5) q_int)
    (qss_one (qs_set 2 sc_L_otherwise.nd (q_own (qn_cat (q_slA (q_var 2) qo_none (qo_some (q_addA (q_var 3) q_int))) (q_slA (q_var 2) (qo_some (q_var 3)) qo_none)))))
    (qss_one (qs_if (qt_eq hr (q_var 5) q_int)
    (qss_one (qs_asg (q_tup (qa_cons (q_ix (q_var 2) (q_var 4)) (qa_cons (q_ix (q_var 2) (q_var 3)) qa_nil))) (qg_tup rfl (qgs_cons (qg_sub (q_var 2) (q_var 3)) (gSub_noEx (var_nx _) (var_nx _)) (qgs_cons (qg_sub (q_var 2) (q_var 4)) (gSub_noEx (var_nx _) (var_nx _)) qgs_nil)))))
    (qss_one (qs_if (qt_eq hr (q_var 5) q_int)
    (qss_one (qs_set 2 sc_L_otherwise.nd (q_own (qn_cat (q_var 2) (q_frz (qn_disp (qa_cons (q_ix (q_frz (qn_disp (qa_cons q_str (qa_cons q_str qa_nil)))) (q_calF k_L_pick hr (by decide) (qa_cons (q_var 0) (qa_cons q_int qa_nil)))) (qa_cons (q_ix (q_var 2) (q_var 4)) qa_nil))))))))
    (qss_one (qs_if (qt_eq hr (q_var 5) q_int)
    (qss_one (qs_asg (q_ix (q_frz (qn_disp (qa_cons q_str (qa_cons q_str (qa_cons q_str qa_nil))))) (q_calF k_L_pick hr (by decide) (qa_cons (q_var 0) (qa_cons q_int qa_nil)))) (qg_sub (q_var 2) (q_var 3))))
    (qss_one (qs_asg (q_calF k_L_word_otherwise hr (by decide) (qa_cons (q_var 0) (qa_cons (q_ix (q_var 2) (q_var 3)) qa_nil))) (qg_sub (q_var 2) (q_var 3)))))))))))))
    (qss_one (qs_ret (q_join q_str (q_var 2))))))))))))⟩)
abbrev s_law : Stmt := topS 49
theorem sc_law : FnScope [("_law_script" : Str), ("_law_flow_here" : Str), ("_law_p" : Str), ("_law_good" : Str), ("_law_k" : Str), ("_law_text" : Str), ("_law_due" : Str)] [("_law_script" : Str)] (defScope s_law) := ⟨rfl, rfl, rfl, by decide +kernel, rfl, by decide +kernel, by decide +kernel⟩
theorem ok_law {P : Program} {w : World} {K : PySem.W.Frag} {mg : Str → Option Value} {base : Heap} (hNT : base.NoSeer ∧ P.given.tree = none) {f : Addr} {fd : FuncData} (z_range : mg "range" = none) (k_read_poly : CalX P w K mg base 37 "read_poly" [("text" : Str)] (spX K mg 1 m_read_poly)) (k_L_alike : Cal P w K mg base 41 "_law_alike" [("_law_found" : Str), ("_law_due" : Str)] (spP K 2 (m_L_alike 8))) (k_L_asked : Cal P w K mg base 38 "_law_asked" ["_law_way_of", "_law_text"] (spWay K mg "read_poly" m_asked_read_poly)) (k_L_read : Cal P w K mg base 36 "_law_read" [("_law_text" : Str)] (spP K 1 m_L_read)) (k_L_pick : Cal P w K mg base 33 "_law_pick" [("_law_flow_here" : Str), ("_law_many" : Str)] (spF K 2 m_L_pick)) (k_L_otherwise : Cal P w K mg base 35 "_law_otherwise" [("_law_flow_here" : Str), ("_law_text" : Str)] (spF K 2 m_L_otherwise_2)) (k_L_poly_text : Cal P w K mg base 35 "_law_poly_text" [("_law_p" : Str)] (spP K 1 m_L_poly_text)) (k_L_any_poly : Cal P w K mg base 35 "_law_any_poly" [("_law_flow_here" : Str), ("_law_many" : Str), ("_law_most" : Str)] (spF K 3 m_L_any_poly))
    (k_Lflow : Cal P w K mg base 33 "_law_flow" ["_law_script"] (spFl K)) (D : Fun K "law" "law" s_law f fd)
    (hsem : ∀ ns : List Int, ns.length ≤ 63 → ∃ st', b_law_k11 ((startL 7 [.scr ns]).set 1 (some .flow)) ⟨some (fl0 ns), []⟩ = .rt (.d (.bool true)) st') :
    FnOk P w K mg base CX0 42 f fd ["_law_script"] (spLaw K) := by
  refine okLaw (i := 1) (mf := "_law_flow") (psf := ["_law_script"]) (kf := 1) D sc_law rfl (by decide) (fun cdv A outer s H E hr => ?_) hsem
  obtain ⟨fF, fdF, FF, mF, kF, bF⟩ := k_Lflow.ex
  have z : QSs (cxOf CX0 P w K mg base _ "law" (defScope s_law) f cdv A outer s H E).nox (defBody s_law).tail _ b_law_k11 := (qss_cons (qs_set 2 sc_law.nd (q_calF k_L_any_poly hr (by decide) (qa_cons (q_var 1) (qa_cons (q_calF k_L_pick hr (by decide) (qa_cons (q_var 1) (qa_cons q_int qa_nil))) (qa_cons (q_ix (q_frz (qn_disp (qa_cons q_int (qa_cons q_int qa_nil)))) (q_calF k_L_pick hr (by decide) (qa_cons (q_var 1) (qa_cons q_int qa_nil)))) qa_nil)))))
    (qss_cons (qs_if (qt_eq hr (q_calF k_L_pick hr (by decide) (qa_cons (q_var 1) (qa_cons q_int qa_nil))) q_int)
    (qss_one (qs_set 2 sc_law.nd (q_tup (qa_cons (q_tup qa_nil) (qa_cons q_int qa_nil)))))
    qss_nil)
    (qss_cons (qs_set 3 sc_law.nd (q_calP k_L_poly_text hr (by decide) (qa_cons (q_var 2) qa_nil)))
    (qss_cons (qs_if (qt_not (qt_tru (q_calP k_L_alike hr (by decide) (qa_cons (q_calP k_L_read hr (by decide) (qa_cons (q_var 3) qa_nil)) (qa_cons (q_var 2) qa_nil)))))
    (qss_one (qs_ret q_bl))
    qss_nil)
    (qss_cons (qs_for PassesOwn.never rfl (qi_r1 z_range (qa_cons q_int qa_nil)) (qg_name 4 sc_law.nd)
    (qss_cons (qs_set 5 sc_law.nd (q_calF k_L_otherwise hr (by decide) (qa_cons (q_var 1) (qa_cons (q_var 3) qa_nil))))
    (qss_cons (qs_if (qt_eq hr (q_calF k_L_pick hr (by decide) (qa_cons (q_var 1) (qa_cons q_int qa_nil))) q_int)
    (qss_one (qs_set 5 sc_law.nd (q_calF k_L_otherwise hr (by decide) (qa_cons (q_var 1) (qa_cons (q_var 5) qa_nil)))))
    qss_nil)
    (qss_cons (qs_set 6 sc_law.nd (q_calP k_L_read hr (by decide) (qa_cons (q_var 5) qa_nil)))
    (qss_cons (qs_if (qt_isN (q_var 6) q_non)
    (qss_one (qs_set 6 sc_law.nd (q_tup (qa_cons q_str (qa_cons q_int qa_nil)))))
    qss_nil)
    (qss_one (qs_if (qt_w (qw_or (qt_not (qt_tru (q_calP k_L_alike hr (by decide) (qa_cons (q_calW k_L_asked (CalX.at k_read_poly) hr (by decide) (qa_cons (q_var 5) qa_nil)) (qa_cons (q_var 6) qa_nil))))) (qw_or1 (qt_ne hr (q_calX0 k_read_poly hr (by decide) (qa_cons (q_var 3) qa_nil)) (q_var 2)))))
    (qss_one (qs_ret q_bl))
    qss_nil)))))))
    (qss_one (qs_ret q_bl)))))))
  exact ⟨_, pss_cons (ps_set (i := 1) sc_law.nd rfl (by first | exact .inl rfl | exact .inr rfl) (pe_call FF (hr.mono (by decide)) (by rfl) mF kF bF .nil pass0 (pa_cons (pv 0) pa_nil))) z.pss, fun G hG => z.sim G hG⟩
theorem all_mk {l : PySem.W.OpenLaw} {w : World} {K1 K : PySem.W.Frag} {h : Heap} {mg : Str → Option Value} {fa : Addr} (M : More K1 K) (X : K.In h) (G : h.Ns mainGlobals mg) (hT : l.prog.given.tree = none) (hfa : mg "law" = some (.ref fa)) (hsem : ∀ ns : List Int, ns.length ≤ 63 → ∃ st', b_law_k11 ((startL 7 [.scr ns]).set 1 (some .flow)) ⟨some (fl0 ns), []⟩ = .rt (.d (.bool true)) st')
    {f_common_part : Addr} {oc_common_part kV_common_part dc_common_part pm_common_part cd_common_part ct_common_part : Value} {od_common_part an_common_part : Option Addr} {sl_common_part : Array (Option Value)}
    (a_common_part : PySem.W.nsIn K1 mainGlobals "common_part" = some (some (.ref f_common_part))) (l_common_part : K1.lookup f_common_part = some ⟨oc_common_part, od_common_part, .func (PySem.W.fnOf "common_part" "common_part" (defArgs s_common_part) (defBody s_common_part) (defScope s_common_part) .none kV_common_part dc_common_part pm_common_part an_common_part cd_common_part ct_common_part), sl_common_part⟩) (c_common_part : PySem.W.codeIn K1 cd_common_part "common_part" = true)
    {f_fraction : Addr} {oc_fraction kV_fraction dc_fraction pm_fraction cd_fraction ct_fraction : Value} {od_fraction an_fraction : Option Addr} {sl_fraction : Array (Option Value)}
    (a_fraction : PySem.W.nsIn K1 mainGlobals "fraction" = some (some (.ref f_fraction))) (l_fraction : K1.lookup f_fraction = some ⟨oc_fraction, od_fraction, .func (PySem.W.fnOf "fraction" "fraction" (defArgs s_fraction) (defBody s_fraction) (defScope s_fraction) .none kV_fraction dc_fraction pm_fraction an_fraction cd_fraction ct_fraction), sl_fraction⟩) (c_fraction : PySem.W.codeIn K1 cd_fraction "fraction" = true)
    {f_over : Addr} {oc_over kV_over dc_over pm_over cd_over ct_over : Value} {od_over an_over : Option Addr} {sl_over : Array (Option Value)}
    (a_over : PySem.W.nsIn K1 mainGlobals "over" = some (some (.ref f_over))) (l_over : K1.lookup f_over = some ⟨oc_over, od_over, .func (PySem.W.fnOf "over" "over" (defArgs s_over) (defBody s_over) (defScope s_over) .none kV_over dc_over pm_over an_over cd_over ct_over), sl_over⟩) (c_over : PySem.W.codeIn K1 cd_over "over" = true)
    {f_poly : Addr} {oc_poly kV_poly dc_poly pm_poly cd_poly ct_poly : Value} {od_poly an_poly : Option Addr} {sl_poly : Array (Option Value)}
    (a_poly : PySem.W.nsIn K1 mainGlobals "poly" = some (some (.ref f_poly))) (l_poly : K1.lookup f_poly = some ⟨oc_poly, od_poly, .func (PySem.W.fnOf "poly" "poly" (defArgs s_poly) (defBody s_poly) (defScope s_poly) .none kV_poly dc_poly pm_poly an_poly cd_poly ct_poly), sl_poly⟩) (c_poly : PySem.W.codeIn K1 cd_poly "poly" = true)
    {f_fraction_at : Addr} {oc_fraction_at kV_fraction_at dc_fraction_at pm_fraction_at cd_fraction_at ct_fraction_at : Value} {od_fraction_at an_fraction_at : Option Addr} {sl_fraction_at : Array (Option Value)}
    (a_fraction_at : PySem.W.nsIn K1 mainGlobals "fraction_at" = some (some (.ref f_fraction_at))) (l_fraction_at : K1.lookup f_fraction_at = some ⟨oc_fraction_at, od_fraction_at, .func (PySem.W.fnOf "fraction_at" "fraction_at" (defArgs s_fraction_at) (defBody s_fraction_at) (defScope s_fraction_at) .none kV_fraction_at dc_fraction_at pm_fraction_at an_fraction_at cd_fraction_at ct_fraction_at), sl_fraction_at⟩) (c_fraction_at : PySem.W.codeIn K1 cd_fraction_at "fraction_at" = true)
    {f_fraction_text : Addr} {oc_fraction_text kV_fraction_text dc_fraction_text pm_fraction_text cd_fraction_text ct_fraction_text : Value} {od_fraction_text an_fraction_text : Option Addr} {sl_fraction_text : Array (Option Value)}
    (a_fraction_text : PySem.W.nsIn K1 mainGlobals "fraction_text" = some (some (.ref f_fraction_text))) (l_fraction_text : K1.lookup f_fraction_text = some ⟨oc_fraction_text, od_fraction_text, .func (PySem.W.fnOf "fraction_text" "fraction_text" (defArgs s_fraction_text) (defBody s_fraction_text) (defScope s_fraction_text) .none kV_fraction_text dc_fraction_text pm_fraction_text an_fraction_text cd_fraction_text ct_fraction_text), sl_fraction_text⟩) (c_fraction_text : PySem.W.codeIn K1 cd_fraction_text "fraction_text" = true)
    {f_letter_text : Addr} {oc_letter_text kV_letter_text dc_letter_text pm_letter_text cd_letter_text ct_letter_text : Value} {od_letter_text an_letter_text : Option Addr} {sl_letter_text : Array (Option Value)}
    (a_letter_text : PySem.W.nsIn K1 mainGlobals "letter_text" = some (some (.ref f_letter_text))) (l_letter_text : K1.lookup f_letter_text = some ⟨oc_letter_text, od_letter_text, .func (PySem.W.fnOf "letter_text" "letter_text" (defArgs s_letter_text) (defBody s_letter_text) (defScope s_letter_text) .none kV_letter_text dc_letter_text pm_letter_text an_letter_text cd_letter_text ct_letter_text), sl_letter_text⟩) (c_letter_text : PySem.W.codeIn K1 cd_letter_text "letter_text" = true)
    {f_word_text : Addr} {oc_word_text kV_word_text dc_word_text pm_word_text cd_word_text ct_word_text : Value} {od_word_text an_word_text : Option Addr} {sl_word_text : Array (Option Value)}
    (a_word_text : PySem.W.nsIn K1 mainGlobals "word_text" = some (some (.ref f_word_text))) (l_word_text : K1.lookup f_word_text = some ⟨oc_word_text, od_word_text, .func (PySem.W.fnOf "word_text" "word_text" (defArgs s_word_text) (defBody s_word_text) (defScope s_word_text) .none kV_word_text dc_word_text pm_word_text an_word_text cd_word_text ct_word_text), sl_word_text⟩) (c_word_text : PySem.W.codeIn K1 cd_word_text "word_text" = true)
    {f_poly_text : Addr} {oc_poly_text kV_poly_text dc_poly_text pm_poly_text cd_poly_text ct_poly_text : Value} {od_poly_text an_poly_text : Option Addr} {sl_poly_text : Array (Option Value)}
    (a_poly_text : PySem.W.nsIn K1 mainGlobals "poly_text" = some (some (.ref f_poly_text))) (l_poly_text : K1.lookup f_poly_text = some ⟨oc_poly_text, od_poly_text, .func (PySem.W.fnOf "poly_text" "poly_text" (defArgs s_poly_text) (defBody s_poly_text) (defScope s_poly_text) .none kV_poly_text dc_poly_text pm_poly_text an_poly_text cd_poly_text ct_poly_text), sl_poly_text⟩) (c_poly_text : PySem.W.codeIn K1 cd_poly_text "poly_text" = true)
    {f_is_number : Addr} {oc_is_number kV_is_number dc_is_number pm_is_number cd_is_number ct_is_number : Value} {od_is_number an_is_number : Option Addr} {sl_is_number : Array (Option Value)}
    (a_is_number : PySem.W.nsIn K1 mainGlobals "is_number" = some (some (.ref f_is_number))) (l_is_number : K1.lookup f_is_number = some ⟨oc_is_number, od_is_number, .func (PySem.W.fnOf "is_number" "is_number" (defArgs s_is_number) (defBody s_is_number) (defScope s_is_number) .none kV_is_number dc_is_number pm_is_number an_is_number cd_is_number ct_is_number), sl_is_number⟩) (c_is_number : PySem.W.codeIn K1 cd_is_number "is_number" = true)
    {f_read_fraction : Addr} {oc_read_fraction kV_read_fraction dc_read_fraction pm_read_fraction cd_read_fraction ct_read_fraction : Value} {od_read_fraction an_read_fraction : Option Addr} {sl_read_fraction : Array (Option Value)}
    (a_read_fraction : PySem.W.nsIn K1 mainGlobals "read_fraction" = some (some (.ref f_read_fraction))) (l_read_fraction : K1.lookup f_read_fraction = some ⟨oc_read_fraction, od_read_fraction, .func (PySem.W.fnOf "read_fraction" "read_fraction" (defArgs s_read_fraction) (defBody s_read_fraction) (defScope s_read_fraction) .none kV_read_fraction dc_read_fraction pm_read_fraction an_read_fraction cd_read_fraction ct_read_fraction), sl_read_fraction⟩) (c_read_fraction : PySem.W.codeIn K1 cd_read_fraction "read_fraction" = true)
    {f_read_power : Addr} {oc_read_power kV_read_power dc_read_power pm_read_power cd_read_power ct_read_power : Value} {od_read_power an_read_power : Option Addr} {sl_read_power : Array (Option Value)}
    (a_read_power : PySem.W.nsIn K1 mainGlobals "read_power" = some (some (.ref f_read_power))) (l_read_power : K1.lookup f_read_power = some ⟨oc_read_power, od_read_power, .func (PySem.W.fnOf "read_power" "read_power" (defArgs s_read_power) (defBody s_read_power) (defScope s_read_power) .none kV_read_power dc_read_power pm_read_power an_read_power cd_read_power ct_read_power), sl_read_power⟩) (c_read_power : PySem.W.codeIn K1 cd_read_power "read_power" = true)
    {f_read_words : Addr} {oc_read_words kV_read_words dc_read_words pm_read_words cd_read_words ct_read_words : Value} {od_read_words an_read_words : Option Addr} {sl_read_words : Array (Option Value)}
    (a_read_words : PySem.W.nsIn K1 mainGlobals "read_words" = some (some (.ref f_read_words))) (l_read_words : K1.lookup f_read_words = some ⟨oc_read_words, od_read_words, .func (PySem.W.fnOf "read_words" "read_words" (defArgs s_read_words) (defBody s_read_words) (defScope s_read_words) .none kV_read_words dc_read_words pm_read_words an_read_words cd_read_words ct_read_words), sl_read_words⟩) (c_read_words : PySem.W.codeIn K1 cd_read_words "read_words" = true)
    {f_parted : Addr} {oc_parted kV_parted dc_parted pm_parted cd_parted ct_parted : Value} {od_parted an_parted : Option Addr} {sl_parted : Array (Option Value)}
    (a_parted : PySem.W.nsIn K1 mainGlobals "parted" = some (some (.ref f_parted))) (l_parted : K1.lookup f_parted = some ⟨oc_parted, od_parted, .func (PySem.W.fnOf "parted" "parted" (defArgs s_parted) (defBody s_parted) (defScope s_parted) .none kV_parted dc_parted pm_parted an_parted cd_parted ct_parted), sl_parted⟩) (c_parted : PySem.W.codeIn K1 cd_parted "parted" = true)
    {f_read_poly : Addr} {oc_read_poly kV_read_poly dc_read_poly pm_read_poly cd_read_poly ct_read_poly : Value} {od_read_poly an_read_poly : Option Addr} {sl_read_poly : Array (Option Value)}
    (a_read_poly : PySem.W.nsIn K1 mainGlobals "read_poly" = some (some (.ref f_read_poly))) (l_read_poly : K1.lookup f_read_poly = some ⟨oc_read_poly, od_read_poly, .func (PySem.W.fnOf "read_poly" "read_poly" (defArgs s_read_poly) (defBody s_read_poly) (defScope s_read_poly) .none kV_read_poly dc_read_poly pm_read_poly an_read_poly cd_read_poly ct_read_poly), sl_read_poly⟩) (c_read_poly : PySem.W.codeIn K1 cd_read_poly "read_poly" = true)
    {f_L_flow : Addr} {oc_L_flow kV_L_flow dc_L_flow pm_L_flow cd_L_flow ct_L_flow : Value} {od_L_flow an_L_flow : Option Addr} {sl_L_flow : Array (Option Value)}
    (a_L_flow : PySem.W.nsIn K1 mainGlobals "_law_flow" = some (some (.ref f_L_flow))) (l_L_flow : K1.lookup f_L_flow = some ⟨oc_L_flow, od_L_flow, .func (PySem.W.fnOf "_law_flow" "_law_flow" (defArgs s_L_flow) (defBody s_L_flow) (defScope s_L_flow) .none kV_L_flow dc_L_flow pm_L_flow an_L_flow cd_L_flow ct_L_flow), sl_L_flow⟩) (c_L_flow : PySem.W.codeIn K1 cd_L_flow "_law_flow" = true)
    {f_L_pick : Addr} {oc_L_pick kV_L_pick dc_L_pick pm_L_pick cd_L_pick ct_L_pick : Value} {od_L_pick an_L_pick : Option Addr} {sl_L_pick : Array (Option Value)}
    (a_L_pick : PySem.W.nsIn K1 mainGlobals "_law_pick" = some (some (.ref f_L_pick))) (l_L_pick : K1.lookup f_L_pick = some ⟨oc_L_pick, od_L_pick, .func (PySem.W.fnOf "_law_pick" "_law_pick" (defArgs s_L_pick) (defBody s_L_pick) (defScope s_L_pick) .none kV_L_pick dc_L_pick pm_L_pick an_L_pick cd_L_pick ct_L_pick), sl_L_pick⟩) (c_L_pick : PySem.W.codeIn K1 cd_L_pick "_law_pick" = true)
    {f_L_alike : Addr} {oc_L_alike kV_L_alike dc_L_alike pm_L_alike cd_L_alike ct_L_alike : Value} {od_L_alike an_L_alike : Option Addr} {sl_L_alike : Array (Option Value)}
    (a_L_alike : PySem.W.nsIn K1 mainGlobals "_law_alike" = some (some (.ref f_L_alike))) (l_L_alike : K1.lookup f_L_alike = some ⟨oc_L_alike, od_L_alike, .func (PySem.W.fnOf "_law_alike" "_law_alike" (defArgs s_L_alike) (defBody s_L_alike) (defScope s_L_alike) .none kV_L_alike dc_L_alike pm_L_alike an_L_alike cd_L_alike ct_L_alike), sl_L_alike⟩) (c_L_alike : PySem.W.codeIn K1 cd_L_alike "_law_alike" = true)
    {f_L_common : Addr} {oc_L_common kV_L_common dc_L_common pm_L_common cd_L_common ct_L_common : Value} {od_L_common an_L_common : Option Addr} {sl_L_common : Array (Option Value)}
    (a_L_common : PySem.W.nsIn K1 mainGlobals "_law_common" = some (some (.ref f_L_common))) (l_L_common : K1.lookup f_L_common = some ⟨oc_L_common, od_L_common, .func (PySem.W.fnOf "_law_common" "_law_common" (defArgs s_L_common) (defBody s_L_common) (defScope s_L_common) .none kV_L_common dc_L_common pm_L_common an_L_common cd_L_common ct_L_common), sl_L_common⟩) (c_L_common : PySem.W.codeIn K1 cd_L_common "_law_common" = true)
    {f_L_fraction : Addr} {oc_L_fraction kV_L_fraction dc_L_fraction pm_L_fraction cd_L_fraction ct_L_fraction : Value} {od_L_fraction an_L_fraction : Option Addr} {sl_L_fraction : Array (Option Value)}
    (a_L_fraction : PySem.W.nsIn K1 mainGlobals "_law_fraction" = some (some (.ref f_L_fraction))) (l_L_fraction : K1.lookup f_L_fraction = some ⟨oc_L_fraction, od_L_fraction, .func (PySem.W.fnOf "_law_fraction" "_law_fraction" (defArgs s_L_fraction) (defBody s_L_fraction) (defScope s_L_fraction) .none kV_L_fraction dc_L_fraction pm_L_fraction an_L_fraction cd_L_fraction ct_L_fraction), sl_L_fraction⟩) (c_L_fraction : PySem.W.codeIn K1 cd_L_fraction "_law_fraction" = true)
    {f_L_poly : Addr} {oc_L_poly kV_L_poly dc_L_poly pm_L_poly cd_L_poly ct_L_poly : Value} {od_L_poly an_L_poly : Option Addr} {sl_L_poly : Array (Option Value)}
    (a_L_poly : PySem.W.nsIn K1 mainGlobals "_law_poly" = some (some (.ref f_L_poly))) (l_L_poly : K1.lookup f_L_poly = some ⟨oc_L_poly, od_L_poly, .func (PySem.W.fnOf "_law_poly" "_law_poly" (defArgs s_L_poly) (defBody s_L_poly) (defScope s_L_poly) .none kV_L_poly dc_L_poly pm_L_poly an_L_poly cd_L_poly ct_L_poly), sl_L_poly⟩) (c_L_poly : PySem.W.codeIn K1 cd_L_poly "_law_poly" = true)
    {f_L_sum : Addr} {oc_L_sum kV_L_sum dc_L_sum pm_L_sum cd_L_sum ct_L_sum : Value} {od_L_sum an_L_sum : Option Addr} {sl_L_sum : Array (Option Value)}
    (a_L_sum : PySem.W.nsIn K1 mainGlobals "_law_sum" = some (some (.ref f_L_sum))) (l_L_sum : K1.lookup f_L_sum = some ⟨oc_L_sum, od_L_sum, .func (PySem.W.fnOf "_law_sum" "_law_sum" (defArgs s_L_sum) (defBody s_L_sum) (defScope s_L_sum) .none kV_L_sum dc_L_sum pm_L_sum an_L_sum cd_L_sum ct_L_sum), sl_L_sum⟩) (c_L_sum : PySem.W.codeIn K1 cd_L_sum "_law_sum" = true)
    {f_L_number : Addr} {oc_L_number kV_L_number dc_L_number pm_L_number cd_L_number ct_L_number : Value} {od_L_number an_L_number : Option Addr} {sl_L_number : Array (Option Value)}
    (a_L_number : PySem.W.nsIn K1 mainGlobals "_law_number" = some (some (.ref f_L_number))) (l_L_number : K1.lookup f_L_number = some ⟨oc_L_number, od_L_number, .func (PySem.W.fnOf "_law_number" "_law_number" (defArgs s_L_number) (defBody s_L_number) (defScope s_L_number) .none kV_L_number dc_L_number pm_L_number an_L_number cd_L_number ct_L_number), sl_L_number⟩) (c_L_number : PySem.W.codeIn K1 cd_L_number "_law_number" = true)
    {f_L_any_poly : Addr} {oc_L_any_poly kV_L_any_poly dc_L_any_poly pm_L_any_poly cd_L_any_poly ct_L_any_poly : Value} {od_L_any_poly an_L_any_poly : Option Addr} {sl_L_any_poly : Array (Option Value)}
    (a_L_any_poly : PySem.W.nsIn K1 mainGlobals "_law_any_poly" = some (some (.ref f_L_any_poly))) (l_L_any_poly : K1.lookup f_L_any_poly = some ⟨oc_L_any_poly, od_L_any_poly, .func (PySem.W.fnOf "_law_any_poly" "_law_any_poly" (defArgs s_L_any_poly) (defBody s_L_any_poly) (defScope s_L_any_poly) .none kV_L_any_poly dc_L_any_poly pm_L_any_poly an_L_any_poly cd_L_any_poly ct_L_any_poly), sl_L_any_poly⟩) (c_L_any_poly : PySem.W.codeIn K1 cd_L_any_poly "_law_any_poly" = true)
    {f_L_fraction_text : Addr} {oc_L_fraction_text kV_L_fraction_text dc_L_fraction_text pm_L_fraction_text cd_L_fraction_text ct_L_fraction_text : Value} {od_L_fraction_text an_L_fraction_text : Option Addr} {sl_L_fraction_text : Array (Option Value)}
    (a_L_fraction_text : PySem.W.nsIn K1 mainGlobals "_law_fraction_text" = some (some (.ref f_L_fraction_text))) (l_L_fraction_text : K1.lookup f_L_fraction_text = some ⟨oc_L_fraction_text, od_L_fraction_text, .func (PySem.W.fnOf "_law_fraction_text" "_law_fraction_text" (defArgs s_L_fraction_text) (defBody s_L_fraction_text) (defScope s_L_fraction_text) .none kV_L_fraction_text dc_L_fraction_text pm_L_fraction_text an_L_fraction_text cd_L_fraction_text ct_L_fraction_text), sl_L_fraction_text⟩) (c_L_fraction_text : PySem.W.codeIn K1 cd_L_fraction_text "_law_fraction_text" = true)
    {f_L_figures : Addr} {oc_L_figures kV_L_figures dc_L_figures pm_L_figures cd_L_figures ct_L_figures : Value} {od_L_figures an_L_figures : Option Addr} {sl_L_figures : Array (Option Value)}
    (a_L_figures : PySem.W.nsIn K1 mainGlobals "_law_figures" = some (some (.ref f_L_figures))) (l_L_figures : K1.lookup f_L_figures = some ⟨oc_L_figures, od_L_figures, .func (PySem.W.fnOf "_law_figures" "_law_figures" (defArgs s_L_figures) (defBody s_L_figures) (defScope s_L_figures) .none kV_L_figures dc_L_figures pm_L_figures an_L_figures cd_L_figures ct_L_figures), sl_L_figures⟩) (c_L_figures : PySem.W.codeIn K1 cd_L_figures "_law_figures" = true)
    {f_L_read_fraction : Addr} {oc_L_read_fraction kV_L_read_fraction dc_L_read_fraction pm_L_read_fraction cd_L_read_fraction ct_L_read_fraction : Value} {od_L_read_fraction an_L_read_fraction : Option Addr} {sl_L_read_fraction : Array (Option Value)}
    (a_L_read_fraction : PySem.W.nsIn K1 mainGlobals "_law_read_fraction" = some (some (.ref f_L_read_fraction))) (l_L_read_fraction : K1.lookup f_L_read_fraction = some ⟨oc_L_read_fraction, od_L_read_fraction, .func (PySem.W.fnOf "_law_read_fraction" "_law_read_fraction" (defArgs s_L_read_fraction) (defBody s_L_read_fraction) (defScope s_L_read_fraction) .none kV_L_read_fraction dc_L_read_fraction pm_L_read_fraction an_L_read_fraction cd_L_read_fraction ct_L_read_fraction), sl_L_read_fraction⟩) (c_L_read_fraction : PySem.W.codeIn K1 cd_L_read_fraction "_law_read_fraction" = true)
    {f_L_letter : Addr} {oc_L_letter kV_L_letter dc_L_letter pm_L_letter cd_L_letter ct_L_letter : Value} {od_L_letter an_L_letter : Option Addr} {sl_L_letter : Array (Option Value)}
    (a_L_letter : PySem.W.nsIn K1 mainGlobals "_law_letter" = some (some (.ref f_L_letter))) (l_L_letter : K1.lookup f_L_letter = some ⟨oc_L_letter, od_L_letter, .func (PySem.W.fnOf "_law_letter" "_law_letter" (defArgs s_L_letter) (defBody s_L_letter) (defScope s_L_letter) .none kV_L_letter dc_L_letter pm_L_letter an_L_letter cd_L_letter ct_L_letter), sl_L_letter⟩) (c_L_letter : PySem.W.codeIn K1 cd_L_letter "_law_letter" = true)
    {f_L_poly_text : Addr} {oc_L_poly_text kV_L_poly_text dc_L_poly_text pm_L_poly_text cd_L_poly_text ct_L_poly_text : Value} {od_L_poly_text an_L_poly_text : Option Addr} {sl_L_poly_text : Array (Option Value)}
    (a_L_poly_text : PySem.W.nsIn K1 mainGlobals "_law_poly_text" = some (some (.ref f_L_poly_text))) (l_L_poly_text : K1.lookup f_L_poly_text = some ⟨oc_L_poly_text, od_L_poly_text, .func (PySem.W.fnOf "_law_poly_text" "_law_poly_text" (defArgs s_L_poly_text) (defBody s_L_poly_text) (defScope s_L_poly_text) .none kV_L_poly_text dc_L_poly_text pm_L_poly_text an_L_poly_text cd_L_poly_text ct_L_poly_text), sl_L_poly_text⟩) (c_L_poly_text : PySem.W.codeIn K1 cd_L_poly_text "_law_poly_text" = true)
    {f_L_sign : Addr} {oc_L_sign kV_L_sign dc_L_sign pm_L_sign cd_L_sign ct_L_sign : Value} {od_L_sign an_L_sign : Option Addr} {sl_L_sign : Array (Option Value)}
    (a_L_sign : PySem.W.nsIn K1 mainGlobals "_law_sign" = some (some (.ref f_L_sign))) (l_L_sign : K1.lookup f_L_sign = some ⟨oc_L_sign, od_L_sign, .func (PySem.W.fnOf "_law_sign" "_law_sign" (defArgs s_L_sign) (defBody s_L_sign) (defScope s_L_sign) .none kV_L_sign dc_L_sign pm_L_sign an_L_sign cd_L_sign ct_L_sign), sl_L_sign⟩) (c_L_sign : PySem.W.codeIn K1 cd_L_sign "_law_sign" = true)
    {f_L_asked : Addr} {oc_L_asked kV_L_asked dc_L_asked pm_L_asked cd_L_asked ct_L_asked : Value} {od_L_asked an_L_asked : Option Addr} {sl_L_asked : Array (Option Value)}
    (a_L_asked : PySem.W.nsIn K1 mainGlobals "_law_asked" = some (some (.ref f_L_asked))) (l_L_asked : K1.lookup f_L_asked = some ⟨oc_L_asked, od_L_asked, .func (PySem.W.fnOf "_law_asked" "_law_asked" (defArgs s_L_asked) (defBody s_L_asked) (defScope s_L_asked) .none kV_L_asked dc_L_asked pm_L_asked an_L_asked cd_L_asked ct_L_asked), sl_L_asked⟩) (c_L_asked : PySem.W.codeIn K1 cd_L_asked "_law_asked" = true)
    {f_L_read_word : Addr} {oc_L_read_word kV_L_read_word dc_L_read_word pm_L_read_word cd_L_read_word ct_L_read_word : Value} {od_L_read_word an_L_read_word : Option Addr} {sl_L_read_word : Array (Option Value)}
    (a_L_read_word : PySem.W.nsIn K1 mainGlobals "_law_read_word" = some (some (.ref f_L_read_word))) (l_L_read_word : K1.lookup f_L_read_word = some ⟨oc_L_read_word, od_L_read_word, .func (PySem.W.fnOf "_law_read_word" "_law_read_word" (defArgs s_L_read_word) (defBody s_L_read_word) (defScope s_L_read_word) .none kV_L_read_word dc_L_read_word pm_L_read_word an_L_read_word cd_L_read_word ct_L_read_word), sl_L_read_word⟩) (c_L_read_word : PySem.W.codeIn K1 cd_L_read_word "_law_read_word" = true)
    {f_L_read : Addr} {oc_L_read kV_L_read dc_L_read pm_L_read cd_L_read ct_L_read : Value} {od_L_read an_L_read : Option Addr} {sl_L_read : Array (Option Value)}
    (a_L_read : PySem.W.nsIn K1 mainGlobals "_law_read" = some (some (.ref f_L_read))) (l_L_read : K1.lookup f_L_read = some ⟨oc_L_read, od_L_read, .func (PySem.W.fnOf "_law_read" "_law_read" (defArgs s_L_read) (defBody s_L_read) (defScope s_L_read) .none kV_L_read dc_L_read pm_L_read an_L_read cd_L_read ct_L_read), sl_L_read⟩) (c_L_read : PySem.W.codeIn K1 cd_L_read "_law_read" = true)
    {f_L_word_otherwise : Addr} {oc_L_word_otherwise kV_L_word_otherwise dc_L_word_otherwise pm_L_word_otherwise cd_L_word_otherwise ct_L_word_otherwise : Value} {od_L_word_otherwise an_L_word_otherwise : Option Addr} {sl_L_word_otherwise : Array (Option Value)}
    (a_L_word_otherwise : PySem.W.nsIn K1 mainGlobals "_law_word_otherwise" = some (some (.ref f_L_word_otherwise))) (l_L_word_otherwise : K1.lookup f_L_word_otherwise = some ⟨oc_L_word_otherwise, od_L_word_otherwise, .func (PySem.W.fnOf "_law_word_otherwise" "_law_word_otherwise" (defArgs s_L_word_otherwise) (defBody s_L_word_otherwise) (defScope s_L_word_otherwise) .none kV_L_word_otherwise dc_L_word_otherwise pm_L_word_otherwise an_L_word_otherwise cd_L_word_otherwise ct_L_word_otherwise), sl_L_word_otherwise⟩) (c_L_word_otherwise : PySem.W.codeIn K1 cd_L_word_otherwise "_law_word_otherwise" = true)
    {f_L_otherwise : Addr} {oc_L_otherwise kV_L_otherwise dc_L_otherwise pm_L_otherwise cd_L_otherwise ct_L_otherwise : Value} {od_L_otherwise an_L_otherwise : Option Addr} {sl_L_otherwise : Array (Option Value)}
    (a_L_otherwise : PySem.W.nsIn K1 mainGlobals "_law_otherwise" = some (some (.ref f_L_otherwise))) (l_L_otherwise : K1.lookup f_L_otherwise = some ⟨oc_L_otherwise, od_L_otherwise, .func (PySem.W.fnOf "_law_otherwise" "_law_otherwise" (defArgs s_L_otherwise) (defBody s_L_otherwise) (defScope s_L_otherwise) .none kV_L_otherwise dc_L_otherwise pm_L_otherwise an_L_otherwise cd_L_otherwise ct_L_otherwise), sl_L_otherwise⟩) (c_L_otherwise : PySem.W.codeIn K1 cd_L_otherwise "_law_otherwise" = true)
    {f_law : Addr} {oc_law kV_law dc_law pm_law cd_law ct_law : Value} {od_law an_law : Option Addr} {sl_law : Array (Option Value)}
    (a_law : PySem.W.nsIn K1 mainGlobals "law" = some (some (.ref f_law))) (l_law : K1.lookup f_law = some ⟨oc_law, od_law, .func (PySem.W.fnOf "law" "law" (defArgs s_law) (defBody s_law) (defScope s_law) .none kV_law dc_law pm_law an_law cd_law ct_law), sl_law⟩) (c_law : PySem.W.codeIn K1 cd_law "law" = true)
    (b_ValueError : PySem.W.nsIn K1 mainGlobals "ValueError" = some none)
    (b_abs : PySem.W.nsIn K1 mainGlobals "abs" = some none)
    (b_all : PySem.W.nsIn K1 mainGlobals "all" = some none)
    (b_bool : PySem.W.nsIn K1 mainGlobals "bool" = some none)
    (b_enumerate : PySem.W.nsIn K1 mainGlobals "enumerate" = some none)
    (b_int : PySem.W.nsIn K1 mainGlobals "int" = some none)
    (b_isinstance : PySem.W.nsIn K1 mainGlobals "isinstance" = some none)
    (b_len : PySem.W.nsIn K1 mainGlobals "len" = some none)
    (b_list : PySem.W.nsIn K1 mainGlobals "list" = some none)
    (b_max : PySem.W.nsIn K1 mainGlobals "max" = some none)
    (b_min : PySem.W.nsIn K1 mainGlobals "min" = some none)
    (b_range : PySem.W.nsIn K1 mainGlobals "range" = some none)
    (b_reversed : PySem.W.nsIn K1 mainGlobals "reversed" = some none)
    (b_str : PySem.W.nsIn K1 mainGlobals "str" = some none)
    (b_tuple : PySem.W.nsIn K1 mainGlobals "tuple" = some none)
    {C_BadText : Addr}
    (ac_BadText : PySem.W.nsIn K1 mainGlobals "BadText" = some (some (.ref C_BadText)))
    (kc_BadText : PySem.W.keepIn K1 (.ref C_BadText) = true) (ec_BadText : PySem.W.subIn K1 (.ref C_BadText) (.type "BaseException") = some true) (tc_BadText : PySem.W.typeIn K1 (.ref C_BadText) = some (.type "type"))
    {I_BadText N_BadText : Addr} {nm_BadText q_BadText : Str} {bs_BadText bm_BadText sb_BadText : List Value} {sn_BadText : List Str} {ab_BadText : Bool} {col_BadText : Option Bool} {dd_BadText od_BadText an_BadText : Option Addr} {m0_BadText m1_BadText m2_BadText m3_BadText m5_BadText : Option Value} {oc_BadText kV_BadText dc_BadText pm_BadText cd_BadText ct_BadText : Value} {sl_BadText : Array (Option Value)}
    (xc_BadText : K1.lookup C_BadText = some (excClassObj nm_BadText q_BadText C_BadText N_BadText bs_BadText bm_BadText true sn_BadText sb_BadText ab_BadText col_BadText dd_BadText m0_BadText m1_BadText m2_BadText m3_BadText m5_BadText "ValueError.__new__"))
    (sc_BadText : PySem.W.findIn K1 (.ref C_BadText) "__setattr__" = some (some (.builtin "object.__setattr__"))) (nc_BadText : PySem.W.findIn K1 (.ref C_BadText) "at" = some none)
    (ic_BadText : PySem.W.findIn K1 (.ref C_BadText) "__init__" = some (some (.ref I_BadText))) (yc_BadText : PySem.W.typeIn K1 (.ref I_BadText) = some (.type "function"))
    (lc_BadText : K1.lookup I_BadText = some ⟨oc_BadText, od_BadText, .func (PySem.W.fnOf "__init__" "BadText.__init__" (defArgs si_BadText) (defBody si_BadText) (defScope si_BadText) .none kV_BadText dc_BadText pm_BadText an_BadText cd_BadText ct_BadText), sl_BadText⟩) (dc2_BadText : PySem.W.codeIn K1 cd_BadText "BadText.__init__" = true)
    (rc_BadText : PySem.HandSPX.refsVE bm_BadText = true)
    {C_NestError : Addr} (ac_NestError : PySem.W.nsIn K1 mainGlobals "NestError" = some (some (.ref C_NestError)))
    (td_NestError : PySem.W.typeIn K1 (.ref C_NestError) = some (.type "type")) (dd_NestError : PySem.W.hasDictIn K1 C_NestError = true) (sb_NestError : PySem.W.subIn K1 (.ref C_BadText) (.ref C_NestError) = some true)
    {C_NoName : Addr} (ac_NoName : PySem.W.nsIn K1 mainGlobals "NoName" = some (some (.ref C_NoName)))
    (td_NoName : PySem.W.typeIn K1 (.ref C_NoName) = some (.type "type")) (dd_NoName : PySem.W.hasDictIn K1 C_NoName = true) (sb_NoName : PySem.W.subIn K1 (.ref C_BadText) (.ref C_NoName) = some false)
    {C_NoRow : Addr} (ac_NoRow : PySem.W.nsIn K1 mainGlobals "NoRow" = some (some (.ref C_NoRow)))
    (td_NoRow : PySem.W.typeIn K1 (.ref C_NoRow) = some (.type "type")) (dd_NoRow : PySem.W.hasDictIn K1 C_NoRow = true) (sb_NoRow : PySem.W.subIn K1 (.ref C_BadText) (.ref C_NoRow) = some false)
    {C_TooGreat : Addr} (ac_TooGreat : PySem.W.nsIn K1 mainGlobals "TooGreat" = some (some (.ref C_TooGreat)))
    (td_TooGreat : PySem.W.typeIn K1 (.ref C_TooGreat) = some (.type "type")) (dd_TooGreat : PySem.W.hasDictIn K1 C_TooGreat = true) (sb_TooGreat : PySem.W.subIn K1 (.ref C_BadText) (.ref C_TooGreat) = some false)
    {C_Twice : Addr} (ac_Twice : PySem.W.nsIn K1 mainGlobals "Twice" = some (some (.ref C_Twice)))
    (td_Twice : PySem.W.typeIn K1 (.ref C_Twice) = some (.type "type")) (dd_Twice : PySem.W.hasDictIn K1 C_Twice = true) (sb_Twice : PySem.W.subIn K1 (.ref C_BadText) (.ref C_Twice) = some false)
    (be_NestError : PySem.W.subIn K1 (.ref C_NestError) (.type "BaseException") = some true) (gb_BadText : PySem.W.findIn K1 (.ref C_BadText) "__getattribute__" = some (some (.builtin "BaseException.__getattribute__"))) (gh_BadText : PySem.W.findIn K1 (.ref C_BadText) "__getattr__" = some none)
    (hb_BadText : PySem.W.hasDictIn K1 C_BadText = true) (cb_BadText : PySem.W.findIn K1 (.ref C_BadText) "__class__" = some (some (.builtin "object.__class__"))) (sp_oc : PySem.W.specialIn K1 (.builtin "object.__class__") "__get__" = some (some (.builtin "getset_descriptor.__get__"))) (tk_oc : PySem.W.takesIn K1 (.builtin "object.__class__") = some true) (mr_BadText : PySem.W.mroIn K1 C_BadText (.type "object") = some true) (vs_BadText : PySem.W.subIn K1 (.ref C_BadText) (.type "ValueError") = some true)
    (ne_NoName : C_BadText ≠ C_NoName) (ne_NoRow : C_BadText ≠ C_NoRow) (ne_TooGreat : C_BadText ≠ C_TooGreat) (ne_Twice : C_BadText ≠ C_Twice)
    {t_FIGURES_0 : Tok} (n_FIGURES : PySem.W.nsIn K1 mainGlobals "FIGURES" = some (some (.str ("0123456789" : Str) t_FIGURES_0)))
    {t_MOST_DEGREE_0 : Tok} (n_MOST_DEGREE : PySem.W.nsIn K1 mainGlobals "MOST_DEGREE" = some (some (.int 24 t_MOST_DEGREE_0)))
    {t_MOST_FIGURES_0 : Tok} (n_MOST_FIGURES : PySem.W.nsIn K1 mainGlobals "MOST_FIGURES" = some (some (.int 40 t_MOST_FIGURES_0)))
    : ∃ fd : FuncData, (∀ (s : Shared) (v : Value), BindsTo s fd ⟨[v], []⟩ [("_law_script", v)]) ∧ ∀ base : Heap, K.In base → base.Ns mainGlobals mg → base.NoSeer → FnOk l.prog w K mg base CX0 42 fa fd ["_law_script"] (spLaw K) := by
  have a_common_part := M.ns a_common_part; have l_common_part := M _ _ l_common_part; have c_common_part := M.code c_common_part; have q_common_part := keep_fn l_common_part
  have a_fraction := M.ns a_fraction; have l_fraction := M _ _ l_fraction; have c_fraction := M.code c_fraction; have q_fraction := keep_fn l_fraction
  have a_over := M.ns a_over; have l_over := M _ _ l_over; have c_over := M.code c_over; have q_over := keep_fn l_over
  have a_poly := M.ns a_poly; have l_poly := M _ _ l_poly; have c_poly := M.code c_poly; have q_poly := keep_fn l_poly
  have a_fraction_at := M.ns a_fraction_at; have l_fraction_at := M _ _ l_fraction_at; have c_fraction_at := M.code c_fraction_at; have q_fraction_at := keep_fn l_fraction_at
  have a_fraction_text := M.ns a_fraction_text; have l_fraction_text := M _ _ l_fraction_text; have c_fraction_text := M.code c_fraction_text; have q_fraction_text := keep_fn l_fraction_text
  have a_letter_text := M.ns a_letter_text; have l_letter_text := M _ _ l_letter_text; have c_letter_text := M.code c_letter_text; have q_letter_text := keep_fn l_letter_text
  have a_word_text := M.ns a_word_text; have l_word_text := M _ _ l_word_text; have c_word_text := M.code c_word_text; have q_word_text := keep_fn l_word_text
  have a_poly_text := M.ns a_poly_text; have l_poly_text := M _ _ l_poly_text; have c_poly_text := M.code c_poly_text; have q_poly_text := keep_fn l_poly_text
  have a_is_number := M.ns a_is_number; have l_is_number := M _ _ l_is_number; have c_is_number := M.code c_is_number; have q_is_number := keep_fn l_is_number
  have a_read_fraction := M.ns a_read_fraction; have l_read_fraction := M _ _ l_read_fraction; have c_read_fraction := M.code c_read_fraction; have q_read_fraction := keep_fn l_read_fraction
  have a_read_power := M.ns a_read_power; have l_read_power := M _ _ l_read_power; have c_read_power := M.code c_read_power; have q_read_power := keep_fn l_read_power
  have a_read_words := M.ns a_read_words; have l_read_words := M _ _ l_read_words; have c_read_words := M.code c_read_words; have q_read_words := keep_fn l_read_words
  have a_parted := M.ns a_parted; have l_parted := M _ _ l_parted; have c_parted := M.code c_parted; have q_parted := keep_fn l_parted
  have a_read_poly := M.ns a_read_poly; have l_read_poly := M _ _ l_read_poly; have c_read_poly := M.code c_read_poly; have q_read_poly := keep_fn l_read_poly
  have a_L_flow := M.ns a_L_flow; have l_L_flow := M _ _ l_L_flow; have c_L_flow := M.code c_L_flow; have q_L_flow := keep_fn l_L_flow
  have a_L_pick := M.ns a_L_pick; have l_L_pick := M _ _ l_L_pick; have c_L_pick := M.code c_L_pick; have q_L_pick := keep_fn l_L_pick
  have a_L_alike := M.ns a_L_alike; have l_L_alike := M _ _ l_L_alike; have c_L_alike := M.code c_L_alike; have q_L_alike := keep_fn l_L_alike
  have a_L_common := M.ns a_L_common; have l_L_common := M _ _ l_L_common; have c_L_common := M.code c_L_common; have q_L_common := keep_fn l_L_common
  have a_L_fraction := M.ns a_L_fraction; have l_L_fraction := M _ _ l_L_fraction; have c_L_fraction := M.code c_L_fraction; have q_L_fraction := keep_fn l_L_fraction
  have a_L_poly := M.ns a_L_poly; have l_L_poly := M _ _ l_L_poly; have c_L_poly := M.code c_L_poly; have q_L_poly := keep_fn l_L_poly
  have a_L_sum := M.ns a_L_sum; have l_L_sum := M _ _ l_L_sum; have c_L_sum := M.code c_L_sum; have q_L_sum := keep_fn l_L_sum
  have a_L_number := M.ns a_L_number; have l_L_number := M _ _ l_L_number; have c_L_number := M.code c_L_number; have q_L_number := keep_fn l_L_number
  have a_L_any_poly := M.ns a_L_any_poly; have l_L_any_poly := M _ _ l_L_any_poly; have c_L_any_poly := M.code c_L_any_poly; have q_L_any_poly := keep_fn l_L_any_poly
  have a_L_fraction_text := M.ns a_L_fraction_text; have l_L_fraction_text := M _ _ l_L_fraction_text; have c_L_fraction_text := M.code c_L_fraction_text; have q_L_fraction_text := keep_fn l_L_fraction_text
  have a_L_figures := M.ns a_L_figures; have l_L_figures := M _ _ l_L_figures; have c_L_figures := M.code c_L_figures; have q_L_figures := keep_fn l_L_figures
  have a_L_read_fraction := M.ns a_L_read_fraction; have l_L_read_fraction := M _ _ l_L_read_fraction; have c_L_read_fraction := M.code c_L_read_fraction; have q_L_read_fraction := keep_fn l_L_read_fraction
  have a_L_letter := M.ns a_L_letter; have l_L_letter := M _ _ l_L_letter; have c_L_letter := M.code c_L_letter; have q_L_letter := keep_fn l_L_letter
  have a_L_poly_text := M.ns a_L_poly_text; have l_L_poly_text := M _ _ l_L_poly_text; have c_L_poly_text := M.code c_L_poly_text; have q_L_poly_text := keep_fn l_L_poly_text
  have a_L_sign := M.ns a_L_sign; have l_L_sign := M _ _ l_L_sign; have c_L_sign := M.code c_L_sign; have q_L_sign := keep_fn l_L_sign
  have a_L_asked := M.ns a_L_asked; have l_L_asked := M _ _ l_L_asked; have c_L_asked := M.code c_L_asked; have q_L_asked := keep_fn l_L_asked
  have a_L_read_word := M.ns a_L_read_word; have l_L_read_word := M _ _ l_L_read_word; have c_L_read_word := M.code c_L_read_word; have q_L_read_word := keep_fn l_L_read_word
  have a_L_read := M.ns a_L_read; have l_L_read := M _ _ l_L_read; have c_L_read := M.code c_L_read; have q_L_read := keep_fn l_L_read
  have a_L_word_otherwise := M.ns a_L_word_otherwise; have l_L_word_otherwise := M _ _ l_L_word_otherwise; have c_L_word_otherwise := M.code c_L_word_otherwise; have q_L_word_otherwise := keep_fn l_L_word_otherwise
  have a_L_otherwise := M.ns a_L_otherwise; have l_L_otherwise := M _ _ l_L_otherwise; have c_L_otherwise := M.code c_L_otherwise; have q_L_otherwise := keep_fn l_L_otherwise
  have a_law := M.ns a_law; have l_law := M _ _ l_law; have c_law := M.code c_law; have q_law := keep_fn l_law
  have b_ValueError := M.ns b_ValueError
  have b_abs := M.ns b_abs
  have b_all := M.ns b_all
  have b_bool := M.ns b_bool
  have b_enumerate := M.ns b_enumerate
  have b_int := M.ns b_int
  have b_isinstance := M.ns b_isinstance
  have b_len := M.ns b_len
  have b_list := M.ns b_list
  have b_max := M.ns b_max
  have b_min := M.ns b_min
  have b_range := M.ns b_range
  have b_reversed := M.ns b_reversed
  have b_str := M.ns b_str
  have b_tuple := M.ns b_tuple
  have n_FIGURES := M.ns n_FIGURES
  have n_MOST_DEGREE := M.ns n_MOST_DEGREE
  have n_MOST_FIGURES := M.ns n_MOST_FIGURES
  have g_BadText := PySem.W.mg_of X G (M.ns ac_BadText); have kc_BadText := M.keep kc_BadText; have ec_BadText := M.sub ec_BadText; have tc_BadText := M.typ tc_BadText
  have xc_BadText := M _ _ xc_BadText; have sc_BadText := M.find sc_BadText; have nc_BadText := M.find nc_BadText; have ic_BadText := M.find ic_BadText; have yc_BadText := M.typ yc_BadText; have lc_BadText := M _ _ lc_BadText; have dc2_BadText := M.code dc2_BadText
  have e := hfa.symm.trans (PySem.W.mg_of X G a_law)
  cases e
  have z_ValueError := PySem.W.mg_none_of X G b_ValueError
  have z_abs := PySem.W.mg_none_of X G b_abs
  have z_all := PySem.W.mg_none_of X G b_all
  have z_bool := PySem.W.mg_none_of X G b_bool
  have z_enumerate := PySem.W.mg_none_of X G b_enumerate
  have z_int := PySem.W.mg_none_of X G b_int
  have z_isinstance := PySem.W.mg_none_of X G b_isinstance
  have z_len := PySem.W.mg_none_of X G b_len
  have z_list := PySem.W.mg_none_of X G b_list
  have z_max := PySem.W.mg_none_of X G b_max
  have z_min := PySem.W.mg_none_of X G b_min
  have z_range := PySem.W.mg_none_of X G b_range
  have z_reversed := PySem.W.mg_none_of X G b_reversed
  have z_str := PySem.W.mg_none_of X G b_str
  have z_tuple := PySem.W.mg_none_of X G b_tuple
  have C_FIGURES : ConIn K mg "FIGURES" c_FIGURES := ⟨_, (.str ("0123456789" : Str) : V), PySem.W.mg_of X G n_FIGURES, (rel_str ("0123456789" : Str) t_FIGURES_0), fun _ _ => (.str _)⟩
  have C_MOST_DEGREE : ConIn K mg "MOST_DEGREE" c_MOST := ⟨_, (.int 24 : V), PySem.W.mg_of X G n_MOST_DEGREE, (rel_int 24 t_MOST_DEGREE_0), fun _ _ => (.int _)⟩
  have C_MOST_FIGURES : ConIn K mg "MOST_FIGURES" c_MOST_FIGURES := ⟨_, (.int 40 : V), PySem.W.mg_of X G n_MOST_FIGURES, (rel_int 40 t_MOST_FIGURES_0), fun _ _ => (.int _)⟩
  have D_common_part : DefIn K mg "common_part" s_common_part [("one" : Str), ("other" : Str)] := defIn_mk X G a_common_part l_common_part c_common_part q_common_part fun _ _ _ _ _ _ us hl => match us, hl with | [_, _], _ => rfl
  have D_fraction : DefIn K mg "fraction" s_fraction [("top" : Str), ("bottom" : Str)] := defIn_mk X G a_fraction l_fraction c_fraction q_fraction fun _ _ _ _ _ _ us hl => match us, hl with | [_, _], _ => rfl
  have D_over : DefIn K mg "over" s_over [("tops" : Str), ("bottom" : Str)] := defIn_mk X G a_over l_over c_over q_over fun _ _ _ _ _ _ us hl => match us, hl with | [_, _], _ => rfl
  have D_poly : DefIn K mg "poly" s_poly [("some" : Str)] := defIn_mk X G a_poly l_poly c_poly q_poly fun _ _ _ _ _ _ us hl => match us, hl with | [_], _ => rfl
  have D_fraction_at : DefIn K mg "fraction_at" s_fraction_at [("p" : Str), ("k" : Str)] := defIn_mk X G a_fraction_at l_fraction_at c_fraction_at q_fraction_at fun _ _ _ _ _ _ us hl => match us, hl with | [_, _], _ => rfl
  have D_fraction_text : DefIn K mg "fraction_text" s_fraction_text [("r" : Str)] := defIn_mk X G a_fraction_text l_fraction_text c_fraction_text q_fraction_text fun _ _ _ _ _ _ us hl => match us, hl with | [_], _ => rfl
  have D_letter_text : DefIn K mg "letter_text" s_letter_text [("k" : Str)] := defIn_mk X G a_letter_text l_letter_text c_letter_text q_letter_text fun _ _ _ _ _ _ us hl => match us, hl with | [_], _ => rfl
  have D_word_text : DefIn K mg "word_text" s_word_text [("r" : Str), ("k" : Str)] := defIn_mk X G a_word_text l_word_text c_word_text q_word_text fun _ _ _ _ _ _ us hl => match us, hl with | [_, _], _ => rfl
  have D_poly_text : DefIn K mg "poly_text" s_poly_text [("p" : Str)] := defIn_mk X G a_poly_text l_poly_text c_poly_text q_poly_text fun _ _ _ _ _ _ us hl => match us, hl with | [_], _ => rfl
  have D_is_number : DefIn K mg "is_number" s_is_number [("text" : Str)] := defIn_mk X G a_is_number l_is_number c_is_number q_is_number fun _ _ _ _ _ _ us hl => match us, hl with | [_], _ => rfl
  have D_read_fraction : DefIn K mg "read_fraction" s_read_fraction [("text" : Str)] := defIn_mk X G a_read_fraction l_read_fraction c_read_fraction q_read_fraction fun _ _ _ _ _ _ us hl => match us, hl with | [_], _ => rfl
  have D_read_power : DefIn K mg "read_power" s_read_power [("text" : Str)] := defIn_mk X G a_read_power l_read_power c_read_power q_read_power fun _ _ _ _ _ _ us hl => match us, hl with | [_], _ => rfl
  have D_read_words : DefIn K mg "read_words" s_read_words [("words" : Str)] := defIn_mk X G a_read_words l_read_words c_read_words q_read_words fun _ _ _ _ _ _ us hl => match us, hl with | [_], _ => rfl
  have D_parted : DefIn K mg "parted" s_parted [("text" : Str)] := defIn_mk X G a_parted l_parted c_parted q_parted fun _ _ _ _ _ _ us hl => match us, hl with | [_], _ => rfl
  have D_read_poly : DefIn K mg "read_poly" s_read_poly [("text" : Str)] := defIn_mk X G a_read_poly l_read_poly c_read_poly q_read_poly fun _ _ _ _ _ _ us hl => match us, hl with | [_], _ => rfl
  have D_L_flow : DefIn K mg "_law_flow" s_L_flow [("_law_script" : Str)] := defIn_mk X G a_L_flow l_L_flow c_L_flow q_L_flow fun _ _ _ _ _ _ us hl => match us, hl with | [_], _ => rfl
  have D_L_pick : DefIn K mg "_law_pick" s_L_pick [("_law_flow_here" : Str), ("_law_many" : Str)] := defIn_mk X G a_L_pick l_L_pick c_L_pick q_L_pick fun _ _ _ _ _ _ us hl => match us, hl with | [_, _], _ => rfl
  have D_L_alike : DefIn K mg "_law_alike" s_L_alike [("_law_found" : Str), ("_law_due" : Str)] := defIn_mk X G a_L_alike l_L_alike c_L_alike q_L_alike fun _ _ _ _ _ _ us hl => match us, hl with | [_, _], _ => rfl
  have D_L_common : DefIn K mg "_law_common" s_L_common [("_law_a" : Str), ("_law_b" : Str)] := defIn_mk X G a_L_common l_L_common c_L_common q_L_common fun _ _ _ _ _ _ us hl => match us, hl with | [_, _], _ => rfl
  have D_L_fraction : DefIn K mg "_law_fraction" s_L_fraction [("_law_top" : Str), ("_law_bottom" : Str)] := defIn_mk X G a_L_fraction l_L_fraction c_L_fraction q_L_fraction fun _ _ _ _ _ _ us hl => match us, hl with | [_, _], _ => rfl
  have D_L_poly : DefIn K mg "_law_poly" s_L_poly [("_law_tops" : Str), ("_law_bottom" : Str)] := defIn_mk X G a_L_poly l_L_poly c_L_poly q_L_poly fun _ _ _ _ _ _ us hl => match us, hl with | [_, _], _ => rfl
  have D_L_sum : DefIn K mg "_law_sum" s_L_sum [("_law_p" : Str), ("_law_q" : Str)] := defIn_mk X G a_L_sum l_L_sum c_L_sum q_L_sum fun _ _ _ _ _ _ us hl => match us, hl with | [_, _], _ => rfl
  have D_L_number : DefIn K mg "_law_number" s_L_number [("_law_flow_here" : Str), ("_law_most" : Str)] := defIn_mk X G a_L_number l_L_number c_L_number q_L_number fun _ _ _ _ _ _ us hl => match us, hl with | [_, _], _ => rfl
  have D_L_any_poly : DefIn K mg "_law_any_poly" s_L_any_poly [("_law_flow_here" : Str), ("_law_many" : Str), ("_law_most" : Str)] := defIn_mk X G a_L_any_poly l_L_any_poly c_L_any_poly q_L_any_poly fun _ _ _ _ _ _ us hl => match us, hl with | [_, _, _], _ => rfl
  have D_L_fraction_text : DefIn K mg "_law_fraction_text" s_L_fraction_text [("_law_r" : Str)] := defIn_mk X G a_L_fraction_text l_L_fraction_text c_L_fraction_text q_L_fraction_text fun _ _ _ _ _ _ us hl => match us, hl with | [_], _ => rfl
  have D_L_figures : DefIn K mg "_law_figures" s_L_figures [("_law_text" : Str)] := defIn_mk X G a_L_figures l_L_figures c_L_figures q_L_figures fun _ _ _ _ _ _ us hl => match us, hl with | [_], _ => rfl
  have D_L_read_fraction : DefIn K mg "_law_read_fraction" s_L_read_fraction [("_law_text" : Str)] := defIn_mk X G a_L_read_fraction l_L_read_fraction c_L_read_fraction q_L_read_fraction fun _ _ _ _ _ _ us hl => match us, hl with | [_], _ => rfl
  have D_L_letter : DefIn K mg "_law_letter" s_L_letter [("_law_k" : Str)] := defIn_mk X G a_L_letter l_L_letter c_L_letter q_L_letter fun _ _ _ _ _ _ us hl => match us, hl with | [_], _ => rfl
  have D_L_poly_text : DefIn K mg "_law_poly_text" s_L_poly_text [("_law_p" : Str)] := defIn_mk X G a_L_poly_text l_L_poly_text c_L_poly_text q_L_poly_text fun _ _ _ _ _ _ us hl => match us, hl with | [_], _ => rfl
  have D_L_sign : DefIn K mg "_law_sign" s_L_sign [("_law_flow_here" : Str)] := defIn_mk X G a_L_sign l_L_sign c_L_sign q_L_sign fun _ _ _ _ _ _ us hl => match us, hl with | [_], _ => rfl
  have D_L_asked : DefIn K mg "_law_asked" s_L_asked [("_law_way_of" : Str), ("_law_text" : Str)] := defIn_mk X G a_L_asked l_L_asked c_L_asked q_L_asked fun _ _ _ _ _ _ us hl => match us, hl with | [_, _], _ => rfl
  have D_L_read_word : DefIn K mg "_law_read_word" s_L_read_word [("_law_pieces" : Str)] := defIn_mk X G a_L_read_word l_L_read_word c_L_read_word q_L_read_word fun _ _ _ _ _ _ us hl => match us, hl with | [_], _ => rfl
  have D_L_read : DefIn K mg "_law_read" s_L_read [("_law_text" : Str)] := defIn_mk X G a_L_read l_L_read c_L_read q_L_read fun _ _ _ _ _ _ us hl => match us, hl with | [_], _ => rfl
  have D_L_word_otherwise : DefIn K mg "_law_word_otherwise" s_L_word_otherwise [("_law_flow_here" : Str), ("_law_word" : Str)] := defIn_mk X G a_L_word_otherwise l_L_word_otherwise c_L_word_otherwise q_L_word_otherwise fun _ _ _ _ _ _ us hl => match us, hl with | [_, _], _ => rfl
  have D_L_otherwise : DefIn K mg "_law_otherwise" s_L_otherwise [("_law_flow_here" : Str), ("_law_text" : Str)] := defIn_mk X G a_L_otherwise l_L_otherwise c_L_otherwise q_L_otherwise fun _ _ _ _ _ _ us hl => match us, hl with | [_, _], _ => rfl
  refine ⟨PySem.W.fnOf "law" "law" (defArgs s_law) (defBody s_law) (defScope s_law) .none kV_law dc_law pm_law an_law cd_law ct_law, fun s v => .of_eq rfl, fun base _ _ hNS => ?_⟩
  have hNT := And.intro hNS hT
  have fi_BadText := fun_mk (x := "__init__") (qual := "BadText.__init__") (st := si_BadText) lc_BadText dc2_BadText (keep_fn lc_BadText)
  have oe_BadText : OexC K C_BadText := ⟨⟨_, _, _, _, _, _, _, _, _, _, _, _, _, _, _, xc_BadText, rc_BadText⟩, sc_BadText, ec_BadText, tc_BadText, kc_BadText⟩
  have c_BadText : Cls1 l.prog w K mg base "BadText" "at" := cls1_mk g_BadText oe_BadText ic_BadText yc_BadText (ini_BadText fi_BadText oe_BadText nc_BadText) (fi_BadText.binds (ps := [("self" : Str), ("at" : Str)]) fun _ _ _ _ _ _ us hl => match us, hl with | [_, _], _ => rfl)
  have g_NestError := PySem.W.mg_of X G (M.ns ac_NestError)
  have g_NoName := PySem.W.mg_of X G (M.ns ac_NoName)
  have g_NoRow := PySem.W.mg_of X G (M.ns ac_NoRow)
  have g_TooGreat := PySem.W.mg_of X G (M.ns ac_TooGreat)
  have g_Twice := PySem.W.mg_of X G (M.ns ac_Twice)
  have ask : AskK K mg := ⟨C_BadText, C_NestError, C_NoName, C_NoRow, C_TooGreat, C_Twice, g_BadText, g_NestError, g_NoName, g_NoRow, g_TooGreat, g_Twice, ⟨M.find gb_BadText, M.find gh_BadText, ec_BadText, M.dict hb_BadText, M.find cb_BadText, M.special sp_oc, M.takes tk_oc, M.mro mr_BadText⟩, ⟨M.find gb_BadText, M.find gh_BadText, ec_BadText, M.dict hb_BadText⟩, nc_BadText, PySem.W.exm_ref (M.sub be_NestError) (M.dict dd_NestError) (M.typ td_NestError) (M.sub sb_NestError), kit_typ (M.sub vs_BadText), kit_ref (M.dict dd_NoName) (M.typ td_NoName) (M.sub sb_NoName) (fun z => ne_NoName (Value.ref.inj z)), kit_ref (M.dict dd_NoRow) (M.typ td_NoRow) (M.sub sb_NoRow) (fun z => ne_NoRow (Value.ref.inj z)), kit_ref (M.dict dd_TooGreat) (M.typ td_TooGreat) (M.sub sb_TooGreat) (fun z => ne_TooGreat (Value.ref.inj z)), kit_ref (M.dict dd_Twice) (M.typ td_Twice) (M.sub sb_Twice) (fun z => ne_Twice (Value.ref.inj z))⟩
  have k_common_part := k_common_part (P := l.prog) (w := w) (base := base) hNT z_abs D_common_part
  have k_fraction := k_fraction (P := l.prog) (w := w) (base := base) hNT k_common_part D_fraction
  have k_over := k_over (P := l.prog) (w := w) (base := base) hNT z_len z_tuple k_common_part D_over
  have k_poly := k_poly (P := l.prog) (w := w) (base := base) hNT k_over k_common_part D_poly
  have k_fraction_at := k_fraction_at (P := l.prog) (w := w) (base := base) hNT z_len k_fraction D_fraction_at
  have k_fraction_text := k_fraction_text (P := l.prog) (w := w) (base := base) hNT z_str D_fraction_text
  have k_letter_text := k_letter_text (P := l.prog) (w := w) (base := base) hNT D_letter_text
  have k_word_text := k_word_text (P := l.prog) (w := w) (base := base) hNT k_fraction_text k_letter_text D_word_text
  have k_poly_text := k_poly_text (P := l.prog) (w := w) (base := base) hNT z_abs z_int z_len z_range z_reversed k_word_text k_fraction_at D_poly_text
  have k_is_number := k_is_number (P := l.prog) (w := w) (base := base) hNT z_all z_len C_FIGURES C_MOST_FIGURES D_is_number
  have k_read_fraction := k_read_fraction (P := l.prog) (w := w) (base := base) hNT z_int k_fraction_text k_fraction k_is_number c_BadText D_read_fraction
  have k_read_power := k_read_power (P := l.prog) (w := w) (base := base) hNT z_int k_is_number C_MOST_DEGREE D_read_power
  have k_read_words := k_read_words (P := l.prog) (w := w) (base := base) hNT z_len k_read_fraction k_read_power c_BadText D_read_words
  have k_parted := k_parted (P := l.prog) (w := w) (base := base) hNT z_int D_parted
  have k_read_poly := k_read_poly (P := l.prog) (w := w) (base := base) hNT z_len k_poly_text k_poly k_parted k_read_words c_BadText C_MOST_DEGREE D_read_poly
  have k_L_flow := k_L_flow (P := l.prog) (w := w) (base := base) hNT z_list D_L_flow
  have k_L_pick := k_L_pick (P := l.prog) (w := w) (base := base) hNT z_len D_L_pick
  have k_L_alike := fun n => k_L_alike (P := l.prog) (w := w) (base := base) hNT z_all z_bool z_isinstance z_len z_list z_range z_tuple D_L_alike n
  have k_L_common := k_L_common (P := l.prog) (w := w) (base := base) hNT z_abs D_L_common
  have k_L_fraction := k_L_fraction (P := l.prog) (w := w) (base := base) hNT k_L_common D_L_fraction
  have k_L_poly := k_L_poly (P := l.prog) (w := w) (base := base) hNT z_len z_list z_tuple k_L_common D_L_poly
  have k_L_sum := k_L_sum (P := l.prog) (w := w) (base := base) hNT z_enumerate z_len z_max k_L_poly D_L_sum
  have k_L_number := k_L_number (P := l.prog) (w := w) (base := base) hNT k_L_pick D_L_number
  have k_L_any_poly := k_L_any_poly (P := l.prog) (w := w) (base := base) hNT z_int z_range k_L_poly k_L_pick k_L_number D_L_any_poly
  have k_L_fraction_text := k_L_fraction_text (P := l.prog) (w := w) (base := base) hNT z_int z_str D_L_fraction_text
  have k_L_figures := k_L_figures (P := l.prog) (w := w) (base := base) hNT z_len D_L_figures
  have k_L_read_fraction := k_L_read_fraction (P := l.prog) (w := w) (base := base) hNT z_all z_int z_len k_L_common k_L_figures D_L_read_fraction
  have k_L_letter := k_L_letter (P := l.prog) (w := w) (base := base) hNT z_int z_str D_L_letter
  have k_L_poly_text := k_L_poly_text (P := l.prog) (w := w) (base := base) hNT z_abs z_int z_len z_range k_L_letter k_L_fraction_text k_L_fraction D_L_poly_text
  have k_L_sign := k_L_sign (P := l.prog) (w := w) (base := base) hNT z_len k_L_pick D_L_sign
  have k_L_asked := k_L_asked (P := l.prog) (w := w) (base := base) hNT z_ValueError z_isinstance k_read_poly ask D_L_asked
  have k_L_read_word := k_L_read_word (P := l.prog) (w := w) (base := base) hNT z_int z_len k_L_read_fraction k_L_figures D_L_read_word
  have k_L_read := k_L_read (P := l.prog) (w := w) (base := base) hNT z_int z_len z_max z_min z_range k_L_sum k_L_poly k_L_read_word D_L_read
  have k_L_word_otherwise := k_L_word_otherwise (P := l.prog) (w := w) (base := base) hNT z_len k_L_pick D_L_word_otherwise
  have k_L_otherwise := k_L_otherwise (P := l.prog) (w := w) (base := base) hNT z_int z_len k_L_pick k_L_word_otherwise k_L_sign D_L_otherwise
  exact ok_law hNT z_range k_read_poly (k_L_alike 8) k_L_asked k_L_read k_L_pick k_L_otherwise k_L_poly_text k_L_any_poly k_L_flow (fun_mk (st := s_law) l_law c_law q_law) hsem
end K11

open PySem PySem.W PyProof.Rows
set_option maxHeartbeats 0 in
theorem PySem.Challenge.cw_nestwright_k11_texts_of_no_polynomial_holds : PySem.Challenge.rw_nestwright_k11_texts_of_no_polynomial.Holds := by
  w_on; o_law; k_head; (case hw => w_witness2)
  k_fill
  refine NW.walk2 (l := PySem.Challenge.rw_nestwright_k11_texts_of_no_polynomial) (n := 63) (k := 42) (x := "_law_script") (sp := NW.spLaw) rfl (by decide) rfl ⟨rfl, by decide, by decide⟩ (by decide +kernel) (fun w h Y => PySem.W.kIn_of Y) ?F (fun _ _ a ns hl _ hS => ⟨a, ns, rfl, hS, hl, fun _ => rfl⟩)
  case F =>
    intro w mg fa h K' M KX G hmg
    refine' K11.all_mk M KX G rfl hmg K11.hsem ?a_common_part ?l_common_part ?c_common_part ?a_fraction ?l_fraction ?c_fraction ?a_over ?l_over ?c_over ?a_poly ?l_poly ?c_poly ?a_fraction_at ?l_fraction_at ?c_fraction_at ?a_fraction_text ?l_fraction_text ?c_fraction_text ?a_letter_text ?l_letter_text ?c_letter_text ?a_word_text ?l_word_text ?c_word_text ?a_poly_text ?l_poly_text ?c_poly_text ?a_is_number ?l_is_number ?c_is_number ?a_read_fraction ?l_read_fraction ?c_read_fraction ?a_read_power ?l_read_power ?c_read_power ?a_read_words ?l_read_words ?c_read_words ?a_parted ?l_parted ?c_parted ?a_read_poly ?l_read_poly ?c_read_poly ?a_L_flow ?l_L_flow ?c_L_flow ?a_L_pick ?l_L_pick ?c_L_pick ?a_L_alike ?l_L_alike ?c_L_alike ?a_L_common ?l_L_common ?c_L_common ?a_L_fraction ?l_L_fraction ?c_L_fraction ?a_L_poly ?l_L_poly ?c_L_poly ?a_L_sum ?l_L_sum ?c_L_sum ?a_L_number ?l_L_number ?c_L_number ?a_L_any_poly ?l_L_any_poly ?c_L_any_poly ?a_L_fraction_text ?l_L_fraction_text ?c_L_fraction_text ?a_L_figures ?l_L_figures ?c_L_figures ?a_L_read_fraction ?l_L_read_fraction ?c_L_read_fraction ?a_L_letter ?l_L_letter ?c_L_letter ?a_L_poly_text ?l_L_poly_text ?c_L_poly_text ?a_L_sign ?l_L_sign ?c_L_sign ?a_L_asked ?l_L_asked ?c_L_asked ?a_L_read_word ?l_L_read_word ?c_L_read_word ?a_L_read ?l_L_read ?c_L_read ?a_L_word_otherwise ?l_L_word_otherwise ?c_L_word_otherwise ?a_L_otherwise ?l_L_otherwise ?c_L_otherwise ?a_law ?l_law ?c_law ?b_ValueError ?b_abs ?b_all ?b_bool ?b_enumerate ?b_int ?b_isinstance ?b_len ?b_list ?b_max ?b_min ?b_range ?b_reversed ?b_str ?b_tuple ?ac_BadText ?kc_BadText ?ec_BadText ?tc_BadText ?xc_BadText ?sc_BadText ?nc_BadText ?ic_BadText ?yc_BadText ?lc_BadText ?dc2_BadText ?rc_BadText ?ac_NestError ?td_NestError ?dd_NestError ?sb_NestError ?ac_NoName ?td_NoName ?dd_NoName ?sb_NoName ?ac_NoRow ?td_NoRow ?dd_NoRow ?sb_NoRow ?ac_TooGreat ?td_TooGreat ?dd_TooGreat ?sb_TooGreat ?ac_Twice ?td_Twice ?dd_Twice ?sb_Twice ?be_NestError ?gb_BadText ?gh_BadText ?hb_BadText ?cb_BadText ?sp_oc ?tk_oc ?mr_BadText ?vs_BadText ?ne_NoName ?ne_NoRow ?ne_TooGreat ?ne_Twice ?n_FIGURES ?n_MOST_DEGREE ?n_MOST_FIGURES
    (case a_common_part => k_is)
    (case l_common_part => k_is)
    (case c_common_part => k_is)
    (case a_fraction => k_is)
    (case l_fraction => k_is)
    (case c_fraction => k_is)
    (case a_over => k_is)
    (case l_over => k_is)
    (case c_over => k_is)
    (case a_poly => k_is)
    (case l_poly => k_is)
    (case c_poly => k_is)
    (case a_fraction_at => k_is)
    (case l_fraction_at => k_is)
    (case c_fraction_at => k_is)
    (case a_fraction_text => k_is)
    (case l_fraction_text => k_is)
    (case c_fraction_text => k_is)
    (case a_letter_text => k_is)
    (case l_letter_text => k_is)
    (case c_letter_text => k_is)
    (case a_word_text => k_is)
    (case l_word_text => k_is)
    (case c_word_text => k_is)
    (case a_poly_text => k_is)
    (case l_poly_text => k_is)
    (case c_poly_text => k_is)
    (case a_is_number => k_is)
    (case l_is_number => k_is)
    (case c_is_number => k_is)
    (case a_read_fraction => k_is)
    (case l_read_fraction => k_is)
    (case c_read_fraction => k_is)
    (case a_read_power => k_is)
    (case l_read_power => k_is)
    (case c_read_power => k_is)
    (case a_read_words => k_is)
    (case l_read_words => k_is)
    (case c_read_words => k_is)
    (case a_parted => k_is)
    (case l_parted => k_is)
    (case c_parted => k_is)
    (case a_read_poly => k_is)
    (case l_read_poly => k_is)
    (case c_read_poly => k_is)
    (case a_L_flow => k_is)
    (case l_L_flow => k_is)
    (case c_L_flow => k_is)
    (case a_L_pick => k_is)
    (case l_L_pick => k_is)
    (case c_L_pick => k_is)
    (case a_L_alike => k_is)
    (case l_L_alike => k_is)
    (case c_L_alike => k_is)
    (case a_L_common => k_is)
    (case l_L_common => k_is)
    (case c_L_common => k_is)
    (case a_L_fraction => k_is)
    (case l_L_fraction => k_is)
    (case c_L_fraction => k_is)
    (case a_L_poly => k_is)
    (case l_L_poly => k_is)
    (case c_L_poly => k_is)
    (case a_L_sum => k_is)
    (case l_L_sum => k_is)
    (case c_L_sum => k_is)
    (case a_L_number => k_is)
    (case l_L_number => k_is)
    (case c_L_number => k_is)
    (case a_L_any_poly => k_is)
    (case l_L_any_poly => k_is)
    (case c_L_any_poly => k_is)
    (case a_L_fraction_text => k_is)
    (case l_L_fraction_text => k_is)
    (case c_L_fraction_text => k_is)
    (case a_L_figures => k_is)
    (case l_L_figures => k_is)
    (case c_L_figures => k_is)
    (case a_L_read_fraction => k_is)
    (case l_L_read_fraction => k_is)
    (case c_L_read_fraction => k_is)
    (case a_L_letter => k_is)
    (case l_L_letter => k_is)
    (case c_L_letter => k_is)
    (case a_L_poly_text => k_is)
    (case l_L_poly_text => k_is)
    (case c_L_poly_text => k_is)
    (case a_L_sign => k_is)
    (case l_L_sign => k_is)
    (case c_L_sign => k_is)
    (case a_L_asked => k_is)
    (case l_L_asked => k_is)
    (case c_L_asked => k_is)
    (case a_L_read_word => k_is)
    (case l_L_read_word => k_is)
    (case c_L_read_word => k_is)
    (case a_L_read => k_is)
    (case l_L_read => k_is)
    (case c_L_read => k_is)
    (case a_L_word_otherwise => k_is)
    (case l_L_word_otherwise => k_is)
    (case c_L_word_otherwise => k_is)
    (case a_L_otherwise => k_is)
    (case l_L_otherwise => k_is)
    (case c_L_otherwise => k_is)
    (case a_law => k_is)
    (case l_law => k_is)
    (case c_law => k_is)
    (case b_ValueError => k_is)
    (case b_abs => k_is)
    (case b_all => k_is)
    (case b_bool => k_is)
    (case b_enumerate => k_is)
    (case b_int => k_is)
    (case b_isinstance => k_is)
    (case b_len => k_is)
    (case b_list => k_is)
    (case b_max => k_is)
    (case b_min => k_is)
    (case b_range => k_is)
    (case b_reversed => k_is)
    (case b_str => k_is)
    (case b_tuple => k_is)
    (case ac_BadText => k_is)
    (case kc_BadText => k_is)
    (case ec_BadText => k_is)
    (case tc_BadText => k_is)
    (case xc_BadText => k_is)
    (case sc_BadText => k_is)
    (case nc_BadText => k_is)
    (case ic_BadText => k_is)
    (case yc_BadText => k_is)
    (case lc_BadText => k_is)
    (case dc2_BadText => k_is)
    (case ac_NestError => k_is)
    (case td_NestError => k_is)
    (case dd_NestError => k_is)
    (case sb_NestError => k_is)
    (case ac_NoName => k_is)
    (case td_NoName => k_is)
    (case dd_NoName => k_is)
    (case sb_NoName => k_is)
    (case ac_NoRow => k_is)
    (case td_NoRow => k_is)
    (case dd_NoRow => k_is)
    (case sb_NoRow => k_is)
    (case ac_TooGreat => k_is)
    (case td_TooGreat => k_is)
    (case dd_TooGreat => k_is)
    (case sb_TooGreat => k_is)
    (case ac_Twice => k_is)
    (case td_Twice => k_is)
    (case dd_Twice => k_is)
    (case sb_Twice => k_is)
    (case be_NestError => k_is)
    (case gb_BadText => k_is)
    (case gh_BadText => k_is)
    (case hb_BadText => k_is)
    (case cb_BadText => k_is)
    (case sp_oc => k_is)
    (case tk_oc => k_is)
    (case mr_BadText => k_is)
    (case vs_BadText => k_is)
    (case rc_BadText => rfl)
    (case ne_NoName => decide)
    (case ne_NoRow => decide)
    (case ne_TooGreat => decide)
    (case ne_Twice => decide)
    (case n_FIGURES => k_is)
    (case n_MOST_DEGREE => k_is)
    (case n_MOST_FIGURES => k_is)

