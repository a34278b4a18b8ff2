import PyProof.Rows.All
import HandS.ForMost
import HandS.ForExc
import HandS.Wide
import HandS.Rev
import HandS.RevRange
import HandS.Zip
import HandS.Conv
import HandS.IsInst
import HandS.TupAny
import HandS.SortInts
import HandS.TupMul
import KE.GoesMore
import HandS.Iter
import HandS.TryOnly
import HandS.Ends
import PyProof.WalksMore
import KE.SortData
import HandS.Deep
import KE.GoesEnum
import KE.SortKeyHeap
import HandS.SortKw
import HandS.Keys
import KE.DataFind
import HandS.More
import KE.KDictZip
import HandS.RevTup
import HandS.Text
import HandS.FStr
import HandS.StrMore
import HandS.RaiseMore
import HandS.Flt
import HandS.ListItems
import HandS.DictComp
import HandS.Finally
import HandS.ExcInit
import HandS.ExcIs
import HandS.ExcField
import KE.KExcIs
import HandS.Flow
import HandS.CallLocal
import HandS.ExcValue
import HandS.Codes
import PySem.Challenge.RW_nestwright_k08_refusals
set_option Elab.async false
set_option linter.all false
set_option maxRecDepth 100000
set_option maxHeartbeats 4000000
namespace NW
open PySem PySem.Spec PyProof.Rows L2
inductive U where
  | d (x : PyData) | ref (i : Nat) | flow | scr (ns : List Int) | dct (es : List (Key × PyData))
structure Fl where
  cells : List Int
  place : Int
  held : Int
  seed : Int
  many : Int
inductive Ob where
  | lst (xs : List PyData) | dct (es : List (Key × PyData)) | dead
structure Sto where
  fl : Option Fl
  obs : List Ob
structure Exc where
  cls : Str
  fs : List (Str × PyData)
inductive Res (α : Type) where
  | ok (a : α) (s : Sto) | ex (e : Exc) (s : Sto) | no
def Res.bind {α β : Type} (r : Res α) (k : α → Sto → Res β) : Res β := match r with
  | .ok a s => k a s
  | .ex e s => .ex e s
  | .no => .no
abbrev Loc := List (Option U)
abbrev ME := Loc → Sto → Res U
abbrev MB := Loc → Sto → Res Bool
abbrev ML := Loc → Sto → Res (List PyData)
abbrev MA := Loc → Sto → Res (List U)
inductive Out where
  | nx (l : Loc) (s : Sto) | rt (u : U) (s : Sto) | bk (l : Loc) (s : Sto) | ct (l : Loc) (s : Sto) | ex (e : Exc) (l : Loc) (s : Sto) | no
abbrev MS := Loc → Sto → Out
structure Gx where
  K : PySem.W.Frag
  fa : Addr
  fb : Addr
  O0 : Addr → Prop
  cls : Str → Option Addr
  W : Value → Option Addr → L2.St → Hp → Prop
def Own (G : Gx) (β : List Addr) (st : Sto) (p : Addr) : Prop := (st.fl.isSome = true ∧ p = G.fa) ∨ ∃ (i : Nat) (o : Ob), st.obs[i]? = some o ∧ o ≠ Ob.dead ∧ β[i]? = some p
def Ban (G : Gx) (β : List Addr) (st : Sto) (p : Addr) : Prop := G.O0 p ∨ Own G β st p
def SqLB (K : PySem.W.Frag) (B : Addr → Prop) (H : Hp) (a : Addr) (xs : List V) : Prop := H a = some (.lst xs) ∧ ¬ B a
def SqTB (K : PySem.W.Frag) (B : Addr → Prop) (H : Hp) (a : Addr) (xs : List V) : Prop :=
  (Rd H a (.tup xs) ∧ ¬ B a) ∨ ∃ (o : Obj) (its : Array Value) (n : Nat), K.lookup a = some o ∧ o.cls = .type "tuple" ∧ o.data = .seq its n ∧ its.size ≤ sizeLine ∧ Vals xs its.toList
def SqSB (K : PySem.W.Frag) (B : Addr → Prop) (H : Hp) (a : Addr) (xs : List V) : Prop :=
  (Rd H a (.lst xs) ∧ ¬ B a) ∨ ∃ (o : Obj) (its : Array Value) (n : Nat), K.lookup a = some o ∧ o.cls = .type "list" ∧ o.dict = none ∧ o.data = .seq its n ∧ its.size ≤ sizeLine ∧ Vals xs its.toList
theorem SqSB.q {K : PySem.W.Frag} {B : Addr → Prop} {H : Hp} {a : Addr} {xs : List V} (h : SqSB K B H a xs) : SqL K H a xs := h.imp (fun x => x.1) id
theorem SqLB.q {K : PySem.W.Frag} {B : Addr → Prop} {H : Hp} {a : Addr} {xs : List V} (h : SqLB K B H a xs) : SqL K H a xs := .inl (.inl h.1)
theorem SqTB.q {K : PySem.W.Frag} {B : Addr → Prop} {H : Hp} {a : Addr} {xs : List V} (h : SqTB K B H a xs) : SqT K H a xs := h.imp (fun x => x.1) id
mutual
inductive RT (K : PySem.W.Frag) (B : Addr → Prop) (H : Hp) : V → PyData → Prop
  | non : RT K B H .non .none
  | bl (b : Bool) : RT K B H (.bl b) (.bool b)
  | int (i : Int) : RT K B H (.int i) (.int i)
  | str (x : Str) : RT K B H (.str x) (.str x)
  | lst {a : Addr} {xs : List V} {ds : List PyData} : SqLB K B H a xs → RTs K B H xs ds → RT K B H (.ref a) (.list ds)
  | tup {a : Addr} {xs : List V} {ds : List PyData} : SqTB K B H a xs → RTs K B H xs ds → RT K B H (.ref a) (.tuple ds)
inductive RTs (K : PySem.W.Frag) (B : Addr → Prop) (H : Hp) : List V → List PyData → Prop
  | nil : RTs K B H [] []
  | cons {v : V} {vs : List V} {d : PyData} {ds : List PyData} : RT K B H v d → RTs K B H vs ds → RTs K B H (v :: vs) (d :: ds)
end
def Keep (B : Addr → Prop) (H : Hp) (B' : Addr → Prop) (H' : Hp) : Prop := ∀ b o, H b = some o → ¬ B b → H' b = some o ∧ ¬ B' b
theorem Keep.rd {B B' : Addr → Prop} {H H' : Hp} (k : Keep B H B' H') {a : Addr} {u : HO} (h : Rd H a u ∧ ¬ B a) : Rd H' a u ∧ ¬ B' a := by
  obtain ⟨h | ⟨o, h⟩, n⟩ := h
  · have z := k a _ h n; exact ⟨.inl z.1, z.2⟩
  · have z := k a _ h n; exact ⟨.inr ⟨o, z.1⟩, z.2⟩
section
variable {K : PySem.W.Frag} {B B' : Addr → Prop} {H H' : Hp}
mutual
theorem RT.mono (k : Keep B H B' H') : ∀ (d : PyData) (v : V), RT K B H v d → RT K B' H' v d
  | .none, _, h => by cases h; exact .non
  | .bool b, _, h => by cases h; exact .bl b
  | .int i, _, h => by cases h; exact .int i
  | .str x, _, h => by cases h; exact .str x
  | .list ds, _, h => by
    cases h with
    | lst hs ha => exact .lst (k _ _ hs.1 hs.2) (RTs.mono k ds _ ha)
  | .tuple ds, _, h => by
    cases h with
    | tup hs ha => exact .tup (hs.imp (fun z => k.rd z) id) (RTs.mono k ds _ ha)
  | .dict _, _, h => by cases h
theorem RTs.mono (k : Keep B H B' H') : ∀ (ds : List PyData) (vs : List V), RTs K B H vs ds → RTs K B' H' vs ds
  | [], _, h => by cases h; exact .nil
  | d :: ds, _, h => by
    cases h with
    | cons h1 h2 => exact .cons (RT.mono k d _ h1) (RTs.mono k ds _ h2)
end
mutual
theorem RT.dp : ∀ (d : PyData) (v : V), RT K B H v d → Dp K H v d
  | .none, _, h => by cases h; exact .non
  | .bool b, _, h => by cases h; exact .bl b
  | .int i, _, h => by cases h; exact .int i
  | .str x, _, h => by cases h; exact .str x
  | .list ds, _, h => by
    cases h with
    | lst hs ha => exact .lst hs.q (RTs.dp ds _ ha)
  | .tuple ds, _, h => by
    cases h with
    | tup hs ha => exact .tup hs.q (RTs.dp ds _ ha)
  | .dict _, _, h => by cases h
theorem RTs.dp : ∀ (ds : List PyData) (vs : List V), RTs K B H vs ds → DpAll K H vs ds
  | [], _, h => by cases h; exact .nil
  | d :: ds, _, h => by
    cases h with
    | cons h1 h2 => exact .cons (RT.dp d _ h1) (RTs.dp ds _ h2)
end
theorem RTs.len : ∀ {ds : List PyData} {vs : List V}, RTs K B H vs ds → vs.length = ds.length
  | [], _, h => by cases h; rfl
  | d :: ds, _, h => by
    cases h with
    | cons h1 h2 => rw [List.length_cons, List.length_cons, RTs.len h2]
theorem RTs.get : ∀ {ds : List PyData} {vs : List V} {i : Nat} {d : PyData}, RTs K B H vs ds → ds[i]? = some d → ∃ v, vs[i]? = some v ∧ RT K B H v d
  | [], _, _, _, h, e => by simp at e
  | d :: ds, _, 0, _, h, e => by
    cases h with
    | cons h1 h2 => simp at e; subst e; exact ⟨_, rfl, h1⟩
  | d :: ds, _, i + 1, _, h, e => by
    cases h with
    | cons h1 h2 =>
      obtain ⟨v, a, b⟩ := RTs.get (i := i) h2 (by simpa using e)
      exact ⟨v, by simpa using a, b⟩
theorem RTs.append : ∀ {ds es : List PyData} {vs ws : List V}, RTs K B H vs ds → RTs K B H ws es → RTs K B H (vs ++ ws) (ds ++ es)
  | [], _, _, _, h, q => by cases h; exact q
  | d :: ds, _, _, _, h, q => by
    cases h with
    | cons h1 h2 => exact .cons h1 (RTs.append h2 q)
theorem RTs.take : ∀ {ds : List PyData} {vs : List V} (n : Nat), RTs K B H vs ds → RTs K B H (vs.take n) (ds.take n)
  | [], _, n, h => by cases h; simp; exact .nil
  | d :: ds, _, 0, h => by simp; exact .nil
  | d :: ds, _, n + 1, h => by
    cases h with
    | cons h1 h2 => exact .cons h1 (RTs.take n h2)
theorem RTs.drop : ∀ {ds : List PyData} {vs : List V} (n : Nat), RTs K B H vs ds → RTs K B H (vs.drop n) (ds.drop n)
  | [], _, n, h => by cases h; simp; exact .nil
  | d :: ds, _, 0, h => h
  | d :: ds, _, n + 1, h => by
    cases h with
    | cons h1 h2 => exact RTs.drop n h2
theorem RTs.set : ∀ {ds : List PyData} {vs : List V} {v : V} {d : PyData} (n : Nat), RTs K B H vs ds → RT K B H v d → RTs K B H (vs.set n v) (ds.set n d)
  | [], _, _, _, n, h, q => by cases h; exact .nil
  | d :: ds, _, _, _, 0, h, q => by
    cases h with
    | cons h1 h2 => exact .cons q h2
  | d :: ds, _, _, _, n + 1, h, q => by
    cases h with
    | cons h1 h2 => exact .cons h1 (RTs.set n h2 q)
theorem RTs.rev : ∀ {ds : List PyData} {vs : List V}, RTs K B H vs ds → RTs K B H vs.reverse ds.reverse
  | [], _, h => by cases h; exact .nil
  | d :: ds, _, h => by
    cases h with
    | cons h1 h2 => rw [List.reverse_cons, List.reverse_cons]; exact (RTs.rev h2).append (.cons h1 .nil)
theorem RTs.ints : ∀ {ns : List Int} {vs : List V}, RTs K B H vs (ns.map PyData.int) → vs = ns.map V.int
  | [], _, h => by cases h; rfl
  | n :: ns, _, h => by
    cases h with
    | cons h1 h2 => cases h1; rw [RTs.ints h2]; rfl
theorem RTs.bools : ∀ {ns : List Bool} {vs : List V}, RTs K B H vs (ns.map PyData.bool) → vs = ns.map V.bl
  | [], _, h => by cases h; rfl
  | n :: ns, _, h => by
    cases h with
    | cons h1 h2 => cases h1; rw [RTs.bools h2]; rfl
theorem RTs.ofInts : ∀ (ns : List Int), RTs K B H (ns.map V.int) (ns.map PyData.int)
  | [] => .nil
  | n :: ns => .cons (.int n) (RTs.ofInts ns)
mutual
theorem RT.weak (k : ∀ a, B' a → B a) : ∀ (d : PyData) (v : V), RT K B H v d → RT K B' H v d
  | .none, _, h => by cases h; exact .non
  | .bool b, _, h => by cases h; exact .bl b
  | .int i, _, h => by cases h; exact .int i
  | .str x, _, h => by cases h; exact .str x
  | .list ds, _, h => by
    cases h with
    | lst hs ha => exact .lst ⟨hs.1, fun w => hs.2 (k _ w)⟩ (RTs.weak k ds _ ha)
  | .tuple ds, _, h => by
    cases h with
    | tup hs ha => exact .tup (hs.imp (fun z => ⟨z.1, fun w => z.2 (k _ w)⟩) id) (RTs.weak k ds _ ha)
  | .dict _, _, h => by cases h
theorem RTs.weak (k : ∀ a, B' a → B a) : ∀ (ds : List PyData) (vs : List V), RTs K B H vs ds → RTs K B' H vs ds
  | [], _, h => by cases h; exact .nil
  | d :: ds, _, h => by
    cases h with
    | cons h1 h2 => exact .cons (RT.weak k d _ h1) (RTs.weak k ds _ h2)
end
end
def RU (G : Gx) (β : List Addr) (B : Addr → Prop) (H : Hp) (v : V) : U → Prop
  | .d x => RT G.K B H v x
  | .ref i => ∃ p, β[i]? = some p ∧ v = .ref p
  | .flow => v = .ref G.fa
  | .scr ns => ∃ a, v = .ref a ∧ SqSB G.K B H a (ns.map V.int)
  | .dct es => ∃ (a : Addr) (o : Obj) (kvs : List (Key × V)), v = .ref a ∧ (H a = some (.frz o (.dK kvs)) ∧ ¬ B a) ∧ kvs.map (·.1) = es.map (fun e => e.1) ∧ RTs G.K B H (kvs.map (·.2)) (es.map (·.2))
def flV (fb : Addr) (f : Fl) : List V := [.ref fb, .int f.place, .int f.held, .int f.seed, .int f.many]
structure FlR (G : Gx) (B : Addr → Prop) (H : Hp) (f : Fl) : Prop where
  here : H G.fa = some (.lst (flV G.fb f))
  cl : SqLB G.K B H G.fb (f.cells.map V.int)
def ObR (K : PySem.W.Frag) (B : Addr → Prop) (H : Hp) : Ob → HO → Prop
  | .lst xs, h => ∃ vs, h = .lst vs ∧ RTs K B H vs xs
  | .dct es, h => ∃ kvs : List (Key × V), h = .dK kvs ∧ kvs.map (·.1) = es.map (fun e => e.1) ∧ RTs K B H (kvs.map (·.2)) (es.map (·.2))
  | .dead, _ => False
theorem ObR.imp {K : PySem.W.Frag} {B B' : Addr → Prop} {H H' : Hp} (k : ∀ (ds : List PyData) (vs : List V), RTs K B H vs ds → RTs K B' H' vs ds) {o : Ob} {h : HO} (r : ObR K B H o h) : ObR K B' H' o h := by
  cases o with
  | lst xs => obtain ⟨vs, e, q⟩ := r; exact ⟨vs, e, k _ _ q⟩
  | dct es => obtain ⟨kvs, e, e2, q⟩ := r; exact ⟨kvs, e, e2, k _ _ q⟩
  | dead => exact r
theorem ObR.noTup {K : PySem.W.Frag} {B : Addr → Prop} {H : Hp} {o : Ob} {h : HO} (r : ObR K B H o h) (vs : List V) : h ≠ .tup vs := by
  cases o with
  | lst xs => obtain ⟨ws, e, q⟩ := r; rw [e]; intro z; cases z
  | dct es => obtain ⟨kvs, e, e2, q⟩ := r; rw [e]; intro z; cases z
  | dead => exact r.elim
theorem ObR.noFrz {K : PySem.W.Frag} {B : Addr → Prop} {H : Hp} {o : Ob} {h : HO} (r : ObR K B H o h) (x y) : h ≠ .frz x y := by
  cases o with
  | lst xs => obtain ⟨ws, e, q⟩ := r; rw [e]; intro z; cases z
  | dct es => obtain ⟨kvs, e, e2, q⟩ := r; rw [e]; intro z; cases z
  | dead => exact r.elim
structure Rl (G : Gx) (β : List Addr) (H : Hp) (st : Sto) : Prop where
  len : β.length = st.obs.length
  nodup : β.Nodup
  trk : ∀ p ∈ β, H p ≠ none
  oo : ∀ (i : Nat) (o : Ob), st.obs[i]? = some o → o ≠ Ob.dead → ∃ p h, β[i]? = some p ∧ H p = some h ∧ ObR G.K (Ban G β st) H o h
  flo : ∀ f, st.fl = some f → FlR G (Ban G β st) H f ∧ G.fa ∉ β
  o0 : ∀ p, G.O0 p → H p ≠ none ∧ ¬ Own G β st p ∧ ∀ vs, ¬ Rd H p (.tup vs)
theorem Rl.ob {G : Gx} {β : List Addr} {H : Hp} {st : Sto} (rl : Rl G β H st) (i : Nat) (xs : List PyData) (e : st.obs[i]? = some (Ob.lst xs)) : ∃ p vs, β[i]? = some p ∧ H p = some (.lst vs) ∧ RTs G.K (Ban G β st) H vs xs := by
  obtain ⟨p, h, a, b, vs, rfl, c⟩ := rl.oo i _ e (by intro z; cases z)
  exact ⟨p, vs, a, b, c⟩
theorem Rl.od {G : Gx} {β : List Addr} {H : Hp} {st : Sto} (rl : Rl G β H st) (i : Nat) (es : List (Key × PyData)) (e : st.obs[i]? = some (Ob.dct es)) : ∃ (p : Addr) (kvs : List (Key × V)), β[i]? = some p ∧ H p = some (.dK kvs) ∧ kvs.map (·.1) = es.map (fun e => e.1) ∧ RTs G.K (Ban G β st) H (kvs.map (·.2)) (es.map (·.2)) := by
  obtain ⟨p, h, a, b, kvs, rfl, c, d⟩ := rl.oo i _ e (by intro z; cases z)
  exact ⟨p, kvs, a, b, c, d⟩
structure Fut (G : Gx) (β : List Addr) (st : Sto) (H : Hp) (β' : List Addr) (st' : Sto) (H' : Hp) : Prop where
  ext : ∃ γ, β' = β ++ γ ∧ ∀ p ∈ γ, H p = none
  there : ∀ b, H b ≠ none → H' b ≠ none
  stay : ∀ b o, H b = some o → ¬ Own G β st b → H' b = some o ∧ ¬ Own G β' st' b
section
variable {G : Gx} {β β' β'' : List Addr} {st st' st'' : Sto} {H H' H'' : Hp} {v : V} {u : U}
theorem Fut.refl : Fut G β st H β st H := ⟨⟨[], by simp, by simp⟩, fun _ h => h, fun _ _ h n => ⟨h, n⟩⟩
theorem Fut.trans (a : Fut G β st H β' st' H') (b : Fut G β' st' H' β'' st'' H'') : Fut G β st H β'' st'' H'' := by
  refine ⟨?_, fun p h => b.there p (a.there p h), fun p o h n => b.stay p o (a.stay p o h n).1 (a.stay p o h n).2⟩
  obtain ⟨γ, rfl, h1⟩ := a.ext
  obtain ⟨δ, rfl, h2⟩ := b.ext
  refine ⟨γ ++ δ, by rw [List.append_assoc], fun p hp => ?_⟩
  rcases List.mem_append.mp hp with hp | hp
  · exact h1 p hp
  · cases e : H p with
    | none => rfl
    | some o => exact absurd (h2 p hp) (a.there p (by rw [e]; simp))
theorem Fut.keep (a : Fut G β st H β' st' H') : Keep (Ban G β st) H (Ban G β' st') H' := fun b o h n => by
  have z := a.stay b o h (fun w => n (.inr w))
  exact ⟨z.1, fun w => w.elim (fun w => n (.inl w)) z.2⟩
theorem Fut.rt (a : Fut G β st H β' st' H') {d : PyData} (h : RT G.K (Ban G β st) H v d) : RT G.K (Ban G β' st') H' v d := RT.mono a.keep d v h
theorem Fut.rts (a : Fut G β st H β' st' H') {ds : List PyData} {vs : List V} (h : RTs G.K (Ban G β st) H vs ds) : RTs G.K (Ban G β' st') H' vs ds := RTs.mono a.keep ds vs h
theorem Fut.obr (a : Fut G β st H β' st' H') {o : Ob} {h : HO} (r : ObR G.K (Ban G β st) H o h) : ObR G.K (Ban G β' st') H' o h := r.imp fun ds vs q => a.rts q
theorem Fut.get (a : Fut G β st H β' st' H') {i : Nat} {p : Addr} (h : β[i]? = some p) : β'[i]? = some p := by
  obtain ⟨γ, rfl, _⟩ := a.ext
  rw [List.getElem?_append_left (List.getElem?_eq_some_iff.mp h).1]; exact h
theorem Fut.ru (a : Fut G β st H β' st' H') (h : RU G β (Ban G β st) H v u) : RU G β' (Ban G β' st') H' v u := by
  cases u with
  | d x => exact a.rt h
  | ref i => obtain ⟨p, h1, h2⟩ := h; exact ⟨p, a.get h1, h2⟩
  | flow => exact h
  | scr ns =>
    obtain ⟨p, h1, h2⟩ := h
    exact ⟨p, h1, h2.imp (fun z => a.keep.rd z) id⟩
  | dct es =>
    obtain ⟨p, o, kvs, h1, h2, h3, h4⟩ := h
    exact ⟨p, o, kvs, h1, a.keep _ _ h2.1 h2.2, h3, a.rts h4⟩
end
structure RLoc (G : Gx) (β : List Addr) (B : Addr → Prop) (H : Hp) (σ : L2.St) (l : Loc) : Prop where
  len : σ.length = l.length
  at_ : ∀ (i : Nat) (u : U), l[i]? = some (some u) → ∃ v, σ[i]? = some (some v) ∧ RU G β B H v u
def ExR (G : Gx) (B : Addr → Prop) (H : Hp) (e : Exc) (cv : Value) (dx : Option Addr) : Prop :=
  ∃ C, G.cls e.cls = some C ∧ cv = .ref C ∧ (match e.fs with
    | [] => dx = none
    | fs => ∃ d vs, dx = some d ∧ H d = some (.xd vs) ∧ ¬ B d ∧ vs.map (·.1) = fs.map (·.1) ∧ RTs G.K B H (vs.map (·.2)) (fs.map (·.2)))
section
variable {G : Gx} {β β' : List Addr} {st st' : Sto} {H H' : Hp} {σ : L2.St} {l : Loc}
theorem Fut.rloc (a : Fut G β st H β' st' H') (h : RLoc G β (Ban G β st) H σ l) : RLoc G β' (Ban G β' st') H' σ l := ⟨h.len, fun i u e => by
  obtain ⟨v, h1, h2⟩ := h.at_ i u e
  exact ⟨v, h1, a.ru h2⟩⟩
end
structure Re (G : Gx) (β : List Addr) (H : Hp) (σ : L2.St) (l : Loc) (st : Sto) : Prop where
  rl : Rl G β H st
  lo : RLoc G β (Ban G β st) H σ l
theorem Fut.re {G : Gx} {β β' : List Addr} {st st' : Sto} {H H' : Hp} {σ : L2.St} {l : Loc} (a : Fut G β st H β' st' H') (r : Rl G β' H' st') (h : Re G β H σ l st) : Re G β' H' σ l st' := ⟨r, a.rloc h.lo⟩
def wpR {α γ : Type} (G : Gx) (β : List Addr) (H : Hp) (σ : L2.St) (st : Sto) (P : List Addr → Sto → Hp → γ → α → Prop) (r : Res α) (Q : γ → Hp → Prop) : Prop := match r with
  | .ok a st' => ∀ v H' β', Fut G β st H β' st' H' → Rl G β' H' st' → P β' st' H' v a → Q v H'
  | .ex e st' => ∀ cv dx H' β', Fut G β st H β' st' H' → Rl G β' H' st' → ExR G (Ban G β' st') H' e cv dx → G.W cv dx σ H'
  | .no => False
def PU (G : Gx) : List Addr → Sto → Hp → V → U → Prop := fun β st H v u => RU G β (Ban G β st) H v u
def PUs (G : Gx) : List Addr → Sto → Hp → List V → List U → Prop := fun β st H vs us => Paired (fun v u => RU G β (Ban G β st) H v u) vs us
def PB : List Addr → Sto → Hp → Bool → Bool → Prop := fun _ _ _ a b => a = b
def SimE (G : Gx) (t : TE) (m : ME) : Prop := ∀ β H σ l st, Re G β H σ l st → ∀ Q, wpR G β H σ st (PU G) (m l st) Q → t σ H Q
def SimA (G : Gx) (t : TA) (m : MA) : Prop := ∀ β H σ l st, Re G β H σ l st → ∀ Q, wpR G β H σ st (PUs G) (m l st) Q → t σ H Q
def SimT (G : Gx) (t : TT) (m : MB) : Prop := ∀ β H σ l st, Re G β H σ l st → ∀ Q, wpR G β H σ st PB (m l st) Q → t σ H Q
section
variable {G : Gx}
theorem wpR_bind {α δ γ ε : Type} {β : List Addr} {H : Hp} {σ : L2.St} {st : Sto} {P : List Addr → Sto → Hp → γ → α → Prop} {P' : List Addr → Sto → Hp → ε → δ → Prop} {r : Res α} {k : α → Sto → Res δ} {Q : ε → Hp → Prop}
    (h : wpR G β H σ st P' (r.bind k) Q) {R : γ → Hp → Prop} (hk : ∀ v a H' β' st', Fut G β st H β' st' H' → Rl G β' H' st' → P β' st' H' v a → wpR G β' H' σ st' P' (k a st') Q → R v H') : wpR G β H σ st P r R := by
  cases r with
  | ok a st' =>
    intro v H' β' f rl p
    refine hk v a H' β' st' f rl p ?_
    have h' : wpR G β H σ st P' (k a st') Q := h
    cases e : k a st' with
    | ok b st'' => rw [e] at h'; exact fun v' H'' β'' f' rl' p' => h' v' H'' β'' (f.trans f') rl' p'
    | ex x st'' => rw [e] at h'; exact fun cv dx H'' β'' f' rl' p' => h' cv dx H'' β'' (f.trans f') rl' p'
    | no => rw [e] at h'; exact h'
  | ex e st' => exact h
  | no => exact h
theorem wpR_ok {α γ : Type} {β : List Addr} {H : Hp} {σ : L2.St} {st : Sto} {P : List Addr → Sto → Hp → γ → α → Prop} {a : α} {Q : γ → Hp → Prop} {v : γ} (rl : Rl G β H st) (p : P β st H v a) (h : wpR G β H σ st P (.ok a st) Q) : Q v H :=
  h v H β Fut.refl rl p
theorem wpR_d {β : List Addr} {H : Hp} {σ : L2.St} {st : Sto} {v : V} {x : PyData} {Q : VK} (rl : Rl G β H st) (p : RT G.K (Ban G β st) H v x) (h : wpR G β H σ st (PU G) (.ok (.d x) st) Q) : Q v H := h v H β Fut.refl rl p
theorem wpR_u {β : List Addr} {H : Hp} {σ : L2.St} {st : Sto} {v : V} {u : U} {Q : VK} (rl : Rl G β H st) (p : RU G β (Ban G β st) H v u) (h : wpR G β H σ st (PU G) (.ok u st) Q) : Q v H := h v H β Fut.refl rl p
def eVar (i : Nat) : ME := fun l st => match l[i]? with
  | some (some u) => .ok u st
  | _ => .no
theorem s_var (i : Nat) : SimE G (tVar i) (eVar i) := fun β H σ l st re Q h => by
  unfold eVar at h
  split at h
  · rename_i u e
    obtain ⟨v, h1, h2⟩ := re.lo.at_ i u e
    exact ⟨v, h1, wpR_ok re.rl h2 h⟩
  · exact h.elim
def eC (x : PyData) : ME := fun _ st => .ok (.d x) st
theorem s_c {v : V} {x : PyData} (hx : ∀ B H, RT G.K B H v x) : SimE G (tC v) (eC x) := fun β H σ l st re Q h => wpR_d re.rl (hx _ _) h
theorem s_int (i : Int) : SimE G (tC (.int i)) (eC (.int i)) := s_c fun _ _ => .int i
theorem s_bl (b : Bool) : SimE G (tC (.bl b)) (eC (.bool b)) := s_c fun _ _ => .bl b
theorem s_str (z : Str) : SimE G (tC (.str z)) (eC (.str z)) := s_c fun _ _ => .str z
def SimR (G : Gx) (r : R2) (f : U → U → Sto → Res U) : Prop := ∀ β H σ l st, Re G β H σ l st → ∀ x y a b Q, RU G β (Ban G β st) H x a → RU G β (Ban G β st) H y b → wpR G β H σ st (PU G) (f a b st) Q → r x y H Q
def eOp (f : U → U → Sto → Res U) (a b : ME) : ME := fun l st => (a l st).bind fun x st => (b l st).bind fun y st => f x y st
theorem s_op {r : R2} {f : U → U → Sto → Res U} {ta tb : TE} {a b : ME} (hr : SimR G r f) (ha : SimE G ta a) (hb : SimE G tb b) : SimE G (tOp r ta tb) (eOp f a b) := fun β H σ l st re Q h => by
  refine ha β H σ l st re _ (wpR_bind h fun v x H1 β1 st1 f1 rl1 p1 h1 => ?_)
  have re1 := f1.re rl1 re
  refine hb β1 H1 σ l st1 re1 _ (wpR_bind h1 fun w y H2 β2 st2 f2 rl2 p2 h2 => ?_)
  exact hr β2 H2 σ l st2 (f2.re rl2 re1) v w x y Q (f2.ru p1) p2 h2
def oI (C : Int → Int → Bool) (g : Int → Int → PyData) : U → U → Sto → Res U := fun a b st => match a, b with
  | .d (.int i), .d (.int j) => if C i j then .ok (.d (g i j)) st else .no
  | _, _ => .no
def oI0 (g : Int → Int → PyData) : U → U → Sto → Res U := fun a b st => match a, b with
  | .d (.int i), .d (.int j) => .ok (.d (g i j)) st
  | _, _ => .no
theorem ru_int {β : List Addr} {B : Addr → Prop} {H : Hp} {v : V} {i : Int} (h : RU G β B H v (.d (.int i))) : v = .int i := by cases h; rfl
theorem ru_bool {β : List Addr} {B : Addr → Prop} {H : Hp} {v : V} {i : Bool} (h : RU G β B H v (.d (.bool i))) : v = .bl i := by cases h; rfl
theorem ru_str {β : List Addr} {B : Addr → Prop} {H : Hp} {v : V} {i : Str} (h : RU G β B H v (.d (.str i))) : v = .str i := by cases h; rfl
theorem r_I {C : Int → Int → Prop} {c : Int → Int → Bool} {g : Int → Int → V} {g' : Int → Int → PyData} (hc : ∀ i j, c i j = true → C i j) (hg : ∀ i j B H, RT G.K B H (g i j) (g' i j)) : SimR G (rI C g) (oI c g') := fun β H σ l st re x y a b Q hx hy h => by
  unfold oI at h
  split at h
  · rename_i i j
    cases ru_int hx; cases ru_int hy
    split at h
    · rename_i q
      exact ⟨i, j, rfl, rfl, hc i j q, wpR_d re.rl (hg i j _ _) h⟩
    · exact h.elim
  · exact h.elim
theorem r_I0 {g : Int → Int → V} {g' : Int → Int → PyData} (hg : ∀ i j B H, RT G.K B H (g i j) (g' i j)) : SimR G (rI0 g) (oI0 g') := fun β H σ l st re x y a b Q hx hy h => by
  unfold oI0 at h
  split at h
  · rename_i i j
    cases ru_int hx; cases ru_int hy
    exact ⟨i, j, rfl, rfl, wpR_d re.rl (hg i j _ _) h⟩
  · exact h.elim
end
end NW
namespace NW
open PySem PySem.Spec PyProof.Rows L2
section
variable {G : Gx} {β β' : List Addr} {st st' : Sto} {H H' : Hp} {v : V} {u : U} {σ : L2.St} {l : Loc}
theorem Rl.notBan (rl : Rl G β H st) {p : Addr} (hp : H p = none) : ¬ Ban G β st p := by
  rintro (h | ⟨hf, rfl⟩ | ⟨i, xs, h1, nd, h2⟩)
  · exact (rl.o0 p h).1 hp
  · obtain ⟨f, hf⟩ := Option.isSome_iff_exists.mp hf
    obtain ⟨⟨a, _⟩, _⟩ := rl.flo f hf
    rw [hp] at a; cases a
  · obtain ⟨q, vs, a, b, _⟩ := rl.oo i xs h1 nd
    rw [h2] at a; cases a; rw [hp] at b; cases b
theorem Fut.new {p : Addr} {o : HO} (hp : H p = none) : Fut G β st H β st (upd H p o) :=
  ⟨⟨[], by simp, by simp⟩, fun b h => by
    by_cases e : b = p
    · subst e; rw [upd_same]; simp
    · rw [upd_ne e]; exact h, fun b o' h n => ⟨by rw [upd_ne (ne_of_none h hp)]; exact h, n⟩⟩
theorem SqLB.fut (a : Fut G β st H β' st' H') {K : PySem.W.Frag} {p : Addr} {xs : List V} (h : SqLB K (Ban G β st) H p xs) : SqLB K (Ban G β' st') H' p xs := a.keep p _ h.1 h.2
theorem Rl.o0_fut (rl : Rl G β H st) (f : Fut G β st H β' st' H') (q : Addr) (hq : G.O0 q) (n : ¬ Own G β' st' q) : H' q ≠ none ∧ ¬ Own G β' st' q ∧ ∀ vs, ¬ Rd H' q (.tup vs) := by
  obtain ⟨a, b, c⟩ := rl.o0 q hq
  refine ⟨f.there q a, n, fun vs h => ?_⟩
  cases e : H q with
  | none => exact a e
  | some o =>
    have z := (f.stay q o e b).1
    refine c vs ?_
    unfold Rd at h ⊢
    rw [z] at h; rw [e]; exact h
theorem Rl.banNoTup (rl : Rl G β H st) {p : Addr} (h : Ban G β st p) (vs : List V) : ¬ Rd H p (.tup vs) := by
  rcases h with h | ⟨hf, rfl⟩ | ⟨i, xs, h1, nd, h2⟩
  · exact (rl.o0 p h).2.2 vs
  · obtain ⟨f, hf⟩ := Option.isSome_iff_exists.mp hf
    obtain ⟨⟨a, _⟩, _⟩ := rl.flo f hf
    rintro (z | ⟨o, z⟩) <;> (rw [a] at z; cases z)
  · obtain ⟨q, ws, a, b, c⟩ := rl.oo i xs h1 nd
    rw [h2] at a; cases a
    rintro (z | ⟨o, z⟩)
    · rw [b] at z; exact c.noTup _ (Option.some.inj z)
    · rw [b] at z; exact c.noFrz _ _ (Option.some.inj z)
theorem Rl.new (rl : Rl G β H st) {p : Addr} {o : HO} (hp : H p = none) : Rl G β (upd H p o) st := by
  have f : Fut G β st H β st (upd H p o) := Fut.new hp
  refine ⟨rl.len, rl.nodup, fun q hq => f.there q (rl.trk q hq), fun i xs h nd => ?_, fun g hg => ?_, fun q hq => rl.o0_fut f q hq (rl.o0 q hq).2.1⟩
  · obtain ⟨q, vs, a, b, c⟩ := rl.oo i xs h nd
    exact ⟨q, vs, a, by rw [upd_ne (ne_of_none b hp)]; exact b, f.obr c⟩
  · obtain ⟨⟨a, b⟩, c⟩ := rl.flo g hg
    exact ⟨⟨by rw [upd_ne (ne_of_none a hp)]; exact a, b.fut f⟩, c⟩
def Sto.addO (st : Sto) (o : Ob) : Sto := { st with obs := st.obs ++ [o] }
def Sto.add (st : Sto) (xs : List PyData) : Sto := { st with obs := st.obs ++ [.lst xs] }
theorem Own.addO {p q : Addr} {o : Ob} (ho : o ≠ .dead) (hl : β.length = st.obs.length) : Own G (β ++ [p]) (st.addO o) q ↔ Own G β st q ∨ q = p := by
  unfold Own Sto.addO
  constructor
  · rintro (h | ⟨i, ys, h1, nd, h2⟩)
    · exact .inl (.inl h)
    · by_cases hi : i < st.obs.length
      · rw [List.getElem?_append_left hi] at h1
        rw [List.getElem?_append_left (by omega)] at h2
        exact .inl (.inr ⟨i, ys, h1, nd, h2⟩)
      · have e : i = st.obs.length := by
          have := (List.getElem?_eq_some_iff.mp h1).1
          simp at this; omega
        subst e
        rw [← hl, List.getElem?_append_right (Nat.le_refl _)] at h2
        simp at h2; exact .inr h2.symm
  · rintro ((h | ⟨i, ys, h1, nd, h2⟩) | h)
    · exact .inl h
    · exact .inr ⟨i, ys, by rw [List.getElem?_append_left (List.getElem?_eq_some_iff.mp h1).1]; exact h1, nd, by rw [List.getElem?_append_left (List.getElem?_eq_some_iff.mp h2).1]; exact h2⟩
    · subst h
      exact .inr ⟨st.obs.length, o, by simp, ho, by rw [← hl]; simp⟩
theorem Own.add {p q : Addr} {xs : List PyData} (hl : β.length = st.obs.length) : Own G (β ++ [p]) (st.add xs) q ↔ Own G β st q ∨ q = p := Own.addO (o := .lst xs) (by intro z; cases z) hl
theorem add_ownO (rl : Rl G β H st) {p : Addr} {h0 : HO} {o : Ob} (ho : o ≠ .dead) (hp : H p = none) (r : ObR G.K (Ban G β st) H o h0) :
    Fut G β st H (β ++ [p]) (st.addO o) (upd H p h0) ∧ Rl G (β ++ [p]) (upd H p h0) (st.addO o) := by
  have fO : Fut G β st H (β ++ [p]) (st.addO o) (upd H p h0) := by
    refine ⟨⟨[p], rfl, by simp [hp]⟩, (Fut.new (G := G) (β := β) (st := st) (o := h0) hp).there, fun b o' h n => ⟨by rw [upd_ne (ne_of_none h hp)]; exact h, fun w => ?_⟩⟩
    rcases (Own.addO ho rl.len).mp w with w | w
    · exact n w
    · subst w; rw [hp] at h; cases h
  refine ⟨fO, by simp [Sto.addO, rl.len], ?_, fun q hq => ?_, fun i ys h nd => ?_, fun g hg => ?_, fun q hq => rl.o0_fut fO q hq fun w => ?_⟩
  · rw [List.nodup_append]
    refine ⟨rl.nodup, by simp, fun a ha b hb e => ?_⟩
    have hb' : b = p := by simpa using hb
    subst e hb'
    exact rl.trk _ ha hp
  · rcases List.mem_append.mp hq with w | w
    · exact fO.there q (rl.trk q w)
    · have w' : q = p := by simpa using w
      rw [w', upd_same]; simp
  · unfold Sto.addO at h
    by_cases hi : i < st.obs.length
    · rw [List.getElem?_append_left hi] at h
      obtain ⟨q, ws, a, b, c⟩ := rl.oo i ys h nd
      exact ⟨q, ws, by rw [List.getElem?_append_left (List.getElem?_eq_some_iff.mp a).1]; exact a, by rw [upd_ne (ne_of_none b hp)]; exact b, fO.obr c⟩
    · have e : i = st.obs.length := by
        have := (List.getElem?_eq_some_iff.mp h).1
        simp at this; omega
      subst e
      simp at h; subst h
      exact ⟨p, h0, by rw [← rl.len]; simp, upd_same, fO.obr r⟩
  · obtain ⟨⟨a, b⟩, c⟩ := rl.flo g hg
    refine ⟨⟨by rw [upd_ne (ne_of_none a hp)]; exact a, b.fut fO⟩, fun w => ?_⟩
    rcases List.mem_append.mp w with w | w
    · exact c w
    · have w' : G.fa = p := by simpa using w
      rw [w', hp] at a; cases a
  · rcases (Own.addO ho rl.len).mp w with w | w
    · exact (rl.o0 q hq).2.1 w
    · subst w; exact (rl.o0 _ hq).1 hp
theorem add_own (rl : Rl G β H st) {p : Addr} {vs : List V} {xs : List PyData} (hp : H p = none) (r : RTs G.K (Ban G β st) H vs xs) :
    Fut G β st H (β ++ [p]) (st.add xs) (upd H p (.lst vs)) ∧ Rl G (β ++ [p]) (upd H p (.lst vs)) (st.add xs) := add_ownO rl (o := .lst xs) (by intro z; cases z) hp ⟨vs, rfl, r⟩
theorem ix_inj {β : List Addr} (n : β.Nodup) {i j : Nat} {p : Addr} (h : β[i]? = some p) (h' : β[j]? = some p) : i = j := by
  obtain ⟨h1, e1⟩ := List.getElem?_eq_some_iff.mp h
  obtain ⟨h2, e2⟩ := List.getElem?_eq_some_iff.mp h'
  exact (List.getElem_inj n).mp (e1.trans e2.symm)
def Sto.putO (st : Sto) (i : Nat) (o : Ob) : Sto := { st with obs := st.obs.set i o }
def Sto.put (st : Sto) (i : Nat) (xs : List PyData) : Sto := { st with obs := st.obs.set i (.lst xs) }
theorem Own.putO {i : Nat} {o o' : Ob} {q : Addr} (h : st.obs[i]? = some o) (n : o ≠ .dead) (n' : o' ≠ .dead) : Own G β (st.putO i o') q ↔ Own G β st q := by
  unfold Own Sto.putO
  have hi := (List.getElem?_eq_some_iff.mp h).1
  constructor
  · rintro (h' | ⟨j, zs, h1, nd, h2⟩)
    · exact .inl h'
    · by_cases e : j = i
      · subst e; exact .inr ⟨j, o, h, n, h2⟩
      · exact .inr ⟨j, zs, by simpa [List.getElem?_set_ne (Ne.symm e)] using h1, nd, h2⟩
  · rintro (h' | ⟨j, zs, h1, nd, h2⟩)
    · exact .inl h'
    · by_cases e : j = i
      · subst e; exact .inr ⟨j, o', by simp [hi], n', h2⟩
      · exact .inr ⟨j, zs, by simpa [List.getElem?_set_ne (Ne.symm e)] using h1, nd, h2⟩
theorem Own.put {i : Nat} {xs ys : List PyData} {q : Addr} (h : st.obs[i]? = some (.lst xs)) : Own G β (st.put i ys) q ↔ Own G β st q := Own.putO (o' := .lst ys) h (by intro z; cases z) (by intro z; cases z)
theorem put_ownO (rl : Rl G β H st) {i : Nat} {p : Addr} {o o' : Ob} {h0 : HO} (h : st.obs[i]? = some o) (n : o ≠ .dead) (n' : o' ≠ .dead) (hp : β[i]? = some p) (r : ObR G.K (Ban G β st) H o' h0) :
    Fut G β st H β (st.putO i o') (upd H p h0) ∧ Rl G β (upd H p h0) (st.putO i o') := by
  have op : Own G β st p := .inr ⟨i, o, h, n, hp⟩
  have hi := (List.getElem?_eq_some_iff.mp h).1
  have fO : Fut G β st H β (st.putO i o') (upd H p h0) := by
    refine ⟨⟨[], by simp, by simp⟩, fun b hb => ?_, fun b o' h' n1 => ?_⟩
    · by_cases e : b = p
      · rw [e, upd_same]; simp
      · rw [upd_ne e]; exact hb
    · have e : b ≠ p := fun e => n1 (e ▸ op)
      exact ⟨by rw [upd_ne e]; exact h', fun w => n1 ((Own.putO h n n').mp w)⟩
  refine ⟨fO, by simp [Sto.putO, rl.len], rl.nodup, fun q hq => fO.there q (rl.trk q hq), fun j zs h' nd => ?_, fun g hg => ?_, fun q hq => rl.o0_fut fO q hq fun w => (rl.o0 q hq).2.1 ((Own.putO h n n').mp w)⟩
  · by_cases e : j = i
    · subst e
      simp [Sto.putO, hi] at h'; subst h'
      exact ⟨p, h0, hp, upd_same, fO.obr r⟩
    · obtain ⟨q, ws, a, b, c⟩ := rl.oo j zs (by simpa [Sto.putO, List.getElem?_set_ne (Ne.symm e)] using h') nd
      have ne : q ≠ p := fun z => e (ix_inj rl.nodup a (z ▸ hp))
      exact ⟨q, ws, a, by rw [upd_ne ne]; exact b, fO.obr c⟩
  · obtain ⟨⟨a, b⟩, c⟩ := rl.flo g hg
    have ne : G.fa ≠ p := fun z => c (z ▸ List.mem_of_getElem? hp)
    exact ⟨⟨by rw [upd_ne ne]; exact a, b.fut fO⟩, c⟩
theorem put_own (rl : Rl G β H st) {i : Nat} {p : Addr} {xs ys : List PyData} {vs : List V} (h : st.obs[i]? = some (.lst xs)) (hp : β[i]? = some p) (r : RTs G.K (Ban G β st) H vs ys) :
    Fut G β st H β (st.put i ys) (upd H p (.lst vs)) ∧ Rl G β (upd H p (.lst vs)) (st.put i ys) := put_ownO rl (o' := .lst ys) h (by intro z; cases z) (by intro z; cases z) hp ⟨vs, rfl, r⟩
theorem own_fl {f f' : Fl} (h : st.fl = some f) (p : Addr) : Own G β { st with fl := some f' } p ↔ Own G β st p := by
  unfold Own
  rw [h]
  exact Iff.rfl
theorem flow_end (rl : Rl G β H st) {f f' : Fl} (hf : st.fl = some f) (k : ∀ b o, H b = some o → b ≠ G.fa → H' b = some o) (h1 : H' G.fa = some (.lst (flV G.fb f'))) (hc : f'.cells = f.cells) :
    Fut G β st H β { st with fl := some f' } H' ∧ Rl G β H' { st with fl := some f' } := by
  obtain ⟨⟨a, b⟩, c⟩ := rl.flo f hf
  have ofa : Own G β st G.fa := .inl ⟨by rw [hf]; rfl, rfl⟩
  have hne : G.fb ≠ G.fa := fun e => b.2 (.inr (e ▸ ofa))
  have fu : Fut G β st H β { st with fl := some f' } H' := by
    refine ⟨⟨[], by simp, by simp⟩, fun b hb => ?_, fun b o h n => ⟨k b o h fun e => n (e ▸ ofa), fun w => n ((own_fl hf b).mp w)⟩⟩
    by_cases e : b = G.fa
    · rw [e, h1]; simp
    · cases e2 : H b with
      | none => exact absurd e2 hb
      | some o => rw [k b o e2 e]; simp
  refine ⟨fu, rl.len, rl.nodup, fun q hq => fu.there q (rl.trk q hq), fun i xs h nd => ?_, fun g hg => ?_, fun q hq => rl.o0_fut fu q hq fun w => (rl.o0 q hq).2.1 ((own_fl hf q).mp w)⟩
  · obtain ⟨q, vs, a', b', c'⟩ := rl.oo i xs h nd
    exact ⟨q, vs, a', k _ _ b' (fun e => c (e ▸ List.mem_of_getElem? a')), fu.obr c'⟩
  · cases hg
    refine ⟨⟨h1, ?_⟩, c⟩
    rw [hc]
    exact b.fut fu
def listOf (st : Sto) : U → Option (List PyData)
  | .d (.list xs) => some xs
  | .ref i => match st.obs[i]? with | some (.lst xs) => some xs | _ => none
  | _ => none
def tupOf : U → Option (List PyData)
  | .d (.tuple xs) => some xs
  | _ => none
def toTree (st : Sto) (u : U) : Option PyData := match u with
  | .d x => some x
  | .ref i => match st.obs[i]? with | some (.lst xs) => some (.list xs) | _ => none
  | .flow => none
  | .scr _ => none
  | .dct _ => none
theorem list_q (rl : Rl G β H st) (h : RU G β (Ban G β st) H v u) {xs : List PyData} (e : listOf st u = some xs) : ∃ p vs, v = .ref p ∧ SqL G.K H p vs ∧ RTs G.K (Ban G β st) H vs xs := by
  unfold listOf at e
  split at e
  · cases e
    cases h with
    | lst a b => exact ⟨_, _, rfl, a.q, b⟩
  · rename_i i
    split at e
    · rename_i hy
      cases e
      obtain ⟨p, h1, rfl⟩ := h
      obtain ⟨q, vs, a, b, c⟩ := rl.ob i _ hy
      rw [h1] at a; cases a
      exact ⟨p, vs, rfl, SqL.of b, c⟩
    · cases e
  · cases e
theorem tup_q (h : RU G β (Ban G β st) H v u) {xs : List PyData} (e : tupOf u = some xs) : ∃ p vs, v = .ref p ∧ SqT G.K H p vs ∧ RTs G.K (Ban G β st) H vs xs := by
  unfold tupOf at e
  split at e
  · cases e
    cases h with
    | tup a b => exact ⟨_, _, rfl, a.q, b⟩
  · cases e
theorem tree_dp (rl : Rl G β H st) (h : RU G β (Ban G β st) H v u) {x : PyData} (e : toTree st u = some x) : Dp G.K H v x := by
  cases u with
  | d y => cases e; exact RT.dp _ _ h
  | flow => cases e
  | scr ns => cases e
  | dct es => cases e
  | ref i =>
    simp only [toTree] at e
    split at e
    · rename_i ys hy
      cases e
      obtain ⟨p, h1, rfl⟩ := h
      obtain ⟨q, vs, a, b, c⟩ := rl.ob i ys hy
      rw [h1] at a; cases a
      exact .lst (SqL.of b) (RTs.dp _ _ c)
    · cases e
def opEq (neg : Bool) : U → U → Sto → Res U := fun a b st => match toTree st a, toTree st b with
  | some x, some y => if (SeqAt.shaped x && SeqAt.shaped y) = true then .ok (.d (.bool (if neg then !PyData.eqv x y else PyData.eqv x y))) st else .no
  | _, _ => .no
theorem r_eq : SimR G (rEqD G.K) (opEq false) := fun β H σ l st re x y a b Q hx hy h => by
  unfold opEq at h
  split at h
  · rename_i d e h1 h2
    split at h
    · rename_i q
      rw [Bool.and_eq_true] at q
      exact ⟨d, e, tree_dp re.rl hx h1, tree_dp re.rl hy h2, q.1, q.2, wpR_d re.rl (.bl _) h⟩
    · exact h.elim
  · exact h.elim
theorem r_ne : SimR G (rNeD G.K) (opEq true) := fun β H σ l st re x y a b Q hx hy h => by
  unfold opEq at h
  split at h
  · rename_i d e h1 h2
    split at h
    · rename_i q
      rw [Bool.and_eq_true] at q
      exact ⟨d, e, tree_dp re.rl hx h1, tree_dp re.rl hy h2, q.1, q.2, wpR_d re.rl (.bl _) h⟩
    · exact h.elim
  · exact h.elim
def fSub : U → U → Sto → Res U := oI0 fun i j => .int (i - j)
def mulC (i j : Int) : Bool := decide (i.natAbs.log2 + j.natAbs.log2 < 1000000)
def fMod : U → U → Sto → Res U := oI (fun _ j => decide (j ≠ 0)) fun i j => .int (i.fmod j)
def divC (_ j : Int) : Bool := decide (j ≠ 0)
def fDiv : U → U → Sto → Res U := oI divC fun i j => .int (i.fdiv j)
def fPow : U → U → Sto → Res U := oI (fun i j => decide (0 ≤ j ∧ j ≤ 1000000 ∧ i.natAbs < 2 ^ 64)) fun i j => .int (i ^ j.toNat)
def fLt : U → U → Sto → Res U := oI0 fun i j => .bool (decide (i < j))
def fLe : U → U → Sto → Res U := oI0 fun i j => .bool (decide (i ≤ j))
def fGt : U → U → Sto → Res U := oI0 fun i j => .bool (decide (j < i))
def fGe : U → U → Sto → Res U := oI0 fun i j => .bool (decide (j ≤ i))
theorem r_mod : SimR G (rI (fun _ j => j ≠ 0) fun i j => .int (i.fmod j)) fMod := r_I (fun _ _ h => by have q := of_decide_eq_true h; exact q) fun _ _ _ _ => .int _
def CDivA (_ j : Int) : Prop := j ≠ 0
def SeX (P : Program) (base : Heap) (A : Around) (fr : List Env) : Prop :=
  base.NoSeer ∧ P.given.tree = none ∧ A.depth + Builtin.pylongFrames < recursionLimit ∧
    ∃ (e1 : Env) (rest : List Env), fr = e1 :: rest ∧ e1.scope.isGenerator = false ∧ e1.scope.isCoroutine = false ∧ e1.builtins = builtinsNs ∧ e1.globals = mainGlobals
theorem op_fdivA {X : Cx} (hS : SeX X.prog X.base X.A X.stack) : OpR X (binaryOp .FloorDiv) (rI CDivA fun i j => .int (i.fdiv j)) := by
  intro pn s sg hp p q vp vq Kq inv rp rq hw
  obtain ⟨n1, n2, en1, en2, nz, hk⟩ := hw
  subst en1 en2
  obtain ⟨k1, ek1⟩ := rp
  obtain ⟨k2, ek2⟩ := rq
  subst ek1 ek2
  obtain ⟨g1, g2, g3, e1, rest, f1, f2, f3, f4, f5⟩ := hS
  have fr := inv.ok.frames
  rw [f1] at fr
  have seer : SeerAt (model X.prog X.w) X.A s.heap := SeerAt.of (g1.keeps inv.bk) g2 fr f2 f3 f4 f5
  have room : PylongRoom (model X.prog X.w) X.A s := PylongRoom.of inv.nolimit g3 seer
  exact floordiv_int nz ⟨V.int (n1.fdiv n2), hp, inv.tok _, ⟨s.toks, rfl⟩, hk⟩ (.inr room)
theorem r_div : SimR G (rI CDivA fun i j => .int (i.fdiv j)) fDiv := r_I (fun _ _ h => by have q := of_decide_eq_true h; exact q) fun _ _ _ _ => .int _
theorem r_pow : SimR G (rI CPow fun i j => .int (i ^ j.toNat)) fPow := r_I (fun _ _ h => by have q := of_decide_eq_true h; exact q) fun _ _ _ _ => .int _
theorem r_lt : SimR G (rI0 fun i j => .bl (decide (i < j))) fLt := r_I0 fun _ _ _ _ => .bl _
theorem r_gt : SimR G (rI0 fun i j => .bl (decide (j < i))) fGt := r_I0 fun _ _ _ _ => .bl _
theorem r_ge : SimR G (rI0 fun i j => .bl (decide (j ≤ i))) fGe := r_I0 fun _ _ _ _ => .bl _
def isNon : U → Bool
  | .d .none => true
  | _ => false
def fIsN (neg : Bool) : U → U → Sto → Res U := fun a b st => match b with
  | .d .none => .ok (.d (.bool (if neg then !isNon a else isNon a))) st
  | _ => .no
def flatD : PyData → Bool
  | .none | .bool _ | .int _ | .str _ => true
  | _ => false
def seqOf (st : Sto) (u : U) : Option (List PyData) := (listOf st u).orElse fun _ => tupOf u
theorem seq_q (rl : Rl G β H st) (h : RU G β (Ban G β st) H v u) {xs : List PyData} (e : seqOf st u = some xs) : ∃ p vs, v = .ref p ∧ (SqL G.K H p vs ∨ SqT G.K H p vs) ∧ RTs G.K (Ban G β st) H vs xs := by
  unfold seqOf at e
  cases q : listOf st u with
  | some ys =>
    rw [q] at e; cases e
    obtain ⟨p, vs, a, b, c⟩ := list_q rl h q
    exact ⟨p, vs, a, .inl b, c⟩
  | none =>
    rw [q] at e
    obtain ⟨p, vs, a, b, c⟩ := tup_q h (show tupOf u = some xs from e)
    exact ⟨p, vs, a, .inr b, c⟩
end
end NW
namespace NW
open PySem PySem.Spec PyProof.Rows L2
section
variable {G : Gx} {β β' : List Addr} {st st' : Sto} {H H' : Hp} {v : V} {u : U} {σ : L2.St} {l : Loc}
def bTest (m : ME) : MB := fun l st => (m l st).bind fun u st => match u with
  | .d (.bool b) => .ok b st
  | _ => .no
theorem s_tB {t : TE} {m : ME} (h : SimE G t m) : SimT G (tB t) (bTest m) := fun β H σ l st re Q q => by
  refine h β H σ l st re _ (wpR_bind q fun v u H1 β1 st1 f1 rl1 p1 h1 => ?_)
  split at h1
  · cases ru_bool p1
    exact ⟨_, rfl, h1 _ H1 β1 Fut.refl rl1 rfl⟩
  · exact h1.elim
theorem s_test {t : TE} {m : ME} (h : SimE G t m) : SimT G (tTest t) (bTest m) := s_tB h
def truD (st : Sto) (u : U) : Option Bool := match u with
  | .d .none => some false
  | .d (.bool b) => some b
  | .d (.int i) => some (i != 0)
  | .d (.str y) => if decide (y.length ≤ sizeLine) = true then some ((y.length : Int) != 0) else none
  | _ => (seqOf st u).map fun xs => !xs.isEmpty
def bTru (m : ME) : MB := fun l st => (m l st).bind fun u st => match truD st u with
  | some b => .ok b st
  | none => .no
theorem tru_v (rl : Rl G β H st) (h : RU G β (Ban G β st) H v u) {b : Bool} (e : truD st u = some b) : TruV G.K v H b := by
  unfold truD at e
  split at e
  · cases h; exact (Option.some.inj e).symm
  · cases h; exact (Option.some.inj e).symm
  · cases h; exact (Option.some.inj e).symm
  · cases h
    split at e
    · rename_i q
      exact ⟨of_decide_eq_true q, (Option.some.inj e).symm⟩
    · cases e
  · cases q : seqOf st u with
    | none => rw [q] at e; cases e
    | some xs =>
      rw [q] at e
      obtain ⟨p, vs, rfl, s, r⟩ := seq_q rl h q
      have e' : (!xs.isEmpty) = b := Option.some.inj e
      have z : b = !vs.isEmpty := by
        rw [← e']
        cases r <;> rfl
      rcases s with s | s
      · exact .inl ⟨vs, s, z⟩
      · exact .inr (.inl ⟨vs, s, z⟩)
theorem s_tru {t : TE} {m : ME} (h : SimE G t m) : SimT G (fun σ H Q => t σ H fun x H' => ∃ k, TruV G.K x H' k ∧ Q k H') (bTru m) := fun β H σ l st re Q q => by
  refine h β H σ l st re _ (wpR_bind q fun v u H1 β1 st1 f1 rl1 p1 h1 => ?_)
  split at h1
  · rename_i b e
    exact ⟨b, tru_v rl1 p1 e, h1 _ H1 β1 Fut.refl rl1 rfl⟩
  · exact h1.elim
def bAnd (a b : MB) : MB := fun l st => (a l st).bind fun c st => if c = true then b l st else .ok false st
def bOr (a b : MB) : MB := fun l st => (a l st).bind fun c st => if c = true then .ok true st else b l st
def bNot (a : MB) : MB := fun l st => (a l st).bind fun c st => .ok (!c) st
theorem wpR_b {b : Bool} {Q : Bool → Hp → Prop} (rl : Rl G β H st) (h : wpR G β H σ st PB (.ok b st) Q) : Q b H := h b H β Fut.refl rl rfl
theorem s_and {t u : TT} {a b : MB} (ha : SimT G t a) (hb : SimT G u b) : SimT G (tAnd t u) (bAnd a b) := fun β H σ l st re Q q => by
  refine ha β H σ l st re _ (wpR_bind q fun c c' H1 β1 st1 f1 rl1 p1 h1 => ?_)
  cases (show c = c' from p1)
  cases c with
  | true => exact hb β1 H1 σ l st1 (f1.re rl1 re) Q h1
  | false => exact wpR_b rl1 h1
theorem s_not {t : TT} {a : MB} (ha : SimT G t a) : SimT G (tNot t) (bNot a) := fun β H σ l st re Q q => by
  refine ha β H σ l st re _ (wpR_bind q fun c c' H1 β1 st1 f1 rl1 p1 h1 => ?_)
  cases (show c = c' from p1)
  exact wpR_b rl1 h1
def eAndV (a b : ME) : ME := fun l st => (a l st).bind fun u st => match u with
  | .d (.bool c) => if c = true then b l st else .ok (.d (.bool false)) st
  | _ => .no
def eOrV (a b : ME) : ME := fun l st => (a l st).bind fun u st => match u with
  | .d (.bool c) => if c = true then .ok (.d (.bool true)) st else b l st
  | _ => .no
def eNotV (a : ME) : ME := fun l st => (a l st).bind fun u st => match u with
  | .d (.bool c) => .ok (.d (.bool (!c))) st
  | _ => .no
theorem s_andV {t u : TE} {a b : ME} (ha : SimE G t a) (hb : SimE G u b) : SimE G (tAndV t u) (eAndV a b) := fun β H σ l st re Q q => by
  refine ha β H σ l st re _ (wpR_bind q fun v w H1 β1 st1 f1 rl1 p1 h1 => ?_)
  split at h1
  · rename_i c
    cases ru_bool p1
    refine ⟨c, rfl, ?_⟩
    cases c with
    | true => exact hb β1 H1 σ l st1 (f1.re rl1 re) Q h1
    | false => exact wpR_d rl1 (.bl _) h1
  · exact h1.elim
def aNil : MA := fun _ st => .ok [] st
def aCons (a : ME) (r : MA) : MA := fun l st => (a l st).bind fun u st => (r l st).bind fun us st => .ok (u :: us) st
theorem s_nil : SimA G tNil aNil := fun β H σ l st re Q h => h [] H β Fut.refl re.rl .nil
theorem s_cons {t : TE} {ta : TA} {a : ME} {r : MA} (ha : SimE G t a) (hr : SimA G ta r) : SimA G (tCons t ta) (aCons a r) := fun β H σ l st re Q h => by
  refine ha β H σ l st re _ (wpR_bind h fun v x H1 β1 st1 f1 rl1 p1 h1 => ?_)
  refine hr β1 H1 σ l st1 (f1.re rl1 re) _ (wpR_bind h1 fun w y H2 β2 st2 f2 rl2 p2 h2 => ?_)
  exact h2 (v :: w) H2 β2 Fut.refl rl2 (.cons (f2.ru p1) p2)
def treesOf : List U → Option (List PyData)
  | [] => some []
  | .d x :: us => (treesOf us).map (x :: ·)
  | _ :: _ => none
theorem trees_r : ∀ {vs : List V} {us : List U} {ds : List PyData}, Paired (fun v u => RU G β (Ban G β st) H v u) vs us → treesOf us = some ds → RTs G.K (Ban G β st) H vs ds
  | _, [], ds, .nil, e => by cases e; exact .nil
  | _, .d x :: us, ds, .cons h t, e => by
    have e' : (treesOf us).map (x :: ·) = some ds := e
    cases q : treesOf us with
    | none => rw [q] at e'; cases e'
    | some es =>
      rw [q] at e'; cases e'
      exact .cons h (trees_r t q)
  | _, .ref i :: us, ds, .cons h t, e => by cases e
  | _, .flow :: us, ds, .cons h t, e => by cases e
  | _, .scr _ :: us, ds, .cons h t, e => by cases e
theorem Rl.tupB (rl : Rl G β H st) {p : Addr} {vs : List V} (h : Rd H p (.tup vs)) : ¬ Ban G β st p := fun z => rl.banNoTup z vs h
def lenOk (n : Nat) : Bool := decide (n ≤ sizeLine)
def eTup (a : MA) : ME := fun l st => (a l st).bind fun us st => match treesOf us with
  | some ds => if lenOk ds.length = true then .ok (.d (.tuple ds)) st else .no
  | none => .no
theorem new_tup (rl : Rl G β H st) {vs : List V} {ds : List PyData} {p : Addr} (hp : H p = none) (r : RTs G.K (Ban G β st) H vs ds) : Fut G β st H β st (upd H p (.tup vs)) ∧ Rl G β (upd H p (.tup vs)) st ∧ RT G.K (Ban G β st) (upd H p (.tup vs)) (.ref p) (.tuple ds) := by
  have f : Fut G β st H β st (upd H p (.tup vs)) := Fut.new hp
  exact ⟨f, rl.new hp, .tup (.inl ⟨.inl upd_same, rl.notBan hp⟩) (f.rts r)⟩
theorem new_lst (rl : Rl G β H st) {vs : List V} {ds : List PyData} {p : Addr} (hp : H p = none) (r : RTs G.K (Ban G β st) H vs ds) : Fut G β st H β st (upd H p (.lst vs)) ∧ Rl G β (upd H p (.lst vs)) st ∧ RT G.K (Ban G β st) (upd H p (.lst vs)) (.ref p) (.list ds) := by
  have f : Fut G β st H β st (upd H p (.lst vs)) := Fut.new hp
  exact ⟨f, rl.new hp, .lst ⟨upd_same, rl.notBan hp⟩ (f.rts r)⟩
def wpN (G : Gx) (β : List Addr) (H : Hp) (σ : L2.St) (st : Sto) (r : Res (List PyData)) (Q : VK) : Prop := match r with
  | .ok xs st' => ∀ H' β', Fut G β st H β' st' H' → Rl G β' H' st' → ∀ p vs, H' p = none → RTs G.K (Ban G β' st') H' vs xs → Q (.ref p) (upd H' p (.lst vs))
  | .ex e st' => ∀ cv dx H' β', Fut G β st H β' st' H' → Rl G β' H' st' → ExR G (Ban G β' st') H' e cv dx → G.W cv dx σ H'
  | .no => False
def SimN (G : Gx) (t : TE) (m : ML) : Prop := ∀ β H σ l st, Re G β H σ l st → ∀ Q, wpN G β H σ st (m l st) Q → t σ H Q
def eFrz (m : ML) : ME := fun l st => (m l st).bind fun xs st => .ok (.d (.list xs)) st
def eOwn (m : ML) : ME := fun l st => (m l st).bind fun xs st => .ok (.ref st.obs.length) (st.add xs)
theorem s_frz {t : TE} {m : ML} (h : SimN G t m) : SimE G t (eFrz m) := fun β H σ l st re Q q => by
  refine h β H σ l st re Q ?_
  unfold eFrz at q
  cases e : m l st with
  | no => rw [e] at q; exact q
  | ex x st' => rw [e] at q; exact q
  | ok xs st' =>
    rw [e] at q
    intro H' β' f rl p vs hp r
    obtain ⟨f2, rl2, rt⟩ := new_lst rl hp r
    exact q _ _ β' (f.trans f2) rl2 rt
theorem s_own {t : TE} {m : ML} (h : SimN G t m) : SimE G t (eOwn m) := fun β H σ l st re Q q => by
  refine h β H σ l st re Q ?_
  unfold eOwn at q
  cases e : m l st with
  | no => rw [e] at q; exact q
  | ex x st' => rw [e] at q; exact q
  | ok xs st' =>
    rw [e] at q
    intro H' β' f rl p vs hp r
    obtain ⟨f2, rl2⟩ := add_own rl hp r
    refine q _ _ (β' ++ [p]) (f.trans f2) rl2 ⟨p, ?_, rfl⟩
    rw [← rl.len]; simp
theorem wpN_bind {α γ : Type} {P : List Addr → Sto → Hp → γ → α → Prop} {r : Res α} {k : α → Sto → Res (List PyData)} {Q : VK}
    (h : wpN G β H σ st (r.bind k) Q) {R : γ → Hp → Prop} (hk : ∀ v a H' β' st', Fut G β st H β' st' H' → Rl G β' H' st' → P β' st' H' v a → wpN G β' H' σ st' (k a st') Q → R v H') : wpR G β H σ st P r R := by
  cases r with
  | ok a st' =>
    intro v H' β' f rl p
    refine hk v a H' β' st' f rl p ?_
    have h' : wpN G β H σ st (k a st') Q := h
    cases e : k a st' with
    | ok b st'' => rw [e] at h'; exact fun H'' β'' f' rl' => h' H'' β'' (f.trans f') rl'
    | ex x st'' => rw [e] at h'; exact fun cv dx H'' β'' f' rl' p' => h' cv dx H'' β'' (f.trans f') rl' p'
    | no => rw [e] at h'; exact h'
  | ex e st' => exact h
  | no => exact h
def lDisp (a : MA) : ML := fun l st => (a l st).bind fun us st => match treesOf us with
  | some ds => if lenOk ds.length = true then .ok ds st else .no
  | none => .no
theorem n_disp {ta : TA} {a : MA} (ha : SimA G ta a) : SimN G (tLst ta) (lDisp a) := fun β H σ l st re Q h => by
  refine ha β H σ l st re _ (wpN_bind h fun vs us H1 β1 st1 f1 rl1 p1 h1 => ?_)
  split at h1
  · rename_i ds e
    split at h1
    · rename_i q
      have r := trees_r p1 e
      exact ⟨by rw [r.len]; exact of_decide_eq_true q, fun p hp => h1 H1 β1 Fut.refl rl1 p vs hp r⟩
    · exact h1.elim
  · exact h1.elim
def idxN (n : Nat) (i : Int) : Option Nat := if 0 ≤ i then (if i < n then some i.toNat else none) else if -(n : Int) ≤ i then some (i + n).toNat else none
theorem ixN_eq (n : Nat) (i : Int) : ixN n i = idxN n i := rfl
theorem rts_atI {xs : List PyData} {vs : List V} {B : Addr → Prop} {i : Int} {j : Nat} {x : PyData} (r : RTs G.K B H vs xs) (h : idxN xs.length i = some j) (hx : xs[j]? = some x) : ∃ v, atI vs i = some v ∧ RT G.K B H v x := by
  obtain ⟨v, h1, h2⟩ := r.get hx
  refine ⟨v, ?_, h2⟩
  unfold atI
  rw [r.len, ixN_eq, h]
  exact h1
def strAt (z : Str) (i : Int) : Option Str := if decide (z.length ≤ sizeLine) = true then (atI z.cps.toList i).map fun c => ⟨#[c]⟩ else none
def flAt (f : Fl) (i : Int) : Option U := if i = 0 then some (.scr f.cells) else if i = 1 then some (.d (.int f.place)) else if i = 2 then some (.d (.int f.held)) else if i = 3 then some (.d (.int f.seed)) else if i = 4 then some (.d (.int f.many)) else none
theorem flAt_r (rl : Rl G β H st) {f : Fl} (hf : st.fl = some f) {i : Int} {u : U} (h : flAt f i = some u) : ∃ v, atI (flV G.fb f) i = some v ∧ RU G β (Ban G β st) H v u := by
  obtain ⟨⟨a, b⟩, _⟩ := rl.flo f hf
  unfold flAt at h
  split at h
  · rename_i e; subst e; cases h
    exact ⟨.ref G.fb, rfl, _, rfl, .inl ⟨.inl b.1, b.2⟩⟩
  · split at h
    · rename_i e; subst e; cases h; exact ⟨_, rfl, .int _⟩
    · split at h
      · rename_i e; subst e; cases h; exact ⟨_, rfl, .int _⟩
      · split at h
        · rename_i e; subst e; cases h; exact ⟨_, rfl, .int _⟩
        · split at h
          · rename_i e; subst e; cases h; exact ⟨_, rfl, .int _⟩
          · cases h
def fIx : U → U → Sto → Res U := fun a b st => match b with
  | .d (.int i) => (match a with
    | .flow => (match st.fl with
      | some f => (match flAt f i with
        | some u => .ok u st
        | none => .no)
      | none => .no)
    | .scr ns => (match (idxN ns.length i).bind fun j => ns[j]? with
      | some x => .ok (.d (.int x)) st
      | none => .no)
    | .d (.str z) => (match strAt z i with
      | some y => .ok (.d (.str y)) st
      | none => .no)
    | _ => (match seqOf st a with
      | some xs => (match (idxN xs.length i).bind fun j => xs[j]? with
        | some x => .ok (.d x) st
        | none => .no)
      | none => .no))
  | _ => .no
theorem r_ix : SimR G (rIx G.K) fIx := fun β H σ l st re x y a b Q hx hy h => by
  unfold fIx at h
  split at h
  · rename_i i
    cases ru_int hy
    split at h
    · split at h
      · rename_i f hf
        split at h
        · rename_i u e
          obtain ⟨v, h1, h2⟩ := flAt_r re.rl hf e
          cases (show x = .ref G.fa from hx)
          exact .inl ⟨G.fa, _, i, v, rfl, rfl, SqL.of (re.rl.flo f hf).1.here, h1, wpR_u re.rl h2 h⟩
        · exact h.elim
      · exact h.elim
    · rename_i ns
      split at h
      · rename_i w e2
        obtain ⟨p, rfl, s⟩ := hx
        cases e3 : idxN ns.length i with
        | none => rw [e3] at e2; cases e2
        | some j =>
          rw [e3] at e2
          refine .inl ⟨p, _, i, .int w, rfl, rfl, s.q, ?_, wpR_d re.rl (.int _) h⟩
          unfold atI
          rw [List.length_map, ixN_eq, e3]
          show (ns.map V.int)[j]? = _
          rw [List.getElem?_map, show ns[j]? = some w from e2]; rfl
      · exact h.elim
    · rename_i z
      cases ru_str hx
      unfold strAt at h
      split at h
      · rename_i y e
        split at e
        · rename_i q
          cases e2 : atI z.cps.toList i with
          | none => rw [e2] at e; cases e
          | some c =>
            rw [e2] at e; cases e
            exact .inr (.inr ⟨z, i, c, rfl, rfl, of_decide_eq_true q, e2, wpR_d re.rl (.str _) h⟩)
        · cases e
      · exact h.elim
    · split at h
      · rename_i xs e
        split at h
        · rename_i w e2
          obtain ⟨p, vs, rfl, s, r⟩ := seq_q re.rl hx e
          cases e3 : idxN xs.length i with
          | none => rw [e3] at e2; cases e2
          | some j =>
            rw [e3] at e2
            obtain ⟨v, h1, h2⟩ := rts_atI r e3 e2
            rcases s with s | s
            · exact .inl ⟨p, vs, i, v, rfl, rfl, s, h1, wpR_d re.rl h2 h⟩
            · exact .inr (.inl ⟨p, vs, i, v, rfl, rfl, s, h1, wpR_d re.rl h2 h⟩)
        · exact h.elim
      · exact h.elim
  · exact h.elim
abbrev MO := Loc → Sto → Res (Option Int)
def PO' : List Addr → Sto → Hp → Option Int → Option Int → Prop := fun _ _ _ a b => a = b
def SimO (G : Gx) (t : TO) (m : MO) : Prop := ∀ β H σ l st, Re G β H σ l st → ∀ Q, wpR G β H σ st PO' (m l st) Q → t σ H Q
def oNone : MO := fun _ st => .ok none st
def oSome (m : ME) : MO := fun l st => (m l st).bind fun u st => match u with
  | .d (.int i) => .ok (some i) st
  | _ => .no
def cutD (xs : List PyData) (lo hi : Option Int) : List PyData := (xs.drop (HT.sIx xs.length 0 lo)).take (HT.sIx xs.length xs.length hi - HT.sIx xs.length 0 lo)
theorem RTs.cut {B : Addr → Prop} {K : PySem.W.Frag} {xs : List PyData} {vs : List V} (r : RTs K B H vs xs) (lo hi : Option Int) : RTs K B H (cutV vs lo hi) (cutD xs lo hi) := by
  unfold cutV cutD
  rw [r.len]
  exact (r.drop _).take _
end
end NW
namespace NW
open PySem PySem.Spec PyProof.Rows L2
def Gx.ban (G : Gx) (D : Addr) : Gx := { G with O0 := fun p => G.O0 p ∨ p = D }
def wpS (G : Gx) (β : List Addr) (H : Hp) (st : Sto) (o : Out) (D : Ends) : Prop := match o with
  | .nx l' st' => ∀ σ' H' β', Fut G β st H β' st' H' → Re G β' H' σ' l' st' → D.nx σ' H'
  | .bk l' st' => ∀ σ' H' β', Fut G β st H β' st' H' → Re G β' H' σ' l' st' → D.bk σ' H'
  | .ct l' st' => ∀ σ' H' β', Fut G β st H β' st' H' → Re G β' H' σ' l' st' → D.ct σ' H'
  | .rt u st' => ∀ v H' β', Fut G β st H β' st' H' → Rl G β' H' st' → RU G β' (Ban G β' st') H' v u → D.rt v H'
  | .ex e l' st' => ∀ cv dx σ' H' β', Fut G β st H β' st' H' → Re G β' H' σ' l' st' → ExR G (Ban G β' st') H' e cv dx → G.W cv dx σ' H'
  | .no => False
def SimS (G : Gx) (t : TS) (m : MS) : Prop := ∀ β H σ l st, Re G β H σ l st → ∀ D, wpS G β H st (m l st) D → t D σ H
def Res.out {α : Type} (r : Res α) (l : Loc) (k : α → Sto → Out) : Out := match r with
  | .ok a s => k a s
  | .ex e s => .ex e l s
  | .no => .no
def Out.seq (o : Out) (k : Loc → Sto → Out) : Out := match o with
  | .nx l st => k l st
  | o => o
section
variable {G : Gx} {β β' : List Addr} {st st' : Sto} {H H' : Hp} {v : V} {u : U} {σ σ' : L2.St} {l l' : Loc} {D : Ends}
theorem wpS_fut {o : Out} (f : Fut G β st H β' st' H') (h : wpS G β H st o D) : wpS G β' H' st' o D := by
  cases o with
  | nx l s => exact fun a b c d => h a b c (f.trans d)
  | bk l s => exact fun a b c d => h a b c (f.trans d)
  | ct l s => exact fun a b c d => h a b c (f.trans d)
  | rt u s => exact fun a b c d => h a b c (f.trans d)
  | ex e l s => exact fun a b c d e' f' => h a b c d e' (f.trans f')
  | no => exact h
theorem wpS_nx (re : Re G β H σ l st) (h : wpS G β H st (.nx l st) D) : D.nx σ H := h σ H β Fut.refl re
theorem wpS_res {α γ : Type} {P : List Addr → Sto → Hp → γ → α → Prop} {r : Res α} {k : α → Sto → Out} {R : γ → Hp → Prop} (re : Re G β H σ l st) (h : wpS G β H st (r.out l k) D)
    (hk : ∀ v a H' β' st', Fut G β st H β' st' H' → Rl G β' H' st' → P β' st' H' v a → wpS G β' H' st' (k a st') D → R v H') : wpR G β H σ st P r R := by
  cases r with
  | ok a st' => exact fun v H' β' f rl p => hk v a H' β' st' f rl p (wpS_fut f h)
  | ex e st' => exact fun cv dx H' β' f rl x => h cv dx σ H' β' f (f.re rl re) x
  | no => exact h
theorem wpS_seq {o : Out} {k : Loc → Sto → Out} {N : L2.St → Hp → Prop} (h : wpS G β H st (o.seq k) D) (hk : ∀ σ' H' β' l' st', Fut G β st H β' st' H' → Re G β' H' σ' l' st' → wpS G β' H' st' (k l' st') D → N σ' H') : wpS G β H st o { D with nx := N } := by
  cases o with
  | nx l' s => exact fun σ' H' β' f re => hk σ' H' β' l' s f re (wpS_fut f h)
  | bk l s => exact h
  | ct l s => exact h
  | rt u s => exact h
  | ex e l s => exact h
  | no => exact h
theorem RLoc.set {B : Addr → Prop} (h : RLoc G β B H σ l) (i : Nat) (r : RU G β B H v u) : RLoc G β B H (σ.set i (some v)) (l.set i (some u)) := by
  refine ⟨by rw [List.length_set, List.length_set, h.len], fun j w e => ?_⟩
  by_cases hj : j = i
  · subst hj
    have hl : j < l.length := by
      have := (List.getElem?_eq_some_iff.mp e).1
      rw [List.length_set] at this; exact this
    rw [List.getElem?_set_self hl] at e
    cases e
    exact ⟨v, by rw [List.getElem?_set_self (by rw [h.len]; exact hl)], r⟩
  · rw [List.getElem?_set_ne (Ne.symm hj)] at e
    rw [List.getElem?_set_ne (Ne.symm hj)]
    exact h.at_ j w e
def sNext : MS := fun l st => .nx l st
theorem t_next : SimS G tNext sNext := fun β H σ l st re D h => wpS_nx re h
def sSeq (a b : MS) : MS := fun l st => (a l st).seq b
theorem t_seq {t u : TS} {a b : MS} (ha : SimS G t a) (hb : SimS G u b) : SimS G (tSeq t u) (sSeq a b) := fun β H σ l st re D h =>
  ha β H σ l st re _ (wpS_seq h fun σ' H' β' l' st' f re' h' => hb β' H' σ' l' st' re' D h')
def sAsg (i : Nat) (m : ME) : MS := fun l st => (m l st).out l fun u st => .nx (l.set i (some u)) st
theorem t_asg {i : Nat} {t : TE} {m : ME} (h : SimE G t m) : SimS G (tAsg t (gName i)) (sAsg i m) := fun β H σ l st re D q =>
  h β H σ l st re _ (wpS_res re q fun v u H' β' st' f rl p q' => wpS_nx ⟨rl, (f.re rl re).lo.set i p⟩ q')
def sDrop (m : ME) : MS := fun l st => (m l st).out l fun _ st => .nx l st
def sRet (m : ME) : MS := fun l st => (m l st).out l fun u st => .rt u st
theorem t_ret {t : TE} {m : ME} (h : SimE G t m) : SimS G (tRet t) (sRet m) := fun β H σ l st re D q =>
  h β H σ l st re _ (wpS_res re q fun v u H' β' st' f rl p q' => q' v H' β' Fut.refl rl p)
def sIf (c : MB) (a b : MS) : MS := fun l st => (c l st).out l fun k st => if k = true then a l st else b l st
theorem t_if {c : TT} {t u : TS} {k : MB} {a b : MS} (hc : SimT G c k) (ha : SimS G t a) (hb : SimS G u b) : SimS G (tIfS c t u) (sIf k a b) := fun β H σ l st re D q => by
  refine hc β H σ l st re _ (wpS_res re q fun v w H' β' st' f rl p q' => ?_)
  cases (show v = w from p)
  cases v with
  | true => exact ha β' H' σ l st' (f.re rl re) D q'
  | false => exact hb β' H' σ l st' (f.re rl re) D q'
def sPar (i j : Nat) (a : MA) : MS := fun l st => (a l st).out l fun us st => match us with
  | [u, w] => .nx ((l.set i (some u)).set j (some w)) st
  | _ => .no
abbrev MT := U → Loc → Sto → Res Loc
def PL (G : Gx) (σ0 : L2.St) (vs : List Nat) : List Addr → Sto → Hp → L2.St → Loc → Prop := fun β st H σ l => RLoc G β (Ban G β st) H σ l ∧ σ.length = σ0.length ∧ ∀ i, i ∉ vs → σ[i]? = σ0[i]?
def SimG (G : Gx) (vs : List Nat) (g : TG) (m : MT) : Prop := ∀ β H σ l st, Re G β H σ l st → ∀ v u, RU G β (Ban G β st) H v u → ∀ Q : L2.St → Hp → Prop, wpR G β H σ st (PL G σ vs) (m u l st) Q → g v σ H Q
def gNameM (i : Nat) : MT := fun u l st => .ok (l.set i (some u)) st
theorem g_name (i : Nat) : SimG G [i] (gName i) (gNameM i) := fun β H σ l st re v u r Q h =>
  h (σ.set i (some v)) H β Fut.refl re.rl ⟨re.lo.set i r, by rw [List.length_set], fun j hj => by
    rw [List.getElem?_set_ne]
    intro e; subst e; exact hj (by simp)⟩
abbrev MTs := List PyData → Loc → Sto → Res Loc
def SimGs (G : Gx) (vs : List Nat) (g : TGs) (m : MTs) : Prop := ∀ β H σ l st, Re G β H σ l st → ∀ xs ds, RTs G.K (Ban G β st) H xs ds → ∀ Q : L2.St → Hp → Prop, wpR G β H σ st (PL G σ vs) (m ds l st) Q → g xs σ H Q
def gNilM : MTs := fun ds l st => match ds with | [] => .ok l st | _ => .no
def gConsM (t : MT) (r : MTs) : MTs := fun ds l st => match ds with
  | d :: ds => (t (.d d) l st).bind fun l st => r ds l st
  | [] => .no
def Res.noEx {α : Type} : Res α → Prop
  | .ex _ _ => False
  | _ => True
def gTupM (n : Nat) (r : MTs) : MT := fun u l st => match u with
  | .d (.tuple xs) => if xs.length = n then r xs l st else .no
  | _ => .no
def sAsgG (m : ME) (t : MT) : MS := fun l st => (m l st).out l fun u st => (t u l st).out l fun l' st => .nx l' st
theorem t_asgG {vs : List Nat} {t : TE} {m : ME} {g : TG} {mt : MT} (h : SimE G t m) (hg : SimG G vs g mt) : SimS G (tAsg t g) (sAsgG m mt) := fun β H σ l st re D q =>
  h β H σ l st re _ (wpS_res re q fun v u H' β' st' f rl p q' => by
    have re' := f.re rl re
    exact hg β' H' σ l st' re' v u p _ (wpS_res re' q' fun σ2 l2 H2 β2 st2 f2 rl2 p2 q2 => wpS_nx ⟨rl2, p2.1⟩ q2))
def flPut (f : Fl) (i x : Int) : Option Fl := if i = 1 then some { f with place := x } else if i = 2 then some { f with held := x } else if i = 3 then some { f with seed := x } else if i = 4 then some { f with many := x } else none
theorem flPut_v {fb : Addr} {f f' : Fl} {i x : Int} (h : flPut f i x = some f') : ∃ n, ixN 5 i = some n ∧ (flV fb f).set n (.int x) = flV fb f' ∧ f'.cells = f.cells := by
  unfold flPut at h
  split at h
  · rename_i e; subst e; cases h; exact ⟨1, rfl, rfl, rfl⟩
  · split at h
    · rename_i e; subst e; cases h; exact ⟨2, rfl, rfl, rfl⟩
    · split at h
      · rename_i e; subst e; cases h; exact ⟨3, rfl, rfl, rfl⟩
      · split at h
        · rename_i e; subst e; cases h; exact ⟨4, rfl, rfl, rfl⟩
        · cases h
def gSubM (o i : ME) : MT := fun u l st => (o l st).bind fun ou st => (i l st).bind fun iu st => match ou, iu, u with
  | .flow, .d (.int j), .d (.int x) => (match st.fl with
    | some f => (match flPut f j x with
      | some f' => .ok l { st with fl := some f' }
      | none => .no)
    | none => .no)
  | .ref k, .d (.int j), .d y => (match st.obs[k]? with
    | some (.lst xs) => (match idxN xs.length j with
      | some n => .ok l (st.put k (xs.set n y))
      | none => .no)
    | _ => .no)
  | _, _, _ => .no
theorem g_sub {to ti : TE} {o i : ME} (ho : SimE G to o) (hi : SimE G ti i) : SimG G [] (gSub to ti rSetL) (gSubM o i) := fun β H σ l st re v u r Q h => by
  refine ho β H σ l st re _ (wpR_bind h fun ov ou H1 β1 st1 f1 rl1 p1 h1 => ?_)
  have re1 := f1.re rl1 re
  refine hi β1 H1 σ l st1 re1 _ (wpR_bind h1 fun iv iu H2 β2 st2 f2 rl2 p2 h2 => ?_)
  have re2 := f2.re rl2 re1
  have r2 := f2.ru (f1.ru r)
  split at h2
  · rename_i j x
    cases ru_int p2
    cases ru_int r2
    split at h2
    · rename_i f hf
      split at h2
      · rename_i f' hp
        cases (show ov = .ref G.fa from f2.ru p1)
        obtain ⟨⟨a, b⟩, _⟩ := rl2.flo f hf
        obtain ⟨n, e1, e2, e3⟩ := flPut_v (fb := G.fb) hp
        refine ⟨G.fa, _, j, n, rfl, rfl, a, e1, ?_⟩
        obtain ⟨f3, rl3⟩ := flow_end (H' := upd H2 G.fa (.lst ((flV G.fb f).set n (.int x)))) rl2 hf (fun b o hb ne => by rw [upd_ne ne]; exact hb) (by rw [upd_same, e2]) e3
        exact h2 σ _ β2 f3 rl3 ⟨f3.rloc re2.lo, rfl, fun _ _ => rfl⟩
      · exact h2.elim
    · exact h2.elim
  · rename_i k j y
    cases ru_int p2
    split at h2
    · rename_i xs e
      split at h2
      · rename_i n en
        obtain ⟨p, e1, rfl⟩ := f2.ru p1
        obtain ⟨q, vs, a, b, c⟩ := rl2.ob k xs e
        rw [e1] at a; cases a
        refine ⟨p, vs, j, n, rfl, rfl, b, by rw [c.len, ixN_eq]; exact en, ?_⟩
        obtain ⟨f3, rl3⟩ := put_own rl2 e e1 (c.set n r2)
        exact h2 σ _ β2 f3 rl3 ⟨f3.rloc re2.lo, rfl, fun _ _ => rfl⟩
      · exact h2.elim
    · exact h2.elim
  · exact h2.elim
structure ItD where
  items : List PyData
  own : List (Nat × List PyData)
def ItD.chk (d : ItD) (st : Sto) : Prop := ∀ p ∈ d.own, st.obs[p.1]? = some (Ob.lst p.2)
abbrev MI := Loc → Sto → Res ItD
def Gx.o (G : Gx) (O1 : Addr → Prop) : Gx := { G with O0 := O1 }
def ItR (G : Gx) (β0 : List Addr) (st0 : Sto) (H0 : Hp) (J : It) (d : ItD) : Prop := ∀ O1 : Addr → Prop, (∀ p, O1 p → G.O0 p ∨ H0 p = none) → ∀ β H st, Fut G β0 st0 H0 β st H → Rl (G.o O1) β H st → d.chk st → ∀ i,
  (∀ y, d.items[i]? = some y → J.go i H ∧ ∀ x H', J.yld i H x H' → (H' = H ∨ ∃ T ws, H T = none ∧ H' = upd H T (.tup ws)) ∧ RT G.K (Ban (G.o O1) β st) H' x y) ∧ (d.items.length ≤ i → J.stop i H)
def SimI (G : Gx) (wi : TI) (m : MI) : Prop := ∀ β H σ l st, Re G β H σ l st → ∀ R : It → Hp → Prop, wpR G β H σ st (fun β st H J d => ItR G β st H J d) (m l st) R → wi σ H R
open Classical in
noncomputable def forM (d : ItD) (t : MT) (b : MS) : List PyData → Loc → Sto → Out
  | [], l, st => if d.chk st then .nx l st else .no
  | x :: xs, l, st => if d.chk st then (t (.d x) l st).out l fun l st => (match b l st with
      | .nx l st => forM d t b xs l st
      | .ct l st => forM d t b xs l st
      | .bk l st => .nx l st
      | o => o) else .no
noncomputable def sFor (mi : MI) (t : MT) (b : MS) : MS := fun l st => (mi l st).out l fun d st => forM d t b d.items l st
theorem it_fut (rl : Rl G β H st) (h : H' = H ∨ ∃ T ws, H T = none ∧ H' = upd H T (.tup ws)) : Fut G β st H β st H' ∧ Rl G β H' st := by
  rcases h with rfl | ⟨T, ws, hT, rfl⟩
  · exact ⟨Fut.refl, rl⟩
  · exact ⟨Fut.new hT, rl.new hT⟩
theorem t_for {wi : TI} {g : TG} {t : TS} {vs : List Nat} {mi : MI} {mt : MT} {b : MS} (hi : SimI G wi mi) (hg : SimG G vs g mt) (hb : SimS G t b) : SimS G (tFor wi g t) (sFor mi mt b) := fun β H σ l st re D q => by
  refine hi β H σ l st re _ (wpS_res re q fun J d H1 β1 st1 f1 rl1 itr q1 => ?_)
  have re1 := f1.re rl1 re
  refine ⟨fun i m σ' H' => m = d.items.length - i ∧ ∃ β' l' st', Fut G β1 st1 H1 β' st' H' ∧ Re G β' H' σ' l' st' ∧ wpS G β' H' st' (forM d mt b (d.items.drop i) l' st') D, ⟨_, rfl, β1, l, st1, Fut.refl, re1, q1⟩, ?_⟩
  rintro i m σ2 H2 ⟨rfl, β2, l2, st2, f2, re2, q2⟩
  cases hd : d.items[i]? with
  | none =>
    have hl : d.items.length ≤ i := List.getElem?_eq_none_iff.mp hd
    rw [List.drop_eq_nil_of_le hl, forM] at q2
    split at q2
    · rename_i hk
      exact .inl ⟨(itr G.O0 (fun p h => .inl h) β2 H2 st2 f2 re2.rl hk i).2 hl, wpS_nx re2 q2⟩
    · exact q2.elim
  | some y =>
    obtain ⟨hlt, ey⟩ := List.getElem?_eq_some_iff.mp hd
    rw [List.drop_eq_getElem_cons hlt, ey, forM] at q2
    split at q2
    · rename_i hk
      obtain ⟨hgo, hy⟩ := (itr G.O0 (fun p h => .inl h) β2 H2 st2 f2 re2.rl hk i).1 y hd
      refine .inr ⟨hgo, fun σ' H' => ∃ β' l' st', Fut G β1 st1 H1 β' st' H' ∧ Re G β' H' σ' l' st' ∧ wpS G β' H' st' (forM d mt b (d.items.drop (i + 1)) l' st') D, fun σ' H' h => ⟨_, by omega, rfl, h⟩, fun x H3 hyl => ?_⟩
      obtain ⟨hc, rx⟩ := hy x H3 hyl
      obtain ⟨f3, rl3⟩ := it_fut re2.rl hc
      have re3 := f3.re rl3 re2
      refine hg β2 H3 σ2 l2 st2 re3 x (.d y) rx _ (wpS_res re3 (wpS_fut f3 q2) fun σ4 l4 H4 β4 st4 f4 rl4 p4 q4 => ?_)
      refine hb β4 H4 σ4 l4 st4 ⟨rl4, p4.1⟩ _ ?_
      have q4' : wpS G β4 H4 st4 (match b l4 st4 with
          | .nx l st => forM d mt b (d.items.drop (i + 1)) l st
          | .ct l st => forM d mt b (d.items.drop (i + 1)) l st
          | .bk l st => .nx l st
          | o => o) D := q4
      have ff := f2.trans (f3.trans f4)
      cases e : b l4 st4 with
      | nx l5 s5 => rw [e] at q4'; exact fun σ' H' β' f re' => ⟨β', l5, s5, ff.trans f, re', wpS_fut f q4'⟩
      | ct l5 s5 => rw [e] at q4'; exact fun σ' H' β' f re' => ⟨β', l5, s5, ff.trans f, re', wpS_fut f q4'⟩
      | bk l5 s5 => rw [e] at q4'; exact q4'
      | rt u s5 => rw [e] at q4'; exact q4'
      | ex x l5 s5 => rw [e] at q4'; exact q4'
      | no => rw [e] at q4'; exact q4'
    · exact q2.elim
end
end NW
namespace NW
open PySem PySem.Spec PyProof.Rows L2
section
variable {G : Gx} {β β' : List Addr} {st st' : Sto} {H H' : Hp} {v : V} {u : U} {σ σ' : L2.St} {l l' : Loc} {D : Ends}
theorem rd_ne {H : Hp} {a : Addr} {u : HO} (h : Rd H a u) : H a ≠ none := by
  rcases h with h | ⟨o, h⟩ <;> rw [h] <;> simp
mutual
theorem RT.o {B B' : Addr → Prop} {K : PySem.W.Frag} (k : ∀ p, ¬ B p → H p ≠ none → ¬ B' p) : ∀ (d : PyData) (v : V), RT K B H v d → RT K B' H v d
  | .none, _, h => by cases h; exact .non
  | .bool b, _, h => by cases h; exact .bl b
  | .int i, _, h => by cases h; exact .int i
  | .str x, _, h => by cases h; exact .str x
  | .list ds, _, h => by
    cases h with
    | lst hs ha => exact .lst ⟨hs.1, k _ hs.2 (by rw [hs.1]; simp)⟩ (RTs.o k ds _ ha)
  | .tuple ds, _, h => by
    cases h with
    | tup hs ha => exact .tup (hs.imp (fun z => ⟨z.1, k _ z.2 (rd_ne z.1)⟩) id) (RTs.o k ds _ ha)
  | .dict _, _, h => by cases h
theorem RTs.o {B B' : Addr → Prop} {K : PySem.W.Frag} (k : ∀ p, ¬ B p → H p ≠ none → ¬ B' p) : ∀ (ds : List PyData) (vs : List V), RTs K B H vs ds → RTs K B' H vs ds
  | [], _, h => by cases h; exact .nil
  | d :: ds, _, h => by
    cases h with
    | cons h1 h2 => exact .cons (RT.o k d _ h1) (RTs.o k ds _ h2)
end
def SrcL (G : Gx) (β0 : List Addr) (st0 : Sto) (H0 : Hp) (p : Addr) (own : List (Nat × List PyData)) (xs : List PyData) : Prop := ∀ O1 : Addr → Prop, (∀ p, O1 p → G.O0 p ∨ H0 p = none) → ∀ β H st, Fut G β0 st0 H0 β st H → Rl (G.o O1) β H st →
  (∀ q ∈ own, st.obs[q.1]? = some (Ob.lst q.2)) → ∃ vs, SqL G.K H p vs ∧ RTs G.K (Ban (G.o O1) β st) H vs xs
def SrcT (G : Gx) (β0 : List Addr) (st0 : Sto) (H0 : Hp) (p : Addr) (xs : List PyData) : Prop := ∀ O1 : Addr → Prop, (∀ p, O1 p → G.O0 p ∨ H0 p = none) → ∀ β H st, Fut G β0 st0 H0 β st H → Rl (G.o O1) β H st →
  ∃ vs, SqT G.K H p vs ∧ RTs G.K (Ban (G.o O1) β st) H vs xs
def srcOf (st : Sto) : U → Option (List PyData × List (Nat × List PyData))
  | .d (.list xs) => some (xs, [])
  | .d (.tuple xs) => some (xs, [])
  | .ref i => match st.obs[i]? with | some (.lst xs) => some (xs, [(i, xs)]) | _ => none
  | _ => none
def mAny (m : ME) : MI := fun l st => (m l st).bind fun u st => match srcOf st u with
  | some (xs, own) => .ok ⟨xs, own⟩ st
  | none => .no
def rangeD (lo c : Int) (n : Nat) : List PyData := (List.range n).map fun i => .int (lo + (i : Nat) * c)
theorem itr_r {lo : Int} {n : Nat} : ItR G β st H (Itr lo n) ⟨rangeD lo 1 n, []⟩ := fun O1 hO β1 H1 st1 f rl1 hk i => by
  refine ⟨fun y hy => ?_, fun hi => (show n ≤ i by simpa [rangeD] using hi)⟩
  have hi : i < n := by
    have := (List.getElem?_eq_some_iff.mp hy).1
    simpa [rangeD] using this
  refine ⟨hi, fun x H' hyl => ?_⟩
  obtain ⟨rfl, rfl⟩ := hyl
  have e : (rangeD lo 1 n)[i]? = some (.int (lo + (i : Nat) * 1)) := by simp [rangeD, hi]
  rw [Int.mul_one] at e
  rw [e] at hy; cases hy
  exact ⟨.inl rfl, .int _⟩
def rOk (i : Int) : Bool := decide (-(2 ^ 62) ≤ i ∧ i < 2 ^ 62)
theorem int1 {vs : List V} {i : Int} (p : PUs G β st H vs [.d (.int i)]) : vs = [.int i] := by
  have p' : Paired (fun v u => RU G β (Ban G β st) H v u) vs [.d (.int i)] := p
  cases p' with
  | cons r q => cases q; cases ru_int r; rfl
def mR1 (a : MA) : MI := fun l st => (a l st).bind fun us st => match us with
  | [.d (.int j)] => if rOk j = true then .ok ⟨rangeD 0 1 j.toNat, []⟩ st else .no
  | _ => .no
theorem i_r1 {ta : TA} {a : MA} (h : SimA G ta a) : SimI G (iRng1 ta) (mR1 a) := fun β H σ l st re R q => by
  refine h β H σ l st re _ (wpR_bind q fun vs us H1 β1 st1 f1 rl1 p1 h1 => ?_)
  split at h1
  · rename_i j
    split at h1
    · rename_i hr
      have hr' := of_decide_eq_true hr
      exact ⟨j, int1 p1, hr'.1, hr'.2, h1 _ H1 β1 Fut.refl rl1 itr_r⟩
    · exact h1.elim
  · exact h1.elim
def mR2 (a : MA) : MI := fun l st => (a l st).bind fun us st => match us with
  | [.d (.int i), .d (.int j)] => if (rOk i && rOk j) = true then .ok ⟨rangeD i 1 (j - i).toNat, []⟩ st else .no
  | _ => .no
def mRev (m : ME) : MI := fun l st => (m l st).bind fun u st => match srcOf st u with
  | some (xs, own) => .ok ⟨xs.reverse, own⟩ st
  | none => .no
end
end NW
namespace NW
open PySem PySem.Spec PyProof.Rows L2
section
variable {G : Gx} {β β' : List Addr} {st st' : Sto} {H H' : Hp} {v : V} {u : U} {σ σ' : L2.St} {l l' : Loc} {D : Ends}
theorem list_h (rl : Rl G β H st) (h : RU G β (Ban G β st) H v u) {xs : List PyData} (e : listOf st u = some xs) : ∃ p vs, v = .ref p ∧ H p = some (.lst vs) ∧ RTs G.K (Ban G β st) H vs xs := by
  unfold listOf at e
  split at e
  · cases e
    cases h with
    | lst a b => exact ⟨_, _, rfl, a.1, b⟩
  · rename_i i
    split at e
    · rename_i hy
      cases e
      obtain ⟨p, h1, rfl⟩ := h
      obtain ⟨q, vs, a, b, c⟩ := rl.ob i _ hy
      rw [h1] at a; cases a
      exact ⟨p, vs, rfl, b, c⟩
    · cases e
  · cases e
def wipeL (l : Loc) : List Nat → Loc
  | [] => l
  | v :: vs => (wipeL l vs).set v none
theorem wipe_re {B : Addr → Prop} (h : RLoc G β B H σ l) : ∀ vs, RLoc G β B H (wipe σ vs) (wipeL l vs)
  | [] => h
  | i :: vs => by
    have ih := wipe_re h vs
    refine ⟨by unfold wipe wipeL; rw [List.length_set, List.length_set, ih.len], fun j w e => ?_⟩
    unfold wipeL at e
    by_cases hj : j = i
    · subst hj
      have hl : j < (wipeL l vs).length := by
        have := (List.getElem?_eq_some_iff.mp e).1
        rw [List.length_set] at this; exact this
      rw [List.getElem?_set_self hl] at e
      cases e
    · rw [List.getElem?_set_ne (Ne.symm hj)] at e
      unfold wipe
      rw [List.getElem?_set_ne (Ne.symm hj)]
      exact ih.at_ j w e
theorem wipe_get (σ : L2.St) : ∀ (vs : List Nat) (i : Nat), (wipe σ vs)[i]? = if i ∈ vs then (if i < σ.length then some none else none) else σ[i]?
  | [], i => by simp [wipe]
  | v :: vs, i => by
    unfold wipe
    rw [List.getElem?_set]
    have ih := wipe_get σ vs i
    rw [wipe_length]
    by_cases e : v = i
    · subst e; simp
    · rw [if_neg e, ih]
      have e' : ¬ i = v := fun q => e q.symm
      simp [e']
theorem wipe_same {σ1 σ2 : L2.St} {vs ws : List Nat} (hs : ∀ i ∈ ws, i ∈ vs) (hl : σ2.length = σ1.length) (h : ∀ i, i ∉ ws → σ2[i]? = σ1[i]?) : wipe σ2 vs = wipe σ1 vs := by
  apply List.ext_getElem?
  intro i
  rw [wipe_get, wipe_get, hl]
  split
  · rfl
  · rename_i n
    exact h i fun z => n (hs i z)
theorem wipe_idem (σ : L2.St) (vs : List Nat) : wipe (wipe σ vs) vs = wipe σ vs := by
  apply List.ext_getElem?
  intro i
  rw [wipe_get, wipe_get, wipe_length]
  split
  · rfl
  · rfl
def Res.noX {α : Type} (r : Res α) : Res α := match r with
  | .ok a s => .ok a s
  | _ => .no
def Res.isOk {α : Type} (r : Res α) : Prop := ∃ a s, r = .ok a s
theorem noX_bind {α γ : Type} {r : Res α} {k : α → Sto → Res γ} (h : (r.noX.bind k).isOk) : ∃ a s, r = .ok a s ∧ (k a s).isOk := by
  cases r with
  | ok a s => exact ⟨a, s, rfl, h⟩
  | ex e s => obtain ⟨_, _, z⟩ := h; cases z
  | no => obtain ⟨_, _, z⟩ := h; cases z
theorem bind_isOk {α γ : Type} {r : Res α} {k : α → Sto → Res γ} (h : (r.bind k).isOk) : ∃ a s, r = .ok a s ∧ (k a s).isOk := by
  cases r with
  | ok a s => exact ⟨a, s, rfl, h⟩
  | ex e s => obtain ⟨_, _, z⟩ := h; cases z
  | no => obtain ⟨_, _, z⟩ := h; cases z
theorem wpR_isOk {α γ : Type} {P : List Addr → Sto → Hp → γ → α → Prop} {r : Res α} {a : α} {Q : γ → Hp → Prop} (e : r = .ok a st') (h : ∀ v H' β', Fut G β st H β' st' H' → Rl G β' H' st' → P β' st' H' v a → Q v H') : wpR G β H σ st P r Q := by
  subst e; exact h
open Classical in
noncomputable def lcM (d : ItD) (vs : List Nat) (t : MT) (c : MB) (m : ME) (l : Loc) : List PyData → Sto → Res (List PyData)
  | [], st => if d.chk st then .ok [] st else .no
  | x :: xs, st => if d.chk st then (t (.d x) (wipeL l vs) st).noX.bind fun l1 st => (c l1 st).noX.bind fun b st => if b = true then (m l1 st).noX.bind fun u st => (match u with
      | .d y => (lcM d vs t c m l xs st).bind fun ys st => .ok (y :: ys) st
      | _ => .no) else lcM d vs t c m l xs st else .no
noncomputable def lLc (mi : MI) (vs : List Nat) (t : MT) (c : MB) (m : ME) : ML := fun l st => (mi l st).bind fun d st => if lenOk d.items.length = true then lcM d vs t c m l d.items st else .no
theorem lcM_noEx {d : ItD} {vs : List Nat} {t : MT} {c : MB} {m : ME} {l : Loc} : ∀ (xs : List PyData) (st : Sto), (lcM d vs t c m l xs st).noEx
  | [], st => by unfold lcM; split <;> trivial
  | x :: xs, st => by
    unfold lcM
    split
    · cases e1 : t (.d x) (wipeL l vs) st with
      | ok l1 s1 =>
        show ((c l1 s1).noX.bind _).noEx
        cases e2 : c l1 s1 with
        | ok b s2 =>
          show (if b = true then _ else _ : Res (List PyData)).noEx
          cases b with
          | true =>
            rw [if_pos rfl]
            cases e3 : m l1 s2 with
            | ok u s3 =>
              cases u with
              | d y =>
                show ((lcM d vs t c m l xs s3).bind _).noEx
                have ih := lcM_noEx (d := d) (vs := vs) (t := t) (c := c) (m := m) (l := l) xs s3
                cases e4 : lcM d vs t c m l xs s3 with
                | ok ys s4 => trivial
                | ex e s4 => rw [e4] at ih; exact ih
                | no => trivial
              | _ => trivial
            | ex e s3 => trivial
            | no => trivial
          | false =>
            rw [if_neg Bool.false_ne_true]
            exact lcM_noEx xs s2
        | ex e s2 => trivial
        | no => trivial
      | ex e s1 => trivial
      | no => trivial
    · trivial
theorem Rl.ban (rl : Rl G β H st) {D : Addr} {o : HO} (hD : H D = none) (ho : ∀ vs, ¬ Rd (upd H D o) D (.tup vs)) : Rl (G.ban D) β (upd H D o) st := by
  have f : Fut G β st H β st (upd H D o) := Fut.new hD
  have kk : Keep (Ban G β st) H (Ban (G.ban D) β st) (upd H D o) := fun b x hb n => by
    have hne : b ≠ D := ne_of_none hb hD
    refine ⟨by rw [upd_ne hne]; exact hb, ?_⟩
    rintro ((h | h) | h)
    · exact n (.inl h)
    · exact hne h
    · exact n (.inr h)
  refine ⟨rl.len, rl.nodup, fun q hq => f.there q (rl.trk q hq), fun i xs h nd => ?_, fun g hg => ?_, fun q hq => ?_⟩
  · obtain ⟨q, vs, a, b, c⟩ := rl.oo i xs h nd
    exact ⟨q, vs, a, by rw [upd_ne (ne_of_none b hD)]; exact b, c.imp fun ds vs z => RTs.mono kk ds vs z⟩
  · obtain ⟨⟨a, b⟩, c⟩ := rl.flo g hg
    exact ⟨⟨by show upd H D o G.fa = _; rw [upd_ne (ne_of_none a hD)]; exact a, kk _ _ b.1 b.2⟩, c⟩
  · rcases hq with hq | hq
    · exact rl.o0_fut f q hq (rl.o0 q hq).2.1
    · subst hq
      exact ⟨by rw [upd_same]; simp, fun w => rl.notBan hD (.inr w), ho⟩
theorem RLoc.ban (h : RLoc G β (Ban G β st) H σ l) {D : Addr} {o : HO} (hD : H D = none) : RLoc (G.ban D) β (Ban (G.ban D) β st) (upd H D o) σ l := by
  have kk : Keep (Ban G β st) H (Ban (G.ban D) β st) (upd H D o) := fun b x hb n => by
    have hne : b ≠ D := ne_of_none hb hD
    refine ⟨by rw [upd_ne hne]; exact hb, ?_⟩
    rintro ((h | h) | h)
    · exact n (.inl h)
    · exact hne h
    · exact n (.inr h)
  refine ⟨h.len, fun i w e => ?_⟩
  obtain ⟨v, h1, h2⟩ := h.at_ i w e
  refine ⟨v, h1, ?_⟩
  cases w with
  | d x => exact RT.mono kk x v h2
  | ref i => exact h2
  | flow => exact h2
  | scr ns =>
    obtain ⟨p, z1, z2⟩ := h2
    exact ⟨p, z1, z2.imp (fun z => kk.rd z) id⟩
  | dct es =>
    obtain ⟨p, o, kvs, z1, z2, z3, z4⟩ := h2
    exact ⟨p, o, kvs, z1, kk _ _ z2.1 z2.2, z3, RTs.mono kk _ _ z4⟩
def cutH (H : Hp) (D : Addr) : Hp := fun b => if b = D then none else H b
theorem cutH_upd {D : Addr} {o : HO} (h : H D = some o) : upd (cutH H D) D o = H := by
  funext b
  unfold upd cutH
  split
  · rename_i e; subst e; exact h.symm
  · rfl
theorem cutH_ne {D b : Addr} (h : b ≠ D) : cutH H D b = H b := by unfold cutH; rw [if_neg h]
theorem cut_keep {D : Addr} : Keep (Ban (G.ban D) β st) H (Ban G β st) (cutH H D) := fun b o h n => by
  have e : b ≠ D := fun e => n (.inl (.inr e))
  exact ⟨by rw [cutH_ne e]; exact h, fun w => n (w.imp .inl id)⟩
theorem Rl.unban {D : Addr} (rl : Rl (G.ban D) β H st) (hb : D ∉ β) (hO : ¬ G.O0 D) : Rl G β (cutH H D) st := by
  have nD : ¬ Own G β st D := (rl.o0 D (.inr rfl)).2.1
  have ne : ∀ q ∈ β, q ≠ D := fun q hq e => hb (e ▸ hq)
  refine ⟨rl.len, rl.nodup, fun q hq => by rw [cutH_ne (ne q hq)]; exact rl.trk q hq, fun i xs h nd => ?_, fun g hg => ?_, fun q hq => ?_⟩
  · obtain ⟨q, vs, a, b, c⟩ := rl.oo i xs h nd
    exact ⟨q, vs, a, by rw [cutH_ne (ne q (List.mem_of_getElem? a))]; exact b, c.imp fun ds vs z => RTs.mono cut_keep ds vs z⟩
  · obtain ⟨⟨a, b⟩, c⟩ := rl.flo g hg
    have n1 : G.fa ≠ D := fun e => nD (.inl ⟨by rw [hg]; rfl, e.symm⟩)
    exact ⟨⟨by show cutH H D G.fa = _; rw [cutH_ne n1]; exact a, cut_keep _ _ b.1 b.2⟩, c⟩
  · obtain ⟨a, b, c⟩ := rl.o0 q (.inl hq)
    by_cases e : q = D
    · subst e; exact absurd hq hO
    · refine ⟨by rw [cutH_ne e]; exact a, b, fun vs h => c vs ?_⟩
      unfold Rd at h ⊢
      rw [cutH_ne e] at h; exact h
theorem Fut.ban {D : Addr} : Fut (G.ban D) β st H β' st' H' ↔ Fut G β st H β' st' H' := ⟨fun f => ⟨f.ext, f.there, f.stay⟩, fun f => ⟨f.ext, f.there, f.stay⟩⟩
theorem grow {D : Addr} {H0 : Hp} (f : Fut G β st H0 β' st' H) (hD0 : H0 D = none) (rl : Rl (G.ban D) β' H st') {o o' : HO} (hD : H D = some o) (ho : ∀ vs, ¬ Rd (upd H D o') D (.tup vs)) :
    Fut G β st H0 β' st' (upd H D o') ∧ Rl (G.ban D) β' (upd H D o') st' ∧ Keep (Ban (G.ban D) β' st') H (Ban (G.ban D) β' st') (upd H D o') := by
  have nD : ¬ Own G β' st' D := (rl.o0 D (.inr rfl)).2.1
  have kk : Keep (Ban (G.ban D) β' st') H (Ban (G.ban D) β' st') (upd H D o') := fun b x hb n => by
    have e : b ≠ D := fun e => n (.inl (.inr e))
    exact ⟨by rw [upd_ne e]; exact hb, n⟩
  have nb : ∀ q (xs : Ob), (∃ i : Nat, st'.obs[i]? = some xs ∧ xs ≠ Ob.dead ∧ β'[i]? = some q) → q ≠ D := fun q xs ⟨i, h1, nd, h2⟩ e => nD (.inr ⟨i, xs, h1, nd, e ▸ h2⟩)
  refine ⟨⟨f.ext, fun b hb => ?_, fun b x hb n => ?_⟩, ⟨rl.len, rl.nodup, fun q hq => ?_, fun i xs h nd => ?_, fun g hg => ?_, fun q hq => ?_⟩, kk⟩
  · by_cases e : b = D
    · rw [e, upd_same]; simp
    · rw [upd_ne e]; exact f.there b hb
  · have e : b ≠ D := ne_of_none hb hD0
    have z := f.stay b x hb n
    exact ⟨by rw [upd_ne e]; exact z.1, z.2⟩
  · by_cases e : q = D
    · rw [e, upd_same]; simp
    · rw [upd_ne e]; exact rl.trk q hq
  · obtain ⟨q, vs, a, b, c⟩ := rl.oo i xs h nd
    exact ⟨q, vs, a, by rw [upd_ne (nb q xs ⟨i, h, nd, a⟩)]; exact b, c.imp fun ds vs z => RTs.mono kk ds vs z⟩
  · obtain ⟨⟨a, b⟩, c⟩ := rl.flo g hg
    have n1 : G.fa ≠ D := fun e => nD (.inl ⟨by rw [hg]; rfl, e.symm⟩)
    exact ⟨⟨by show upd H D o' G.fa = _; rw [upd_ne n1]; exact a, kk _ _ b.1 b.2⟩, c⟩
  · obtain ⟨a, b, c⟩ := rl.o0 q hq
    by_cases e : q = D
    · subst e
      exact ⟨by rw [upd_same]; simp, b, ho⟩
    · refine ⟨by rw [upd_ne e]; exact a, b, fun vs h => c vs ?_⟩
      unfold Rd at h ⊢
      rw [upd_ne e] at h; exact h
theorem Fut.notin {D : Addr} (f : Fut G β st H β' st' H') (h : D ∉ β) (t : H D ≠ none) : D ∉ β' := fun z => by
  obtain ⟨γ, rfl, h1⟩ := f.ext
  rcases List.mem_append.mp z with z | z
  · exact h z
  · exact t (h1 D z)
theorem no_tup {D : Addr} {xs : List V} (vs : List V) : ¬ Rd (upd H D (.lst xs)) D (.tup vs) := by
  rintro (h | ⟨o, h⟩) <;> (rw [upd_same] at h; cases h)
theorem n_lc {wi : TI} {g : TG} {tt : TT} {te : TE} {vs ws : List Nat} {mi : MI} {mt : MT} {c : MB} {m : ME} (hi : SimI G wi mi) (hg : ∀ D, SimG (G.ban D) ws g mt) (hsub : ∀ i ∈ ws, i ∈ vs)
    (hc : ∀ D, SimT (G.ban D) tt c) (he : ∀ D, SimE (G.ban D) te m) : SimN G (tLc wi g tt te vs) (lLc mi vs mt c m) := fun β H σ l st re Q q => by
  refine hi β H σ l st re _ (wpN_bind q fun J d H1 β1 st1 f1 rl1 itr q1 => ?_)
  have re1 := f1.re rl1 re
  intro D hD
  split at q1
  · rename_i hlen
    have hlen' : d.items.length ≤ sizeLine := of_decide_eq_true hlen
    cases eM : lcM d vs mt c m l d.items st1 with
    | no => rw [eM] at q1; exact q1.elim
    | ex e s => have z := lcM_noEx (d := d) (vs := vs) (t := mt) (c := c) (m := m) (l := l) d.items st1; rw [eM] at z; exact z.elim
    | ok ysE stE =>
      rw [eM] at q1
      have nO : ¬ G.O0 D := fun z => (rl1.o0 D z).1 hD
      have fD : Fut G β1 st1 H1 β1 st1 (upd H1 D (.lst [])) := Fut.new hD
      refine ⟨fun i mm H2 => mm = d.items.length - i ∧ ∃ β2 st2 acc ds ys, Fut G β1 st1 H1 β2 st2 H2 ∧ D ∉ β2 ∧ Rl (G.ban D) β2 H2 st2 ∧ RLoc (G.ban D) β2 (Ban (G.ban D) β2 st2) H2 σ l ∧ H2 D = some (.lst acc) ∧ RTs G.K (Ban (G.ban D) β2 st2) H2 acc ds ∧ ds.length ≤ i ∧ lcM d vs mt c m l (d.items.drop i) st2 = .ok ys stE ∧ ds ++ ys = ysE,
        ⟨_, rfl, β1, st1, [], [], ysE, fD, fun z => rl1.trk D z hD, rl1.ban hD no_tup, re1.lo.ban hD, upd_same, .nil, Nat.le_refl _, eM, rfl⟩, ?_⟩
      rintro i mm H2 ⟨rfl, β2, st2, acc, ds, ys, f2, hb, rl2, lo2, hDa, ra, hdl, eR, eY⟩
      have itr' := itr (fun p => G.O0 p ∨ p = D) (fun p h => h.elim .inl fun z => .inr (by rw [z]; exact hD)) β2 H2 st2 f2 rl2
      cases hd : d.items[i]? with
      | none =>
        have hl : d.items.length ≤ i := List.getElem?_eq_none_iff.mp hd
        rw [List.drop_eq_nil_of_le hl, lcM] at eR
        split at eR
        · rename_i hk
          refine .inl ⟨(itr' hk i).2 hl, ?_⟩
          cases eR
          rw [List.append_nil] at eY; subst eY
          have f3 : Fut G β1 st1 H1 β2 stE (cutH H2 D) := by
            refine ⟨f2.ext, fun b hb' => ?_, fun b x hb' n => ?_⟩
            · have e : b ≠ D := fun e => hb' (e ▸ hD)
              rw [cutH_ne e]; exact f2.there b hb'
            · have e : b ≠ D := ne_of_none hb' hD
              have z := f2.stay b x hb' n
              exact ⟨by rw [cutH_ne e]; exact z.1, z.2⟩
          have z := q1 (cutH H2 D) β2 f3 (rl2.unban hb nO) D acc (by unfold cutH; rw [if_pos rfl]) (RTs.mono cut_keep _ _ ra)
          rw [cutH_upd hDa] at z
          exact z
        · cases eR
      | some y =>
        obtain ⟨hlt, ey⟩ := List.getElem?_eq_some_iff.mp hd
        rw [List.drop_eq_getElem_cons hlt, ey, lcM] at eR
        split at eR
        · rename_i hk
          obtain ⟨hgo, hy⟩ := (itr' hk i).1 y hd
          refine .inr ⟨hgo, fun H3 => ∃ β2 st2 acc ds ys, Fut G β1 st1 H1 β2 st2 H3 ∧ D ∉ β2 ∧ Rl (G.ban D) β2 H3 st2 ∧ RLoc (G.ban D) β2 (Ban (G.ban D) β2 st2) H3 σ l ∧ H3 D = some (.lst acc) ∧ RTs G.K (Ban (G.ban D) β2 st2) H3 acc ds ∧ ds.length ≤ i + 1 ∧ lcM d vs mt c m l (d.items.drop (i + 1)) st2 = .ok ys stE ∧ ds ++ ys = ysE, fun H3 h => ⟨_, by omega, rfl, h⟩, fun x H3 hyl => ?_⟩
          obtain ⟨hcH, rx⟩ := hy x H3 hyl
          obtain ⟨f3, rl3⟩ := it_fut rl2 hcH
          have lo3 := f3.rloc lo2
          obtain ⟨l1, s1, e1, ok1⟩ := noX_bind (r := mt (.d y) (wipeL l vs) st2) ⟨ys, stE, eR⟩
          rw [e1] at eR
          refine hg D β2 H3 (wipe σ vs) (wipeL l vs) st2 ⟨rl3, wipe_re lo3 vs⟩ x (.d y) rx _ (wpR_isOk e1 fun σ4 H4 β4 f4 rl4 p4 => ?_)
          refine ⟨(wipe_same hsub p4.2.1 p4.2.2).trans (wipe_idem σ vs), ?_⟩
          have eR1 : ((c l1 s1).noX.bind fun b st => if b = true then (m l1 st).noX.bind fun u st => (match u with
              | .d y => (lcM d vs mt c m l (d.items.drop (i + 1)) st).bind fun ys st => .ok (y :: ys) st
              | _ => .no) else lcM d vs mt c m l (d.items.drop (i + 1)) st) = .ok ys stE := eR
          obtain ⟨b, s2, e2, ok2⟩ := noX_bind (r := c l1 s1) ⟨ys, stE, eR1⟩
          rw [e2] at eR1
          refine hc D β4 H4 σ4 l1 s1 ⟨rl4, p4.1⟩ _ (wpR_isOk e2 fun b' H5 β5 f5 rl5 p5 => ?_)
          cases (show b' = b from p5)
          have ff5 : Fut (G.ban D) β2 st2 H2 β5 s2 H5 := (f3.trans f4).trans f5
          have hD5 : H5 D = some (.lst acc) := (ff5.stay D _ hDa (rl2.o0 D (.inr rfl)).2.1).1
          have eR2 : (if b = true then (m l1 s2).noX.bind fun u st => (match u with
              | .d y => (lcM d vs mt c m l (d.items.drop (i + 1)) st).bind fun ys st => .ok (y :: ys) st
              | _ => .no) else lcM d vs mt c m l (d.items.drop (i + 1)) s2) = .ok ys stE := eR1
          cases b with
          | false =>
            rw [if_neg Bool.false_ne_true] at eR2
            show (if false = true then _ else _)
            rw [if_neg Bool.false_ne_true]
            exact ⟨β5, s2, acc, ds, ys, f2.trans (Fut.ban.mp ff5), ff5.notin hb (by rw [hDa]; simp), rl5, ff5.rloc lo2, hD5, ff5.rts ra, by omega, eR2, eY⟩
          | true =>
            rw [if_pos rfl] at eR2
            show (if true = true then _ else _)
            rw [if_pos rfl]
            obtain ⟨w, s3, e3, ok3⟩ := noX_bind (r := m l1 s2) ⟨ys, stE, eR2⟩
            rw [e3] at eR2
            refine he D β5 H5 σ4 l1 s2 ⟨rl5, f5.rloc p4.1⟩ _ (wpR_isOk e3 fun yv H6 β6 f6 rl6 p6 => ?_)
            have ff6 : Fut (G.ban D) β2 st2 H2 β6 s3 H6 := ff5.trans f6
            have hD6 : H6 D = some (.lst acc) := (ff6.stay D _ hDa (rl2.o0 D (.inr rfl)).2.1).1
            cases w with
            | d z =>
              have eR3 : ((lcM d vs mt c m l (d.items.drop (i + 1)) s3).bind fun ys st => .ok (z :: ys) st) = .ok ys stE := eR2
              obtain ⟨ys', s4, e4, _⟩ := bind_isOk (r := lcM d vs mt c m l (d.items.drop (i + 1)) s3) ⟨ys, stE, eR3⟩
              rw [e4] at eR3
              cases eR3
              have ra6 := ff6.rts ra
              refine ⟨acc, hD6, by rw [ra.len]; omega, ?_⟩
              obtain ⟨f7, rl7, k7⟩ := grow (o' := .lst (acc ++ [yv])) (f2.trans (Fut.ban.mp ff6)) hD rl6 hD6 no_tup
              refine ⟨β6, s3, acc ++ [yv], ds ++ [z], ys', f7, ff6.notin hb (by rw [hDa]; simp), rl7, ?_, upd_same, ?_, by simp; omega, e4, by rw [List.append_assoc]; exact eY⟩
              · have lo6 := ff6.rloc lo2
                refine ⟨lo6.len, fun j w e => ?_⟩
                obtain ⟨v, h1, h2⟩ := lo6.at_ j w e
                refine ⟨v, h1, ?_⟩
                cases w with
                | d x => exact RT.mono k7 x v h2
                | ref i => exact h2
                | flow => exact h2
                | scr ns =>
                  obtain ⟨p, z1, z2⟩ := h2
                  exact ⟨p, z1, z2.imp (fun z => k7.rd z) id⟩
                | dct es =>
                  obtain ⟨p, o, kvs, z1, z2, z3, z4⟩ := h2
                  exact ⟨p, o, kvs, z1, k7 _ _ z2.1 z2.2, z3, RTs.mono k7 _ _ z4⟩
              · exact (RTs.mono k7 _ _ ra6).append (.cons (RT.mono k7 z yv p6) .nil)
            | ref k => cases eR2
            | flow => cases eR2
            | scr k => cases eR2
            | dct k => cases eR2
        · cases eR
  · exact q1.elim
end
end NW
namespace NW
open PySem PySem.Spec PyProof.Rows L2
section
variable {G : Gx} {β β' : List Addr} {st st' : Sto} {H H' : Hp} {v : V} {u : U} {σ σ' : L2.St} {l l' : Loc} {D : Ends}
def SimC (G : Gx) (r : List V → Hp → VK → Prop) (f : List U → Sto → Res U) : Prop := ∀ β H σ l st, Re G β H σ l st → ∀ xs us Q, PUs G β st H xs us → wpR G β H σ st (PU G) (f us st) Q → r xs H Q
def SimCN (G : Gx) (r : List V → Hp → VK → Prop) (f : List U → Sto → Res (List PyData)) : Prop := ∀ β H σ l st, Re G β H σ l st → ∀ xs us Q, PUs G β st H xs us → wpN G β H σ st (f us st) Q → r xs H Q
def eCB (f : List U → Sto → Res U) (a : MA) : ME := fun l st => (a l st).bind f
def lCB (f : List U → Sto → Res (List PyData)) (a : MA) : ML := fun l st => (a l st).bind f
theorem s_cb {r : List V → Hp → VK → Prop} {f : List U → Sto → Res U} {ta : TA} {a : MA} (hr : SimC G r f) (ha : SimA G ta a) : SimE G (tCB r ta) (eCB f a) := fun β H σ l st re Q h =>
  ha β H σ l st re _ (wpR_bind h fun vs us H1 β1 st1 f1 rl1 p1 h1 => hr β1 H1 σ l st1 (f1.re rl1 re) vs us Q p1 h1)
theorem n_cb {r : List V → Hp → VK → Prop} {f : List U → Sto → Res (List PyData)} {ta : TA} {a : MA} (hr : SimCN G r f) (ha : SimA G ta a) : SimN G (tCB r ta) (lCB f a) := fun β H σ l st re Q h =>
  ha β H σ l st re _ (wpN_bind h fun vs us H1 β1 st1 f1 rl1 p1 h1 => hr β1 H1 σ l st1 (f1.re rl1 re) vs us Q p1 h1)
theorem one_u {vs : List V} {u : U} (p : PUs G β st H vs [u]) : ∃ v, vs = [v] ∧ RU G β (Ban G β st) H v u := by
  have p' : Paired (fun v u => RU G β (Ban G β st) H v u) vs [u] := p
  cases p' with
  | cons r q => cases q; exact ⟨_, rfl, r⟩
def cLen : List U → Sto → Res U := fun us st => match us with
  | [.scr ns] => .ok (.d (.int ns.length)) st
  | [.d (.str z)] => if lenOk z.length = true then .ok (.d (.int z.length)) st else .no
  | [u] => (match seqOf st u with
    | some xs => .ok (.d (.int xs.length)) st
    | none => .no)
  | _ => .no
theorem c_len : SimC G (fun xs H Q => ∃ x n, xs = [x] ∧ LenV G.K x H n ∧ Q (.int n) H) cLen := fun β H σ l st re xs us Q p h => by
  unfold cLen at h
  split at h
  · rename_i ns
    obtain ⟨v, rfl, r⟩ := one_u p
    obtain ⟨q, rfl, s⟩ := r
    exact ⟨_, (ns.map V.int).length, rfl, .inl ⟨_, s.q, rfl⟩, by rw [List.length_map]; exact wpR_d re.rl (.int _) h⟩
  · rename_i z
    obtain ⟨v, rfl, r⟩ := one_u p
    cases ru_str r
    split at h
    · rename_i q
      exact ⟨_, z.length, rfl, ⟨of_decide_eq_true q, rfl⟩, wpR_d re.rl (.int _) h⟩
    · exact h.elim
  · obtain ⟨v, rfl, r⟩ := one_u p
    split at h
    · rename_i xs e
      obtain ⟨q, vs, rfl, s, r'⟩ := seq_q re.rl r e
      refine ⟨_, vs.length, rfl, ?_, ?_⟩
      · rcases s with s | s
        · exact .inl ⟨vs, s, rfl⟩
        · exact .inr ⟨vs, s, rfl⟩
      · rw [r'.len]; exact wpR_d re.rl (.int _) h
    · exact h.elim
  · exact h.elim
def cAbs : List U → Sto → Res U := fun us st => match us with
  | [.d (.int i)] => .ok (.d (.int (if i < 0 then -i else i))) st
  | _ => .no
def cInt : List U → Sto → Res U := fun us st => match us with
  | [.d (.int i)] => .ok (.d (.int i)) st
  | [.d (.bool k)] => .ok (.d (.int (if k then 1 else 0))) st
  | _ => .no
def cMax2 : List U → Sto → Res U := fun us st => match us with
  | [.d (.int i), .d (.int j)] => .ok (.d (.int (if j > i then j else i))) st
  | _ => .no
def cMin2 : List U → Sto → Res U := fun us st => match us with
  | [.d (.int i), .d (.int j)] => .ok (.d (.int (if j < i then j else i))) st
  | _ => .no
def intsOf : List PyData → Option (List Int)
  | [] => some []
  | .int i :: r => (intsOf r).map (i :: ·)
  | _ :: _ => none
def boolsOf : List PyData → Option (List Bool)
  | [] => some []
  | .bool i :: r => (boolsOf r).map (i :: ·)
  | _ :: _ => none
theorem boolsOf_eq : ∀ {xs : List PyData} {ns : List Bool}, boolsOf xs = some ns → xs = ns.map PyData.bool
  | [], ns, h => by cases h; rfl
  | .bool i :: r, ns, h => by
    have h' : (boolsOf r).map (i :: ·) = some ns := h
    cases e : boolsOf r with
    | none => rw [e] at h'; cases h'
    | some ms => rw [e] at h'; cases h'; rw [boolsOf_eq e]; rfl
  | .none :: _, _, h => by cases h
  | .int _ :: _, _, h => by cases h
  | .str _ :: _, _, h => by cases h
  | .list _ :: _, _, h => by cases h
  | .tuple _ :: _, _, h => by cases h
  | .dict _ :: _, _, h => by cases h
@[simp] theorem intsOf_map : ∀ (ns : List Int), intsOf (ns.map PyData.int) = some ns
  | [] => rfl
  | n :: ns => by show (intsOf (ns.map PyData.int)).map (n :: ·) = _; rw [intsOf_map ns]; rfl
@[simp] theorem boolsOf_map : ∀ (ns : List Bool), boolsOf (ns.map PyData.bool) = some ns
  | [] => rfl
  | n :: ns => by show (boolsOf (ns.map PyData.bool)).map (n :: ·) = _; rw [boolsOf_map ns]; rfl
def cInts (f : List Int → Option PyData) : List U → Sto → Res U := fun us st => match us with
  | [u] => (match (listOf st u).bind intsOf with
    | some ns => (match f ns with
      | some x => .ok (.d x) st
      | none => .no)
    | none => .no)
  | _ => .no
def maxI : List Int → Option Int
  | [] => none
  | x :: xs => some (xs.foldl (fun a b => if b > a then b else a) x)
def minI : List Int → Option Int
  | [] => none
  | x :: xs => some (xs.foldl (fun a b => if b < a then b else a) x)
def cMaxL : List U → Sto → Res U := cInts fun ns => (maxI ns).map PyData.int
def cMinL : List U → Sto → Res U := cInts fun ns => (minI ns).map PyData.int
def cSum : List U → Sto → Res U := cInts fun ns => some (.int ns.sum)
theorem bools_q (rl : Rl G β H st) (h : RU G β (Ban G β st) H v u) {ns : List Bool} (e : (listOf st u).bind boolsOf = some ns) : ∃ p, v = .ref p ∧ SqL G.K H p (ns.map V.bl) := by
  cases q : listOf st u with
  | none => rw [q] at e; cases e
  | some xs =>
    rw [q] at e
    have e2 := boolsOf_eq (show boolsOf xs = some ns from e)
    subst e2
    obtain ⟨p, vs, a, b, c⟩ := list_q rl h q
    rw [c.bools] at b
    exact ⟨p, a, b⟩
def cBools (f : List Bool → Bool) : List U → Sto → Res U := fun us st => match us with
  | [u] => (match (listOf st u).bind boolsOf with
    | some ns => .ok (.d (.bool (f ns))) st
    | none => .no)
  | _ => .no
def cAll : List U → Sto → Res U := cBools fun ns => ns.all id
def cAny : List U → Sto → Res U := cBools fun ns => ns.any id
theorem c_all : SimC G (rAll G.K) cAll := fun β H σ l st re xs us Q p h => by
  unfold cAll cBools at h
  split at h
  · obtain ⟨v, rfl, r⟩ := one_u p
    split at h
    · rename_i ns e
      obtain ⟨q, rfl, s⟩ := bools_q re.rl r e
      exact ⟨q, ns, rfl, s, wpR_d re.rl (.bl _) h⟩
    · exact h.elim
  · exact h.elim
def cListOf : List U → Sto → Res (List PyData) := fun us st => match us with
  | [.scr ns] => .ok (ns.map .int) st
  | [u] => (match seqOf st u with
    | some xs => .ok xs st
    | none => .no)
  | _ => .no
theorem c_listOf : SimCN G (fun xs H Q => ∃ p ys, xs = [.ref p] ∧ (SqL G.K H p ys ∨ SqT G.K H p ys) ∧ ∀ l, H l = none → Q (.ref l) (upd H l (.lst ys))) cListOf := fun β H σ l st re xs us Q p h => by
  unfold cListOf at h
  split at h
  · rename_i ns
    obtain ⟨v, rfl, r⟩ := one_u p
    obtain ⟨q, rfl, s⟩ := r
    exact ⟨q, _, rfl, .inl s.q, fun z hz => h H β Fut.refl re.rl z _ hz (RTs.ofInts ns)⟩
  · obtain ⟨v, rfl, r⟩ := one_u p
    split at h
    · rename_i ys e
      obtain ⟨q, vs, rfl, s, r'⟩ := seq_q re.rl r e
      exact ⟨q, vs, rfl, s, fun z hz => h H β Fut.refl re.rl z vs hz r'⟩
    · exact h.elim
  · exact h.elim
def cTupOf : List U → Sto → Res U := fun us st => match us with
  | [.d (.tuple xs)] => .ok (.d (.tuple xs)) st
  | [u] => (match listOf st u with
    | some xs => .ok (.d (.tuple xs)) st
    | none => .no)
  | _ => .no
def tyName : PyData → String
  | .none => "NoneType"
  | .bool _ => "bool"
  | .int _ => "int"
  | .str _ => "str"
  | .list _ => "list"
  | .tuple _ => "tuple"
  | .dict _ => "dict"
def isiT (x : PyData) (T : String) : Bool := tyName x == T || (T == "int" && tyName x == "bool")
def tyOk (T : String) : Bool := ["int", "bool", "list", "tuple", "str"].contains T
theorem kit5 : ∀ n ∈ (["NoneType", "bool", "int", "str", "list", "tuple"] : List String), ∀ T ∈ (["int", "bool", "list", "tuple", "str"] : List String), kitB n T = some (n == T || (T == "int" && n == "bool")) := by decide +kernel
theorem isi_kit {K : PySem.W.Frag} {x : PyData} {T : String} (h : tyOk T = true) (hd : tyName x ≠ "dict") : PySem.W.kitOne K (.type (tyName x)) (.type T) = some (isiT x T) := by
  apply kit_ty
  refine kit5 _ ?_ T (List.contains_iff_mem.mp h)
  cases x with
  | dict k => exact absurd rfl hd
  | _ => simp [tyName]
theorem tyX (rl : Rl G β H st) (h : RU G β (Ban G β st) H v u) {x : PyData} (e : toTree st u = some x) : TyX G.K H v (.type (tyName x)) ∧ tyName x ≠ "dict" := by
  cases u with
  | d y =>
    cases e
    cases h with
    | non => exact ⟨.base .non, by decide⟩
    | bl b => exact ⟨.base (.bl b), by simp [tyName]⟩
    | int i => exact ⟨.base (.int i), by simp [tyName]⟩
    | str z => exact ⟨.base (.str z), by simp [tyName]⟩
    | lst a b => exact ⟨.base (.lst a.1), by show "list" ≠ "dict"; decide⟩
    | tup a b =>
      refine ⟨?_, by show "tuple" ≠ "dict"; decide⟩
      rcases a with ⟨a | ⟨o, a⟩, _⟩ | ⟨o, its, n, hk, hc, _⟩
      · exact .base (.tup a)
      · exact .fTuple a
      · exact .kTuple hk hc
  | flow => cases e
  | scr ns => cases e
  | dct es => cases e
  | ref i =>
    simp only [toTree] at e
    split at e
    · rename_i ys hy
      cases e
      obtain ⟨p, h1, rfl⟩ := h
      obtain ⟨q, vs, a, b, c⟩ := rl.ob i ys hy
      rw [h1] at a; cases a
      exact ⟨.base (.lst b), by show "list" ≠ "dict"; decide⟩
    · cases e
def eIsi (m : ME) (T : String) : ME := fun l st => (m l st).bind fun u st => match toTree st u with
  | some x => if tyOk T = true then .ok (.d (.bool (isiT x T))) st else .no
  | none => .no
theorem s_isi {t : TE} {m : ME} {T : String} (h : SimE G t m) : SimE G (tCB (rIsi G.K) (tCons t (tCons (tC (.ty T)) tNil))) (eIsi m T) := fun β H σ l st re Q q => by
  refine h β H σ l st re _ (wpR_bind q fun v u H1 β1 st1 f1 rl1 p1 h1 => ?_)
  show ∃ (x c : V) (t u : Value) (b : Bool), [v, .ty T] = [x, c] ∧ _
  split at h1
  · rename_i x e
    split at h1
    · rename_i hT
      obtain ⟨ty, nd⟩ := tyX rl1 p1 e
      exact ⟨v, .ty T, _, .type T, isiT x T, rfl, .ty T, ty, isi_kit hT nd, wpR_d rl1 (.bl _) h1⟩
    · exact h1.elim
  · exact h1.elim
def tTys : List String → TA
  | [] => tNil
  | T :: r => tCons (tC (.ty T)) (tTys r)
theorem tTys_run : ∀ (Ts : List String) (σ : L2.St) (H : Hp) (Q : List V → Hp → Prop), Q (Ts.map V.ty) H → tTys Ts σ H Q
  | [], _, _, _, h => h
  | T :: r, σ, H, Q, h => tTys_run r σ H (fun xs H2 => Q (.ty T :: xs) H2) h
def eIsiT (m : ME) (Ts : List String) : ME := fun l st => (m l st).bind fun u st => match toTree st u with
  | some x => if (Ts.all tyOk && decide (Ts.length ≤ 8)) = true then .ok (.d (.bool (Ts.any (isiT x)))) st else .no
  | none => .no
theorem kitAnyT {K : PySem.W.Frag} {x : PyData} (nd : tyName x ≠ "dict") : ∀ {Ts : List String}, Ts.all tyOk = true → PySem.W.kitAny K (.type (tyName x)) (Ts.map Value.type) = some (Ts.any (isiT x))
  | [], _ => kitAny_nil
  | T :: r, h => by
    rw [List.all_cons, Bool.and_eq_true] at h
    have ih := kitAnyT (K := K) nd h.2
    rw [List.any_cons]
    refine kitAny_cons (isi_kit h.1 nd) (fun e => ?_) fun e => ?_
    · rw [e, Bool.false_or]; exact ih
    · rw [e, Bool.true_or]
theorem cls_tys : ∀ (Ts : List String), Paired ClsV (Ts.map V.ty) (Ts.map Value.type)
  | [] => .nil
  | T :: r => .cons (.ty T) (cls_tys r)
theorem s_isiT {t : TE} {m : ME} {Ts : List String} (h : SimE G t m) : SimE G (tCB (rIsiT G.K) (tCons t (tCons (tTup (tTys Ts)) tNil))) (eIsiT m Ts) := fun β H σ l st re Q q => by
  refine h β H σ l st re _ (wpR_bind q fun v u H1 β1 st1 f1 rl1 p1 h1 => ?_)
  split at h1
  · rename_i x e
    split at h1
    · rename_i hT
      rw [Bool.and_eq_true] at hT
      obtain ⟨ty, nd⟩ := tyX rl1 p1 e
      refine tTys_run Ts σ H1 _ ⟨by rw [List.length_map]; exact Nat.le_trans (of_decide_eq_true hT.2) (by rw [sizeLine_eq]; decide), fun p hp => ?_⟩
      have f2 : Fut G β1 st1 H1 β1 st1 (upd H1 p (.tup (Ts.map V.ty))) := Fut.new hp
      obtain ⟨ty2, _⟩ := tyX (rl1.new hp) (f2.ru p1) e
      exact ⟨v, p, Ts.map V.ty, _, Ts.map Value.type, _, rfl, upd_same, cls_tys Ts, ty2, kitAnyT nd hT.1, h1 _ _ β1 f2 (rl1.new hp) (.bl _)⟩
    · exact h1.elim
  · exact h1.elim
def isLst (st : Sto) (u : U) : Bool := (listOf st u).isSome
def eMethL (f : U → List U → Sto → Res U) (o : ME) (a : MA) : ME := fun l st => (o l st).bind fun x st => if isLst st x = true then (a l st).bind fun us st => f x us st else .no
def ownL (st : Sto) : U → Option (Nat × List PyData)
  | .ref i => match st.obs[i]? with | some (.lst xs) => some (i, xs) | _ => none
  | _ => none
def mAppend : U → List U → Sto → Res U := fun o us st => match ownL st o, us with
  | some (i, xs), [.d y] => if decide (xs.length < sizeLine) = true then .ok (.d .none) (st.put i (xs ++ [y])) else .no
  | _, _ => .no
theorem RTs.dropLast {B : Addr → Prop} {K : PySem.W.Frag} {xs : List PyData} {vs : List V} (r : RTs K B H vs xs) : RTs K B H vs.dropLast xs.dropLast := by
  rw [List.dropLast_eq_take, List.dropLast_eq_take, r.len]
  exact r.take _
def mPop : U → List U → Sto → Res U := fun o us st => match ownL st o, us with
  | some (i, xs), [] => (match xs[xs.length - 1]? with
    | some y => .ok (.d y) (st.put i xs.dropLast)
    | none => .no)
  | _, _ => .no
def lOp (f : U → U → Sto → Res (List PyData)) (a b : ME) : ML := fun l st => (a l st).bind fun x st => (b l st).bind fun y st => f x y st
def fRep : U → U → Sto → Res (List PyData) := fun a b st => match listOf st a, b with
  | some xs, .d (.int k) => if (decide (-(2 ^ 63) ≤ k ∧ k < 2 ^ 63) && lenOk (xs.length * k.toNat)) = true then .ok (List.replicate k.toNat xs).flatten st else .no
  | _, _ => .no
theorem rts_rep {B : Addr → Prop} {K : PySem.W.Frag} {xs : List PyData} {vs : List V} (r : RTs K B H vs xs) : ∀ n, RTs K B H (List.replicate n vs).flatten (List.replicate n xs).flatten
  | 0 => .nil
  | n + 1 => by
    rw [List.replicate_succ, List.replicate_succ, List.flatten_cons, List.flatten_cons]
    exact r.append (rts_rep r n)
end
end NW
namespace NW
open PySem PySem.Spec PyProof.Rows L2
inductive Rp where
  | ok (d : PyData) (fresh : Bool) | ex (e : Exc) | no
inductive Rf where
  | ok (d : PyData) (fresh : Bool) (fl : Fl) | ex (e : Exc) (fl : Fl) | no
def startL (n : Nat) (us : List U) : Loc := us.map some ++ List.replicate (n - us.length) none
def outP (o : Out) : Rp := match o with
  | .rt (.d x) _ => .ok x false
  | .rt (.ref i) st => (match st.obs[i]? with
    | some (.lst xs) => .ok (.list xs) true
    | _ => .no)
  | .nx _ _ => .ok .none false
  | .ex e _ _ => .ex e
  | _ => .no
def outF (o : Out) : Rf := match o with
  | .rt (.d x) st => (match st.fl with
    | some f => .ok x false f
    | none => .no)
  | .rt (.ref i) st => (match st.obs[i]?, st.fl with
    | some (.lst xs), some f => .ok (.list xs) true f
    | _, _ => .no)
  | .nx _ st => (match st.fl with
    | some f => .ok .none false f
    | none => .no)
  | .ex e _ st => (match st.fl with
    | some f => .ex e f
    | none => .no)
  | _ => .no
def pureOf (n : Nat) (b : MS) (ds : List PyData) : Rp := outP (b (startL n (ds.map .d)) ⟨none, []⟩)
def flowOf (n : Nat) (b : MS) (ds : List PyData) (f : Fl) : Rf := outF (b (startL n (.flow :: ds.map .d)) ⟨some f, []⟩)
def NoTup (H : Hp) (O0 : Addr → Prop) : Prop := ∀ p, O0 p → H p ≠ none ∧ ∀ ws, ¬ Rd H p (.tup ws)
def Fresh (K : PySem.W.Frag) (O0 : Addr → Prop) (H H' : Hp) (v : V) (d : PyData) : Prop := ∃ p ws ys, v = .ref p ∧ H p = none ∧ H' p = some (.lst ws) ∧ d = .list ys ∧ RTs K O0 H' ws ys
def spP (K : PySem.W.Frag) (k : Nat) (m : List PyData → Rp) : Sp := fun vs H Q _ => ∃ (O0 : Addr → Prop) (ds : List PyData) (d : PyData) (fr : Bool), NoTup H O0 ∧ RTs K O0 H vs ds ∧ ds.length = k ∧ m ds = .ok d fr ∧
  ∀ v H', (∀ b o, H b = some o → H' b = some o) → RT K O0 H' v d → (fr = true → Fresh K O0 H H' v d) → Q v H'
def spF (K : PySem.W.Frag) (k : Nat) (m : List PyData → Fl → Rf) : Sp := fun vs H Q _ => ∃ (fa fb : Addr) (O0 : Addr → Prop) (f : Fl) (vs' : List V) (ds : List PyData) (d : PyData) (fr : Bool) (f' : Fl), vs = .ref fa :: vs' ∧ NoTup H O0 ∧ ¬ O0 fa ∧ H fa = some (.lst (flV fb f)) ∧
  H fb = some (.lst (f.cells.map V.int)) ∧ fb ≠ fa ∧ ¬ O0 fb ∧ RTs K (fun p => O0 p ∨ p = fa) H vs' ds ∧ ds.length + 1 = k ∧ m ds f = .ok d fr f' ∧
  ∀ v H', (∀ b o, H b = some o → b ≠ fa → H' b = some o) → H' fa = some (.lst (flV fb f')) → f'.cells = f.cells → RT K (fun p => O0 p ∨ p = fa) H' v d → (fr = true → Fresh K (fun p => O0 p ∨ p = fa) H H' v d) → Q v H'
theorem ints_inj : ∀ {a b : List Int}, a.map V.int = b.map V.int → a = b
  | [], [], _ => rfl
  | [], _ :: _, h => by cases h
  | _ :: _, [], h => by cases h
  | x :: a, y :: b, h => by
    rw [List.map_cons, List.map_cons] at h
    injection h with h1 h2
    injection h1 with h1
    rw [h1, ints_inj h2]
section
variable {P : Program} {w : World} {K : PySem.W.Frag} {mg : Str → Option Value} {base : Heap}
theorem start_len (N : List Str) {vs : List V} {us : List U} (h : vs.length = us.length) (hl : us.length ≤ N.length) : (L2.start N vs).length = (startL N.length us).length := by
  unfold L2.start startL; simp [h]
theorem start_get (N : List Str) {n : Nat} {vs : List V} {us : List U} {i : Nat} {u : U} (e : (startL n us)[i]? = some (some u)) : us[i]? = some u := by
  unfold startL at e
  by_cases h : i < us.length
  · rw [List.getElem?_append_left (by simpa using h)] at e
    rw [List.getElem?_map] at e
    cases q : us[i]? with
    | none => rw [q] at e; cases e
    | some w => rw [q] at e; cases e; rfl
  · rw [List.getElem?_append_right (by simpa using h)] at e
    have := List.getElem?_eq_some_iff.mp e
    obtain ⟨h1, h2⟩ := this
    rw [List.getElem_replicate] at h2; cases h2
theorem start_getV (N : List Str) {vs : List V} {i : Nat} {v : V} (e : vs[i]? = some v) : (L2.start N vs)[i]? = some (some v) := by
  unfold L2.start
  have h : i < vs.length := (List.getElem?_eq_some_iff.mp e).1
  rw [List.getElem?_append_left (by simpa using h), List.getElem?_map, e]; rfl
theorem rp_end {G : Gx} {H : Hp} {o : Out} {Q : VK} {d : PyData} {fr : Bool} (hG : G.K = K) (e : outP o = .ok d fr) (q : ∀ v H', (∀ b o, H b = some o → H' b = some o) → RT K G.O0 H' v d → (fr = true → Fresh K G.O0 H H' v d) → Q v H') :
    wpS G [] H ⟨none, []⟩ o { nx := fun _ H' => Q .non H', rt := Q } := by
  subst hG
  have own0 : ∀ b, ¬ Own G [] ⟨none, []⟩ b := fun b h => by
    rcases h with ⟨h, _⟩ | ⟨i, xs, h, _⟩
    · cases h
    · simp at h
  unfold outP at e
  split at e
  · cases e
    exact fun v H' β' f rl r => q v H' (fun b o h => (f.stay b o h (own0 b)).1) (RT.weak (fun a h => .inl h) _ _ r) (fun z => by cases z)
  · rename_i i st
    split at e
    · rename_i xs hx
      cases e
      intro v H' β' f rl r
      obtain ⟨p, h1, rfl⟩ := r
      obtain ⟨p', vs, a, b, c⟩ := rl.ob i xs hx
      rw [h1] at a; cases a
      have c' : RTs G.K G.O0 H' vs xs := RTs.weak (fun a h => .inl h) _ _ c
      have hf : H p = none := by
        obtain ⟨γ, e, hγ⟩ := f.ext
        rw [List.nil_append] at e; subst e
        exact hγ p (List.mem_of_getElem? h1)
      exact q _ H' (fun b o h => (f.stay b o h (own0 b)).1) (.lst ⟨b, fun z => (rl.o0 p z).2.1 (.inr ⟨i, _, hx, (by intro z; cases z), h1⟩)⟩ c') (fun _ => ⟨p, vs, xs, rfl, hf, b, rfl, c'⟩)
    · cases e
  · cases e
    exact fun σ' H' β' f re => q .non H' (fun b o h => (f.stay b o h (own0 b)).1) .non (fun z => by cases z)
  · cases e
  · cases e
theorem okP {x qual : Str} {st : Stmt} {f : Addr} {fd : FuncData} {N ps : List Str} {k : Nat} {b : MS} (F : Fun K x qual st f fd) (S : FnScope N ps (defScope st)) (hN : ps.length ≤ N.length)
    (hb : ∀ (cdv : Value) (A : Around) (outer : List Env) (s : Shared) (H : Hp) (E : XK), Room k (A.deeper (envOfC qual (defScope st) s.heap.objs.size f cdv)) →
      ∃ t, PSs (cxOf CX0 P w K mg base N qual (defScope st) f cdv A outer s H E).nox (defBody st) t ∧ ∀ G : Gx, G.K = K → SimS G t b) :
    FnOk P w K mg base CX0 (k + 1) f fd ps (spP K ps.length (pureOf N.length b)) := by
  refine F.ok S (fun vs H Q E h => ?_) (fun cdv A outer s H vs Q E hr h => ?_)
  · obtain ⟨O0, ds, d, fr, _, r, hl, _⟩ := h
    rw [r.len, hl]
  · obtain ⟨O0, ds, d, fr, hO, r, hl, e, q⟩ := h
    obtain ⟨t, ht, hs⟩ := hb cdv A outer s H E hr
    refine ⟨t, ht, ?_⟩
    have own0 : ∀ b, ¬ Own ⟨K, 0, 0, O0, fun _ => none, fun _ _ _ _ => False⟩ [] ⟨none, []⟩ b := fun b h => by
      rcases h with ⟨h, _⟩ | ⟨i, xs, h, _⟩
      · cases h
      · simp at h
    have re : Re ⟨K, 0, 0, O0, fun _ => none, fun _ _ _ _ => False⟩ [] H (L2.start N vs) (startL N.length (ds.map .d)) ⟨none, []⟩ := by
      refine ⟨⟨rfl, .nil, fun p hp => by simp at hp, fun i xs h => by simp at h, fun f h => (by cases h), fun p hp => ⟨(hO p hp).1, own0 p, (hO p hp).2⟩⟩, ⟨start_len N (by rw [r.len]; simp) (by simp; omega), fun i u e => ?_⟩⟩
      have e1 := start_get N (vs := vs) e
      rw [List.getElem?_map] at e1
      cases e2 : ds[i]? with
      | none => rw [e2] at e1; cases e1
      | some y =>
        rw [e2] at e1; cases e1
        obtain ⟨v, h1, h2⟩ := r.get e2
        exact ⟨v, start_getV N h1, RT.weak (fun a h => h.elim id fun z => (own0 a z).elim) _ _ h2⟩
    exact hs ⟨K, 0, 0, O0, fun _ => none, fun _ _ _ _ => False⟩ rfl [] H _ _ _ re _ (rp_end (K := K) rfl e q)
theorem rf_end {G : Gx} {H : Hp} {f : Fl} {o : Out} {Q : VK} {d : PyData} {fr : Bool} {f' : Fl} (hG : G.K = K) (hfb : H G.fb = some (.lst (f.cells.map V.int))) (hne : G.fb ≠ G.fa) (e : outF o = .ok d fr f')
    (q : ∀ v H', (∀ b o, H b = some o → b ≠ G.fa → H' b = some o) → H' G.fa = some (.lst (flV G.fb f')) → f'.cells = f.cells → RT K (fun p => G.O0 p ∨ p = G.fa) H' v d → (fr = true → Fresh K (fun p => G.O0 p ∨ p = G.fa) H H' v d) → Q v H') :
    wpS G [] H ⟨some f, []⟩ o { nx := fun _ H' => Q .non H', rt := Q } := by
  subst hG
  have own0 : ∀ b, Own G [] ⟨some f, []⟩ b → b = G.fa := fun b h => by
    rcases h with ⟨_, h⟩ | ⟨i, xs, h, _⟩
    · exact h
    · simp at h
  have bn : ∀ {β' : List Addr} {st' : Sto}, st'.fl = some f' → ∀ a, (G.O0 a ∨ a = G.fa) → Ban G β' st' a := fun h a z => z.imp id fun z => .inl ⟨by rw [h]; rfl, z⟩
  have fin : ∀ {β' : List Addr} {st' : Sto} {H' : Hp}, st'.fl = some f' → Fut G [] ⟨some f, []⟩ H β' st' H' → Rl G β' H' st' → (∀ b o, H b = some o → b ≠ G.fa → H' b = some o) ∧ H' G.fa = some (.lst (flV G.fb f')) ∧ f'.cells = f.cells := fun {β' st' H'} h f1 rl => by
    have s1 : ∀ b o, H b = some o → b ≠ G.fa → H' b = some o := fun b o hb n => (f1.stay b o hb fun z => n (own0 b z)).1
    obtain ⟨⟨h1, h2⟩, _⟩ := rl.flo f' h
    have h3 := s1 _ _ hfb hne
    rw [h2.1] at h3
    refine ⟨s1, h1, ints_inj ?_⟩
    injection h3 with h3; injection h3
  unfold outF at e
  split at e
  · rename_i x st
    split at e
    · rename_i g hg
      cases e
      intro v H' β' f1 rl r
      obtain ⟨a, b, c⟩ := fin hg f1 rl
      exact q v H' a b c (RT.weak (bn hg) _ _ r) (fun z => by cases z)
    · cases e
  · rename_i i st
    split at e
    · rename_i xs g hx hg
      cases e
      intro v H' β' f1 rl r
      obtain ⟨a0, b0, c0⟩ := fin hg f1 rl
      obtain ⟨p, h1, rfl⟩ := r
      obtain ⟨p', vs, a, b, c⟩ := rl.ob i xs hx
      rw [h1] at a; cases a
      have c' : RTs G.K (fun p => G.O0 p ∨ p = G.fa) H' vs xs := RTs.weak (bn hg) _ _ c
      have hf : H p = none := by
        obtain ⟨γ, e, hγ⟩ := f1.ext
        rw [List.nil_append] at e; subst e
        exact hγ p (List.mem_of_getElem? h1)
      refine q _ H' a0 b0 c0 (.lst ⟨b, fun z => ?_⟩ c') (fun _ => ⟨p, vs, xs, rfl, hf, b, rfl, c'⟩)
      rcases z with z | z
      · exact (rl.o0 p z).2.1 (.inr ⟨i, _, hx, (by intro z; cases z), h1⟩)
      · exact (rl.flo _ hg).2 (z ▸ List.mem_of_getElem? h1)
    · cases e
  · split at e
    · rename_i g hg
      cases e
      intro σ' H' β' f1 re
      obtain ⟨a, b, c⟩ := fin hg f1 re.rl
      exact q .non H' a b c .non (fun z => by cases z)
    · cases e
  · split at e <;> cases e
  · cases e
theorem okF {x qual : Str} {st : Stmt} {f : Addr} {fd : FuncData} {N ps : List Str} {k : Nat} {b : MS} (F : Fun K x qual st f fd) (S : FnScope N ps (defScope st)) (hN : ps.length ≤ N.length)
    (hb : ∀ (cdv : Value) (A : Around) (outer : List Env) (s : Shared) (H : Hp) (E : XK), Room k (A.deeper (envOfC qual (defScope st) s.heap.objs.size f cdv)) →
      ∃ t, PSs (cxOf CX0 P w K mg base N qual (defScope st) f cdv A outer s H E).nox (defBody st) t ∧ ∀ G : Gx, G.K = K → SimS G t b) :
    FnOk P w K mg base CX0 (k + 1) f fd ps (spF K ps.length (flowOf N.length b)) := by
  refine F.ok S (fun vs H Q E h => ?_) (fun cdv A outer s H vs Q E hr h => ?_)
  · obtain ⟨fa, fb, O0, g, vs', ds, d, fr, g', rfl, _, _, _, _, _, _, r, hl, _⟩ := h
    rw [List.length_cons, r.len, hl]
  · obtain ⟨fa, fb, O0, g, vs', ds, d, fr, g', rfl, hO, hO1, h1, h2, hne, hO2, r, hl, e, q⟩ := h
    obtain ⟨t, ht, hs⟩ := hb cdv A outer s H E hr
    refine ⟨t, ht, ?_⟩
    have own0 : ∀ b, Own ⟨K, fa, fb, O0, fun _ => none, fun _ _ _ _ => False⟩ [] ⟨some g, []⟩ b ↔ b = fa := fun b => ⟨fun h => by
      rcases h with ⟨_, h⟩ | ⟨i, xs, h, _⟩
      · exact h
      · simp at h, fun h => .inl ⟨rfl, h⟩⟩
    have bn : ∀ a, Ban ⟨K, fa, fb, O0, fun _ => none, fun _ _ _ _ => False⟩ [] ⟨some g, []⟩ a → (O0 a ∨ a = fa) := fun a h => h.imp id (own0 a).mp
    have re : Re ⟨K, fa, fb, O0, fun _ => none, fun _ _ _ _ => False⟩ [] H (L2.start N (.ref fa :: vs')) (startL N.length (.flow :: ds.map .d)) ⟨some g, []⟩ := by
      refine ⟨⟨rfl, .nil, fun p hp => by simp at hp, fun i xs h => by simp at h, fun f h => ?_, fun p hp => ⟨(hO p hp).1, fun z => hO1 ((own0 p).mp z ▸ hp), (hO p hp).2⟩⟩, ⟨start_len N (by simp [r.len]) (by simp; omega), fun i u e => ?_⟩⟩
      · cases h
        exact ⟨⟨h1, h2, fun z => (bn _ z).elim hO2 hne⟩, by simp⟩
      · have e1 := start_get N (vs := .ref fa :: vs') e
        cases i with
        | zero => simp at e1; subst e1; exact ⟨.ref fa, start_getV N rfl, rfl⟩
        | succ i =>
          rw [List.getElem?_cons_succ, List.getElem?_map] at e1
          cases e2 : ds[i]? with
          | none => rw [e2] at e1; cases e1
          | some y =>
            rw [e2] at e1; cases e1
            obtain ⟨v, h1, h2⟩ := r.get e2
            exact ⟨v, start_getV N (by simpa using h1), RT.weak bn _ _ h2⟩
    exact hs ⟨K, fa, fb, O0, fun _ => none, fun _ _ _ _ => False⟩ rfl [] H _ _ _ re _ (rf_end (K := K) rfl h2 hne e q)
end
def ctrees (st : Sto) : List U → Option (List PyData)
  | [] => some []
  | u :: us => match toTree st u, ctrees st us with
    | some x, some xs => some (x :: xs)
    | _, _ => none
def isRef : U → Bool
  | .ref _ => true
  | _ => false
mutual
def noLst : PyData → Bool
  | .list _ => false
  | .tuple xs => noLsts xs
  | _ => true
def noLsts : List PyData → Bool
  | [] => true
  | x :: xs => noLst x && noLsts xs
end
section
variable {G : Gx} {β β' : List Addr} {st st' : Sto} {H H' : Hp} {v : V} {u : U} {σ σ' : L2.St} {l l' : Loc} {D : Ends}
mutual
theorem RT.noLst {K : PySem.W.Frag} {B B' : Addr → Prop} (hB : ∀ p ws, Rd H p (.tup ws) → ¬ B' p) : ∀ (d : PyData) (v : V), noLst d = true → RT K B H v d → RT K B' H v d
  | .none, _, _, h => by cases h; exact .non
  | .bool b, _, _, h => by cases h; exact .bl b
  | .int i, _, _, h => by cases h; exact .int i
  | .str x, _, _, h => by cases h; exact .str x
  | .list ds, _, n, h => by simp [NW.noLst] at n
  | .tuple ds, _, n, h => by
    cases h with
    | tup hs ha => exact .tup (hs.imp (fun z => ⟨z.1, hB _ _ z.1⟩) id) (RTs.noLst hB ds _ (by simpa [NW.noLst] using n) ha)
  | .dict _, _, _, h => by cases h
theorem RTs.noLst {K : PySem.W.Frag} {B B' : Addr → Prop} (hB : ∀ p ws, Rd H p (.tup ws) → ¬ B' p) : ∀ (ds : List PyData) (vs : List V), noLsts ds = true → RTs K B H vs ds → RTs K B' H vs ds
  | [], _, _, h => by cases h; exact .nil
  | d :: ds, _, n, h => by
    rw [NW.noLsts, Bool.and_eq_true] at n
    cases h with
    | cons h1 h2 => exact .cons (RT.noLst hB d _ n.1 h1) (RTs.noLst hB ds _ n.2 h2)
end
theorem toTree_d {x : PyData} (e : toTree st u = some x) (n : isRef u = false) : u = .d x := by
  cases u with
  | d y => cases e; rfl
  | ref i => cases n
  | flow => cases e
  | scr k => cases e
  | dct k => cases e
theorem ctrees_r : ∀ {us : List U} {vs : List V} {ds : List PyData}, Paired (fun v u => RU G β (Ban G β st) H v u) vs us → ctrees st us = some ds → us.any isRef = false → RTs G.K (Ban G β st) H vs ds
  | [], _, ds, .nil, e, _ => by cases e; exact .nil
  | u :: us, _, ds, .cons h t, e, n => by
    rw [List.any_cons, Bool.or_eq_false_iff] at n
    unfold ctrees at e
    split at e
    · rename_i x xs e1 e2
      cases e
      cases toTree_d e1 n.1
      exact .cons h (ctrees_r t e2 n.2)
    · cases e
theorem ctrees_0 (rl : Rl G β H st) {B' : Addr → Prop} (hB : ∀ p, B' p → Ban G β st p ∧ p ∉ β) : ∀ {us : List U} {vs : List V} {ds : List PyData}, Paired (fun v u => RU G β (Ban G β st) H v u) vs us → ctrees st us = some ds → RTs G.K B' H vs ds
  | [], _, ds, .nil, e => by cases e; exact .nil
  | u :: us, _, ds, .cons h t, e => by
    unfold ctrees at e
    split at e
    · rename_i x xs e1 e2
      cases e
      refine .cons ?_ (ctrees_0 rl hB t e2)
      cases u with
      | d y => cases e1; exact RT.weak (fun p z => (hB p z).1) _ _ h
      | flow => cases e1
      | scr k => cases e1
      | dct k => cases e1
      | ref i =>
        simp only [toTree] at e1
        split at e1
        · rename_i ys hy
          cases e1
          obtain ⟨p, h1, rfl⟩ := h
          obtain ⟨q, vs, a, b, c⟩ := rl.ob i ys hy
          rw [h1] at a; cases a
          exact .lst ⟨b, fun z => (hB p z).2 (List.mem_of_getElem? h1)⟩ (RTs.weak (fun p z => (hB p z).1) _ _ c)
        · cases e1
    · cases e
theorem Rl.grown (rl : Rl G β H st) (k : ∀ b o, H b = some o → H' b = some o) : Fut G β st H β st H' ∧ Rl G β H' st := by
  have f : Fut G β st H β st H' := ⟨⟨[], by simp, by simp⟩, fun b h => by
    cases e : H b with
    | none => exact absurd e h
    | some o => rw [k b o e]; simp, fun b o h n => ⟨k b o h, n⟩⟩
  refine ⟨f, rl.len, rl.nodup, fun q hq => f.there q (rl.trk q hq), fun i xs h nd => ?_, fun g hg => ?_, fun q hq => rl.o0_fut f q hq (rl.o0 q hq).2.1⟩
  · obtain ⟨q, vs, a, b, c⟩ := rl.oo i xs h nd
    exact ⟨q, vs, a, k _ _ b, f.obr c⟩
  · obtain ⟨⟨a, b⟩, c⟩ := rl.flo g hg
    exact ⟨⟨k _ _ a, b.fut f⟩, c⟩
theorem Rl.noTupB (rl : Rl G β H st) : NoTup H (Ban G β st) := fun p h => ⟨fun e => rl.notBan e h, fun ws => rl.banNoTup h ws⟩
def fCallP (k : Nat) (m : List PyData → Rp) (us : List U) (st : Sto) : Res U := match ctrees st us with
  | some ds => if ds.length = k then (match m ds with
    | .ok d _ => if (!us.any isRef || noLst d) = true then .ok (.d d) st else .no
    | _ => .no) else .no
  | none => .no
def eCallP (k : Nat) (m : List PyData → Rp) (a : MA) : ME := fun l st => (a l st).bind (fCallP k m)
theorem s_callP {k : Nat} {m : List PyData → Rp} {ta : TA} {a : MA} {E : XK} (ha : SimA G ta a) : SimE G (tCall (spP G.K k m) [] E ta) (eCallP k m a) := fun β H σ l st re Q h => by
  refine ha β H σ l st re _ (wpR_bind h fun vs us H1 β1 st1 f1 rl1 p1 h1 => ?_)
  show spP G.K k m (vs ++ []) H1 Q E
  rw [List.append_nil]
  unfold fCallP at h1
  split at h1
  · rename_i ds e
    split at h1
    · rename_i hk
      split at h1
      · rename_i d fr e2
        split at h1
        · rename_i hc
          by_cases hr : us.any isRef = false
          · refine ⟨Ban G β1 st1, ds, d, fr, rl1.noTupB, ctrees_r p1 e hr, hk, e2, fun v H' kk rt _ => ?_⟩
            obtain ⟨f2, rl2⟩ := rl1.grown kk
            exact h1 v H' β1 f2 rl2 rt
          · have hr' : us.any isRef = true := by simpa using hr
            rw [hr'] at hc
            refine ⟨fun _ => False, ds, d, fr, fun p h => h.elim, ctrees_0 rl1 (fun p z => z.elim) p1 e, hk, e2, fun v H' kk rt _ => ?_⟩
            obtain ⟨f2, rl2⟩ := rl1.grown kk
            exact h1 v H' β1 f2 rl2 (RT.noLst (fun p ws z => rl2.tupB z) _ _ (by simpa using hc) rt)
        · exact h1.elim
      · exact h1.elim
    · exact h1.elim
  · exact h1.elim
def fCallF (k : Nat) (m : List PyData → Fl → Rf) (us : List U) (st : Sto) : Res U := match us, st.fl with
  | .flow :: us, some f => (match ctrees st us with
    | some ds => if ds.length + 1 = k then (match m ds f with
      | .ok d _ f' => if (!us.any isRef || noLst d) = true then .ok (.d d) { st with fl := some f' } else .no
      | _ => .no) else .no
    | none => .no)
  | _, _ => .no
def eCallF (k : Nat) (m : List PyData → Fl → Rf) (a : MA) : ME := fun l st => (a l st).bind (fCallF k m)
theorem s_callF {k : Nat} {m : List PyData → Fl → Rf} {ta : TA} {a : MA} {E : XK} (ha : SimA G ta a) : SimE G (tCall (spF G.K k m) [] E ta) (eCallF k m a) := fun β H σ l st re Q h => by
  refine ha β H σ l st re _ (wpR_bind h fun vs us H1 β1 st1 f1 rl1 p1 h1 => ?_)
  show spF G.K k m (vs ++ []) H1 Q E
  rw [List.append_nil]
  unfold fCallF at h1
  split at h1
  · rename_i us0 f hf
    split at h1
    · rename_i ds e
      split at h1
      · rename_i hk
        split at h1
        · rename_i d fr f' e2
          split at h1
          · rename_i hc
            have p1' : Paired (fun v u => RU G β1 (Ban G β1 st1) H1 v u) vs (.flow :: us0) := p1
            cases p1' with
            | cons r0 rs =>
              rename_i v0 vs0
              cases (show v0 = .ref G.fa from r0)
              obtain ⟨⟨a0, b0⟩, c0⟩ := rl1.flo f hf
              have ofa : Own G β1 st1 G.fa := .inl ⟨by rw [hf]; rfl, rfl⟩
              have hne : G.fb ≠ G.fa := fun e => b0.2 (.inr (e ▸ ofa))
              by_cases hr : us0.any isRef = false
              · have eb : ∀ p, (Ban G β1 st1 p ∧ p ≠ G.fa) ∨ p = G.fa ↔ Ban G β1 st1 p := fun p => ⟨fun h => h.elim (·.1) fun e => .inr (e ▸ ofa), fun h => by
                  by_cases e : p = G.fa
                  · exact .inr e
                  · exact .inl ⟨h, e⟩⟩
                refine ⟨G.fa, G.fb, fun p => Ban G β1 st1 p ∧ p ≠ G.fa, f, vs0, ds, d, fr, f', rfl, fun p h => rl1.noTupB p h.1, fun h => h.2 rfl, a0, b0.1, hne, fun h => b0.2 h.1, RTs.weak (fun p h => (eb p).mp h) _ _ (ctrees_r rs e hr), hk, e2, fun v H' kk hfa hcl rt _ => ?_⟩
                obtain ⟨f2, rl2⟩ := flow_end rl1 hf kk hfa hcl
                exact h1 v H' β1 f2 rl2 (RT.weak (fun p h => (eb p).mpr (h.imp id (own_fl hf p).mp)) _ _ rt)
              · have hr' : us0.any isRef = true := by simpa using hr
                rw [hr'] at hc
                have b1 : RTs G.K (fun p => False ∨ p = G.fa) H1 vs0 ds := ctrees_0 rl1 (fun p z => z.elim False.elim fun z => ⟨z ▸ .inr ofa, z ▸ c0⟩) rs e
                refine ⟨G.fa, G.fb, fun _ => False, f, vs0, ds, d, fr, f', rfl, fun p h => h.elim, fun h => h, a0, b0.1, hne, fun h => h, b1, hk, e2, fun v H' kk hfa hcl rt _ => ?_⟩
                obtain ⟨f2, rl2⟩ := flow_end rl1 hf kk hfa hcl
                exact h1 v H' β1 f2 rl2 (RT.noLst (fun p ws z => rl2.tupB z) _ _ (by simpa using hc) rt)
          · exact h1.elim
        · exact h1.elim
      · exact h1.elim
    · exact h1.elim
  · exact h1.elim
end
end NW
namespace NW
open PySem PySem.Spec PyProof.Rows L2
structure QE (X : Cx) (e : Expr) (t : TE) (m : ME) : Prop where
  pe : PE X e t
  sim : ∀ G : Gx, G.K = X.K → SimE G t m
structure QN (X : Cx) (e : Expr) (t : TE) (m : ML) : Prop where
  pe : PE X e t
  sim : ∀ G : Gx, G.K = X.K → SimN G t m
structure QT (X : Cx) (e : Expr) (t : TT) (m : MB) : Prop where
  pt : PT X e t
  sim : ∀ G : Gx, G.K = X.K → SimT G t m
structure QW (X : Cx) (e : Expr) (t : TT) (m : MB) : Prop where
  pw : PW X e t
  sim : ∀ G : Gx, G.K = X.K → SimT G t m
structure QA (X : Cx) (es : List Expr) (t : TA) (m : MA) : Prop where
  pa : PA X es t
  sim : ∀ G : Gx, G.K = X.K → SimA G t m
structure QO (X : Cx) (e : Option Expr) (t : TO) (m : MO) : Prop where
  po : L2.PO X e t
  sim : ∀ G : Gx, G.K = X.K → SimO G t m
structure QI (X : Cx) (tg e : Expr) (t : TI) (m : MI) : Prop where
  pi : PI X tg e t
  sim : ∀ G : Gx, G.K = X.K → SimI G t m
structure QG (X : Cx) (vs : List Nat) (e : Expr) (g : TG) (m : MT) : Prop where
  pg : PG X e g
  sim : ∀ G : Gx, G.K = X.K → SimG G vs g m
structure QGs (X : Cx) (vs : List Nat) (es : List Expr) (g : TGs) (m : MTs) : Prop where
  pgs : PGs X es g
  sim : ∀ G : Gx, G.K = X.K → SimGs G vs g m
  ne : ∀ ds l st, (m ds l st).noEx
structure QS (X : Cx) (s : Stmt) (t : TS) (m : MS) : Prop where
  ps : PS X s t
  sim : ∀ G : Gx, G.K = X.K → SimS G t m
structure QSs (X : Cx) (s : List Stmt) (t : TS) (m : MS) : Prop where
  pss : PSs X s t
  sim : ∀ G : Gx, G.K = X.K → SimS G t m
section
variable {X : Cx} {a b c e o i : Expr} {es : List Expr} {pos p pos2 : Pos} {ta tb tc te to ti : TE} {ma mb mc me mo mi : ME} {t u : TT} {mt mu : MB} {tA : TA} {mA : MA}
theorem q_var (i : Nat) {x : Str} (hN : X.N[i]? = some x := by rfl) (hv : Vis X.env.scope x := by first | exact Or.inl rfl | exact Or.inr (Or.inl rfl) | exact Or.inr (Or.inr rfl)) (hd : (x == ("__debug__" : Str)) = false := by decide)
    (hcd : (x == ("__classdict__" : Str)) = false := by decide) : QE X (.Name x pos) (tVar i) (eVar i) := ⟨pv i hN hv hd hcd, fun _ _ => s_var i⟩
theorem q_int {n : Int} {j : Nat} : QE X (.Constant (.int n) j pos) (tC (.int n)) (eC (.int n)) := ⟨pe_int, fun _ _ => s_int n⟩
theorem q_bl {n : Bool} {j : Nat} : QE X (.Constant (.bool n) j pos) (tC (.bl n)) (eC (.bool n)) := ⟨pe_bl, fun _ _ => s_bl n⟩
theorem q_str {z : Str} {j : Nat} : QE X (.Constant (.str z) j pos) (tC (.str z)) (eC (.str z)) := ⟨pe_str, fun _ _ => s_str z⟩
def IsC (K : PySem.W.Frag) (u : Value) (v : V) (x : PyData) : Prop := RelV v u ∧ ∀ B H, RT K B H v x
theorem q_mod (ha : QE X a ta ma) (hb : QE X b tb mb) : QE X (.BinOp a .Mod b pos) (tOp (rI (fun _ j => j ≠ 0) fun i j => .int (i.fmod j)) ta tb) (eOp fMod ma mb) := ⟨pe_op op_modN ha.pe hb.pe, fun G h => s_op r_mod (ha.sim G h) (hb.sim G h)⟩
theorem q_div (hS : SeX X.prog X.base X.A X.stack) (ha : QE X a ta ma) (hb : QE X b tb mb) : QE X (.BinOp a .FloorDiv b pos) (tOp (rI CDivA fun i j => .int (i.fdiv j)) ta tb) (eOp fDiv ma mb) := ⟨pe_op (op_fdivA hS) ha.pe hb.pe, fun G h => s_op r_div (ha.sim G h) (hb.sim G h)⟩
theorem q_pow (ha : QE X a ta ma) (hb : QE X b tb mb) : QE X (.BinOp a .Pow b pos) (tOp (rI CPow fun i j => .int (i ^ j.toNat)) ta tb) (eOp fPow ma mb) := ⟨pe_op op_pow ha.pe hb.pe, fun G h => s_op r_pow (ha.sim G h) (hb.sim G h)⟩
theorem q_eq {k : Nat} (hr : Room k X.A) (ha : QE X a ta ma) (hb : QE X b tb mb) : QE X (.Compare a [.Eq] [b] pos) (tOp (rEqD X.K) ta tb) (eOp (opEq false) ma mb) := ⟨pe_cmpR (op_eqD hr.units) ha.pe hb.pe (nomark _), fun G h => h ▸ s_op r_eq (ha.sim G h) (hb.sim G h)⟩
structure CR2 (X : Cx) (op : CmpOp) (r : R2) (f : U → U → Sto → Res U) : Prop where
  op : OpR X (compareOp op) r
  sim : ∀ G : Gx, SimR G r f
theorem qt_tru (h : QE X e te me) (he : ∀ whole, isTrue e X.env whole = (do let v ← whole; standAt e.pos; holding [v] (truthy v)) := by intro _; rfl) : QT X e (fun σ H Q => te σ H fun x H' => ∃ k, TruV X.K x H' k ∧ Q k H') (bTru me) := ⟨pt_truth h.pe he, fun G hG => hG ▸ s_tru (h.sim G hG)⟩
theorem qt_lt (ha : QE X a ta ma) (hb : QE X b tb mb) : QT X (.Compare a [.Lt] [b] pos) (tTest (tOp (rI0 fun i j => .bl (decide (i < j))) ta tb)) (bTest (eOp fLt ma mb)) := ⟨pt_cmpR op_lt ha.pe hb.pe (nomark _), fun G h => s_test (s_op r_lt (ha.sim G h) (hb.sim G h))⟩
theorem qt_gt (ha : QE X a ta ma) (hb : QE X b tb mb) : QT X (.Compare a [.Gt] [b] pos) (tTest (tOp (rI0 fun i j => .bl (decide (j < i))) ta tb)) (bTest (eOp fGt ma mb)) := ⟨pt_cmpR op_gt ha.pe hb.pe (nomark _), fun G h => s_test (s_op r_gt (ha.sim G h) (hb.sim G h))⟩
theorem qt_ge (ha : QE X a ta ma) (hb : QE X b tb mb) : QT X (.Compare a [.GtE] [b] pos) (tTest (tOp (rI0 fun i j => .bl (decide (j ≤ i))) ta tb)) (bTest (eOp fGe ma mb)) := ⟨pt_cmpR op_ge ha.pe hb.pe (nomark _), fun G h => s_test (s_op r_ge (ha.sim G h) (hb.sim G h))⟩
theorem qt_eq {k : Nat} (hr : Room k X.A) (ha : QE X a ta ma) (hb : QE X b tb mb) : QT X (.Compare a [.Eq] [b] pos) (tTest (tOp (rEqD X.K) ta tb)) (bTest (eOp (opEq false) ma mb)) := ⟨pt_cmpR (op_eqD hr.units) ha.pe hb.pe (nomark _), fun G h => h ▸ s_test (s_op r_eq (ha.sim G h) (hb.sim G h))⟩
theorem qt_ne {k : Nat} (hr : Room k X.A) (ha : QE X a ta ma) (hb : QE X b tb mb) : QT X (.Compare a [.NotEq] [b] pos) (tTest (tOp (rNeD X.K) ta tb)) (bTest (eOp (opEq true) ma mb)) := ⟨pt_cmpR (op_neD hr.units) ha.pe hb.pe (nomark _), fun G h => h ▸ s_test (s_op r_ne (ha.sim G h) (hb.sim G h))⟩
theorem qt_not (ha : QT X a t mt) : QT X (.UnaryOp .Not a pos) (tNot t) (bNot mt) := ⟨pt_not ha.pt, fun G h => s_not (ha.sim G h)⟩
theorem qw_and1 (ha : QT X a t mt) : QW X (.BoolOp .And [a] pos) t mt := ⟨pw_and1 ha.pt, ha.sim⟩
theorem qw_and (ha : QT X a t mt) (hb : QW X (.BoolOp .And (b :: es) pos) u mu) : QW X (.BoolOp .And (a :: b :: es) pos) (tAnd t u) (bAnd mt mu) := ⟨pw_and ha.pt hb.pw, fun G h => s_and (ha.sim G h) (hb.sim G h)⟩
theorem qt_w (h : QW X e t mt) : QT X e t mt := ⟨h.pw.pt, h.sim⟩
theorem q_one {op : BoolOp} (h : QE X a ta ma) : QE X (.BoolOp op [a] pos) ta ma := ⟨pe_one h.pe, h.sim⟩
theorem q_and (ha : QE X a ta ma) (hb : QE X (.BoolOp .And (b :: es) pos) tb mb) : QE X (.BoolOp .And (a :: b :: es) pos) (tAndV ta tb) (eAndV ma mb) := ⟨pe_and ha.pe hb.pe, fun G h => s_andV (ha.sim G h) (hb.sim G h)⟩
theorem qa_nil : QA X [] tNil aNil := ⟨pa_nil, fun _ _ => s_nil⟩
theorem qa_cons (ha : QE X e te me) (hr : QA X es tA mA) (hs : starEach (e :: es) X.env = (false, eval e X.env) :: starEach es X.env := by rfl) : QA X (e :: es) (tCons te tA) (aCons me mA) := ⟨pa_cons ha.pe hr.pa hs, fun G h => s_cons (ha.sim G h) (hr.sim G h)⟩
theorem qn_disp (h : QA X es tA mA) : QN X (.List es pos) (tLst tA) (lDisp mA) := ⟨pe_lst h.pa, fun G hG => n_disp (h.sim G hG)⟩
theorem q_frz {m : ML} (h : QN X e te m) : QE X e te (eFrz m) := ⟨h.pe, fun G hG => s_frz (h.sim G hG)⟩
theorem q_own {m : ML} (h : QN X e te m) : QE X e te (eOwn m) := ⟨h.pe, fun G hG => s_own (h.sim G hG)⟩
theorem q_ix (ha : QE X a ta ma) (hb : QE X b tb mb) (hs : PlainIx b := by exact fun _ _ => rfl) : QE X (.Subscript a b pos) (tOp (rIx X.K) ta tb) (eOp fIx ma mb) := ⟨pe_ix ix_seq ha.pe hb.pe hs, fun G h => h ▸ s_op r_ix (ha.sim G h) (hb.sim G h)⟩
theorem q_len (hm : X.mg "len" = none) (h : QA X [e] tA mA) (hg : Gl X "len" := by rfl) (he : starEach (e :: []) X.env = (false, eval e X.env) :: starEach [] X.env := by rfl) (hpl : (backTo pos (starEach [] X.env)).any (·.1) = false := by rfl) : QE X (.Call (.Name "len" p) [e] [] pos) (tCB (fun xs H Q => ∃ x n, xs = [x] ∧ LenV X.K x H n ∧ Q (.int n) H) tA) (eCB cLen mA) :=
  ⟨pe_callB call_len hg hm PySem.boot_len h.pa (by decide) (by decide) he hpl, fun G hG => hG ▸ s_cb c_len (h.sim G hG)⟩
theorem q_all (hc : X.calm = true) (hm : X.mg "all" = none) (h : QA X [e] tA mA) (hg : Gl X "all" := by rfl) (he : starEach (e :: []) X.env = (false, eval e X.env) :: starEach [] X.env := by rfl) (hpl : (backTo pos (starEach [] X.env)).any (·.1) = false := by rfl) : QE X (.Call (.Name "all" p) [e] [] pos) (tCB (rAll X.K) tA) (eCB cAll mA) :=
  ⟨pe_callB (cr_all hc) hg hm (by decide +kernel) h.pa (by decide) (by decide) he hpl, fun G hG => hG ▸ s_cb c_all (h.sim G hG)⟩
theorem qn_list (hm : X.mg "list" = none) (h : QA X [e] tA mA) (hg : Gl X "list" := by rfl) (he : starEach (e :: []) X.env = (false, eval e X.env) :: starEach [] X.env := by rfl) (hpl : (backTo pos (starEach [] X.env)).any (·.1) = false := by rfl) : QN X (.Call (.Name "list" p) [e] [] pos) (tCB (fun xs H Q => ∃ p ys, xs = [.ref p] ∧ (SqL X.K H p ys ∨ SqT X.K H p ys) ∧ ∀ l, H l = none → Q (.ref l) (upd H l (.lst ys))) tA) (lCB cListOf mA) :=
  ⟨pe_callTy call_list_of hg hm boot_list h.pa (by decide) (by decide) he hpl, fun G hG => hG ▸ n_cb c_listOf (h.sim G hG)⟩
theorem q_isi {T : String} {x : Str} {p3 : Pos} (hm : X.mg "isinstance" = none) (hT : X.mg x = none) (hv : bootBuiltins x = some (.type T)) (h : QE X e te me) (hg : Gl X "isinstance" := by rfl) (hgx : Gl X x := by rfl) (hnx : x ≠ "__name__" := by decide) (hdx : (x == ("__debug__" : Str)) = false := by decide)
    (he : starEach (e :: [.Name x p3]) X.env = (false, eval e X.env) :: starEach [.Name x p3] X.env := by rfl) (he2 : starEach ((.Name x p3) :: []) X.env = (false, eval (.Name x p3) X.env) :: starEach [] X.env := by rfl) (hpl : (backTo pos (starEach [.Name x p3] X.env)).any (·.1) = false := by rfl) :
    QE X (.Call (.Name "isinstance" p) [e, .Name x p3] [] pos) (tCB (rIsi X.K) (tCons te (tCons (tC (.ty T)) tNil))) (eIsi me T) :=
  ⟨pe_callB call_isi hg hm boot_isinstance (pa_cons h.pe (pa_cons (pe_bltn (v := .ty T) hgx hT hv rfl hnx hdx) pa_nil he2) he) (by decide) (by decide) he hpl, fun G hG => hG ▸ s_isi (h.sim G hG)⟩
structure QTys (X : Cx) (es : List Expr) (Ts : List String) : Prop where
  pa : PA X es (tTys Ts)
theorem qty_nil : QTys X [] [] := ⟨pa_nil⟩
theorem qty_cons {T : String} {x : Str} {p3 : Pos} {Ts : List String} (hT : X.mg x = none) (hv : bootBuiltins x = some (.type T)) (h : QTys X es Ts) (hgx : Gl X x := by rfl) (hnx : x ≠ "__name__" := by decide) (hdx : (x == ("__debug__" : Str)) = false := by decide)
    (hs : starEach (.Name x p3 :: es) X.env = (false, eval (.Name x p3) X.env) :: starEach es X.env := by rfl) : QTys X (.Name x p3 :: es) (T :: Ts) := ⟨pa_cons (pe_bltn (v := .ty T) hgx hT hv rfl hnx hdx) h.pa hs⟩
theorem q_isiT {Ts : List String} {x1 : Nat} {p3 : Pos} (hm : X.mg "isinstance" = none) (h : QE X e te me) (hT : QTys X es Ts) (hg : Gl X "isinstance" := by rfl)
    (he : starEach (e :: [.Tuple es x1 p3]) X.env = (false, eval e X.env) :: starEach [.Tuple es x1 p3] X.env := by rfl) (he2 : starEach ((.Tuple es x1 p3) :: []) X.env = (false, eval (.Tuple es x1 p3) X.env) :: starEach [] X.env := by rfl) (hpl : (backTo pos (starEach [.Tuple es x1 p3] X.env)).any (·.1) = false := by rfl) :
    QE X (.Call (.Name "isinstance" p) [e, .Tuple es x1 p3] [] pos) (tCB (rIsiT X.K) (tCons te (tCons (tTup (tTys Ts)) tNil))) (eIsiT me Ts) :=
  ⟨pe_callB call_isiT hg hm boot_isinstance (pa_cons h.pe (pa_cons (pe_tup hT.pa) pa_nil he2) he) (by decide) (by decide) he hpl, fun G hG => hG ▸ s_isiT (h.sim G hG)⟩
theorem q_callP {k n : Nat} {f : Addr} {fd : FuncData} {ps : List Str} {m : List PyData → Rp} {x : Str} (F : FnOk X.prog X.w X.K X.mg X.base CX0 k f fd ps (spP X.K n m)) (hr : Room k X.A) (hm : X.mg x = some (.ref f)) (hk : PySem.W.keepIn X.K (.ref f) = true) (hb : Binds X.K fd ps [])
    (ha : QA X (e :: es) tA mA) (hg : Gl X x := by rfl) (hdb : (x == ("__debug__" : Str)) = false := by decide) (he : starEach (e :: es) X.env = (false, eval e X.env) :: starEach es X.env := by rfl) (hpl : (backTo pos (starEach es X.env)).any (·.1) = false := by rfl) :
    QE X (.Call (.Name x p) (e :: es) [] pos) (tCall (spP X.K n m) [] E0 tA) (eCallP n m mA) :=
  ⟨pe_call F hr hg hm hk hb .nil pass0 ha.pa hdb he hpl, fun G hG => hG ▸ s_callP (ha.sim G hG)⟩
theorem q_callF {k n : Nat} {f : Addr} {fd : FuncData} {ps : List Str} {m : List PyData → Fl → Rf} {x : Str} (F : FnOk X.prog X.w X.K X.mg X.base CX0 k f fd ps (spF X.K n m)) (hr : Room k X.A) (hm : X.mg x = some (.ref f)) (hk : PySem.W.keepIn X.K (.ref f) = true) (hb : Binds X.K fd ps [])
    (ha : QA X (e :: es) tA mA) (hg : Gl X x := by rfl) (hdb : (x == ("__debug__" : Str)) = false := by decide) (he : starEach (e :: es) X.env = (false, eval e X.env) :: starEach es X.env := by rfl) (hpl : (backTo pos (starEach es X.env)).any (·.1) = false := by rfl) :
    QE X (.Call (.Name x p) (e :: es) [] pos) (tCall (spF X.K n m) [] E0 tA) (eCallF n m mA) :=
  ⟨pe_call F hr hg hm hk hb .nil pass0 ha.pa hdb he hpl, fun G hG => hG ▸ s_callF (ha.sim G hG)⟩
end
end NW
namespace NW
open PySem PySem.Spec PyProof.Rows L2
section
variable {X : Cx} {a b c e o i tg : Expr} {es : List Expr} {pos p p2 pos2 : Pos} {ta tb tc te to ti : TE} {ma mb mc me mo mi : ME} {t u : TT} {mt mu : MB} {tA : TA} {mA : MA}
theorem qi_r1 (hm : X.mg "range" = none) (h : QA X [a] tA mA) (hg : Gl X "range" := by rfl) (hs : starEach [a] X.env = [(false, eval a X.env)] := by rfl) : QI X tg (.Call (.Name "range" p) [a] [] pos) (iRng1 tA) (mR1 mA) := ⟨pi_range1 hg hm h.pa hs, fun G hG => i_r1 (h.sim G hG)⟩
theorem qg_name (i : Nat) {x : Str} (hN : X.N.Nodup) (hi : X.N[i]? = some x := by rfl) (hx : L2.Loc X.env.scope x := by first | exact Or.inl rfl | exact Or.inr rfl) (hf : X.fn x = true ∨ X.env.scope.names.lookup x = some .local := by first | exact .inl rfl | exact .inr rfl) : QG X [i] (.Name x pos) (gName i) (gNameM i) := ⟨pg_name hN hi hx hf, fun G _ => g_name i⟩
theorem qg_sub (ho : QE X o to mo) (hi : QE X i ti mi) (ha : ∀ v, assign (.Subscript o i pos) X.env v = (do
      let ov ← holding [v] (eval o X.env)
      let iv ← holding [v, ov] (eval i X.env)
      standAt pos
      holding [v, ov, iv] (setItem ov iv v)
      release [v, ov, iv] []) := by intro _; rfl) : QG X [] (.Subscript o i pos) (gSub to ti rSetL) (gSubM mo mi) := ⟨pg_sub ho.pe hi.pe set_list ha, fun G hG => g_sub (ho.sim G hG) (hi.sim G hG)⟩
variable {s : Stmt} {rest body : List Stmt} {ts us : TS} {m n : MS}
theorem qss_nil : QSs X [] tNext sNext := ⟨pss_nil, fun _ _ => t_next⟩
theorem qss_cons (h1 : QS X s ts m) (h2 : QSs X rest us n) : QSs X (s :: rest) (tSeq ts us) (sSeq m n) := ⟨pss_cons h1.ps h2.pss, fun G h => t_seq (h1.sim G h) (h2.sim G h)⟩
theorem qss_one (h1 : QS X s ts m) : QSs X [s] ts m := ⟨pss_one h1.ps, h1.sim⟩
theorem qs_set (i : Nat) {x : Str} (hN : X.N.Nodup) (he : QE X e te me) (hi : X.N[i]? = some x := by rfl) (hx : L2.Loc X.env.scope x := by first | exact Or.inl rfl | exact Or.inr rfl) (hs : swapsWith e (some (.Name x p2)) pos.line X.env = pure false := by rfl)
    (hf : X.fn x = true ∨ X.env.scope.names.lookup x = some .local := by first | exact .inl rfl | exact .inr rfl) : QS X (.Assign [.Name x p2] e pos) (tAsg te (gName i)) (sAsg i me) := ⟨ps_set hN hi hx he.pe hs hf, fun G h => t_asg (he.sim G h)⟩
theorem qs_asg {vs : List Nat} {g : TG} {mg' : MT} (he : QE X e te me) (hg : QG X vs tg g mg') (hs : swapsWithSole [tg] e pos.line X.env = pure false := by rfl) (hw : swappedStores [tg] e X.env = pure none := by rfl) (h1 : (assignEach [tg] X.env).map (·.2) = [assign tg X.env] := by rfl) :
    QS X (.Assign [tg] e pos) (tAsg te g) (sAsgG me mg') := ⟨ps_asg he.pe hg.pg hs hw h1, fun G h => t_asgG (he.sim G h) (hg.sim G h)⟩
theorem qs_ret (he : QE X e te me) : QS X (.Return (some e) pos) (tRet te) (sRet me) := ⟨ps_ret he.pe, fun G h => t_ret (he.sim G h)⟩
theorem qs_if {ct : TT} {cm : MB} {x y : List Stmt} (hc : QT X c ct cm) (ha : QSs X x ts m) (hb : QSs X y us n) : QS X (.If c x y pos) (tIfS ct ts us) (sIf cm m n) := ⟨ps_if hc.pt ha.pss hb.pss, fun G h => t_if (hc.sim G h) (ha.sim G h) (hb.sim G h)⟩
theorem qs_for {wi : TI} {im : MI} {vs : List Nat} {g : TG} {gm : MT} (hp : PassesOwn (model X.prog X.w) X.A X.env X.xe) (hc : X.calm = true) (hi : QI X tg e wi im) (hg : QG X vs tg g gm) (hb : QSs X body ts m) (hs : ∀ x, foldedSetIterable e X.env x = pure x := by intro _; rfl) :
    QS X (.For tg e body [] pos) (tFor wi g ts) (sFor im gm m) := ⟨ps_for hp hc hi.pi hg.pg hb.pss hs, fun G h => t_for (hi.sim G h) (hg.sim G h) (hb.sim G h)⟩
structure QTs (X : Cx) (ifs : List Expr) (t : TT) (m : MB) : Prop where
  pts : PTs X ifs t
  sim : ∀ G : Gx, G.K = X.K → SimT G t m
def bYes : MB := fun _ st => .ok true st
theorem qts_nil : QTs X [] tYes bYes := ⟨pts_nil, fun G _ β H σ l st re Q h => wpR_b re.rl h⟩
theorem qn_lc {elt tg iter : Expr} {ifs : List Expr} {scope : Scope} (own : List (Str × Nat)) {wi : TI} {g : TG} {tt : TT} {te : TE} {im : MI} {ws : List Nat} {gm : MT} {cm : MB} {em : ME} (hc : X.calm = true) (hN : X.N.Nodup) (hi : QI X tg iter wi im)
    {N : List Str} {sc : Scope} (hNN : X.N = N) (hss : X.env.scope = sc) (ok : blkC N sc scope own = true)
    (hg : ∀ (s : Shared) (H : Hp) (C : Addr) (cl : List (Str × Addr)) (fp : List Addr), QG (X.blk s H scope (compEnvC scope cl C X.env) fp) ws tg g gm)
    (ht : ∀ (s : Shared) (H : Hp) (C : Addr) (cl : List (Str × Addr)) (fp : List Addr), QTs (X.blk s H scope (compEnvC scope cl C X.env) fp) ifs tt cm)
    (he : ∀ (s : Shared) (H : Hp) (C : Addr) (cl : List (Str × Addr)) (fp : List Addr), QE (X.blk s H scope (compEnvC scope cl C X.env) fp) elt te em)
    (hsub : ∀ i ∈ ws, i ∈ own.map (·.2)) (hs : ∀ x, foldedSetIterable iter X.env x = pure x := by intro _; rfl) :
    QN X (.ListComp elt [⟨tg, iter, ifs, 0⟩] scope pos) (tLc wi g tt te (own.map (·.2))) (lLc im (own.map (·.2)) gm cm em) :=
  ⟨pe_lc hc hN hi.pi (by rw [hNN, hss]; exact blkOk_by ok) (fun s H C cl fp => (hg s H C cl fp).pg) (fun s H C cl fp => (ht s H C cl fp).pts) (fun s H C cl fp => (he s H C cl fp).pe) hs,
    fun G h => n_lc (hi.sim G h) (fun D => (hg X.s_0 (fun _ => none) 0 [] []).sim (G.ban D) h) hsub (fun D => (ht X.s_0 (fun _ => none) 0 [] []).sim (G.ban D) h) (fun D => (he X.s_0 (fun _ => none) 0 [] []).sim (G.ban D) h)⟩
end
end NW
namespace NW
open PySem PySem.Spec PyProof.Rows L2
section
variable {G : Gx} {β β' : List Addr} {st st' : Sto} {H H' : Hp} {v : V} {u : U} {σ σ' : L2.St} {l l' : Loc}
def rAddS : R2 := fun x y H Q => ∃ i j, x = .str i ∧ y = .str j ∧ i.length + j.length ≤ sizeLine ∧ Q (.str (i ++ j)) H
def rAddA (K : PySem.W.Frag) : R2 := fun x y H Q => (rI0 (fun i j => .int (i + j)) x y H Q ∨ rAddS x y H Q) ∨ (rCatA K x y H Q ∨ rCat x y H Q)
theorem op_addA {X : Cx} : OpR X (binaryOp .Add) (rAddA X.K) := (op_add.or op_add_str).or (op_catA.or op_cat)
def fAddA : U → U → Sto → Res U := fun a b st => match a, b with
  | .d (.int i), .d (.int j) => .ok (.d (.int (i + j))) st
  | .d (.str x), .d (.str y) => if lenOk (x.length + y.length) = true then .ok (.d (.str (x ++ y))) st else .no
  | .d (.tuple xs), .d (.tuple ys) => if lenOk (xs.length + ys.length) = true then .ok (.d (.tuple (xs ++ ys))) st else .no
  | a, b => (match listOf st a, listOf st b with
    | some xs, some ys => if lenOk (xs.length + ys.length) = true then .ok (.d (.list (xs ++ ys))) st else .no
    | _, _ => .no)
theorem r_addA : SimR G (rAddA G.K) fAddA := fun β H σ l st re x y a b Q hx hy h => by
  unfold fAddA at h
  split at h
  · rename_i i j
    cases ru_int hx; cases ru_int hy
    exact .inl (.inl ⟨i, j, rfl, rfl, wpR_d re.rl (.int _) h⟩)
  · rename_i i j
    cases ru_str hx; cases ru_str hy
    split at h
    · rename_i q
      exact .inl (.inr ⟨i, j, rfl, rfl, of_decide_eq_true q, wpR_d re.rl (.str _) h⟩)
    · exact h.elim
  · rename_i xs ys
    split at h
    · rename_i q
      obtain ⟨p, vs, rfl, s1, r1⟩ := tup_q hx (xs := xs) rfl
      obtain ⟨p', ws, rfl, s2, r2⟩ := tup_q hy (xs := ys) rfl
      refine .inr (.inl ⟨p, p', vs, ws, rfl, rfl, s1, s2, by rw [r1.len, r2.len]; exact of_decide_eq_true q, fun e => ?_, fun e1 e => ?_, fun e1 e2 z hz => ?_⟩)
      · subst e
        have e0 : xs = [] := by have := r1.len; simp at this; exact List.eq_nil_of_length_eq_zero this.symm
        subst e0
        exact wpR_u re.rl hy h
      · subst e
        have e0 : ys = [] := by have := r2.len; simp at this; exact List.eq_nil_of_length_eq_zero this.symm
        subst e0
        rw [List.append_nil] at h
        exact wpR_u re.rl hx h
      · obtain ⟨f4, rl4, rt⟩ := new_tup re.rl hz (r1.append r2)
        exact h _ _ β f4 rl4 rt
    · exact h.elim
  · split at h
    · rename_i xs ys e1 e2
      split at h
      · rename_i q
        obtain ⟨p, vs, rfl, h1, r1⟩ := list_h re.rl hx e1
        obtain ⟨p', ws, rfl, h2, r2⟩ := list_h re.rl hy e2
        refine .inr (.inr ⟨p, p', vs, ws, rfl, rfl, h1, h2, by rw [r1.len, r2.len]; exact of_decide_eq_true q, fun z hz => ?_⟩)
        obtain ⟨f4, rl4, rt⟩ := new_lst re.rl hz (r1.append r2)
        exact h _ _ β f4 rl4 rt
      · exact h.elim
    · exact h.elim
theorem tuple_mul1 (l : Addr) (items : Array Value) (n : Nat) (dd : Option Addr) (sl : Array (Option Value)) (x : Int) (u : Tok) (c0 : (decide (x < -(2 ^ 63)) || decide (x ≥ 2 ^ 63)) = false) (c1 : (items.isEmpty || x == 1) = true) :
    Meets (Builtin.«tuple.__mul__» ⟨[.ref l, .int x u], []⟩) (fun _ R s => s.heap.get? l = some { cls := .type "tuple", dict := dd, data := .seq items n, slots := sl } ∧ R (.ok (.ret (Value.ref l))) s) :=
  .of_wp fun prog w A R s h => by
    obtain ⟨hp, g, d, tk, os⟩ := s
    obtain ⟨hl, h⟩ := h
    have f1 := AutoSeq1.idx_int
    wp_walk using wpAny_loadPart' hl
    repeat (first
      | (refine wpAny_ite_false (decide_eq_false (by rw [c0]; exact Bool.false_ne_true)) ?_; wp_walk using wpAny_loadPart' hl)
      | (refine wpAny_ite_true (decide_eq_true c1) ?_; wp_walk using wpAny_loadPart' hl))
    exact ⟨_, rfl, h⟩
def rRep1T (K : PySem.W.Frag) : R2 := fun x y H Q => ∃ l k xs, x = .ref l ∧ y = .int k ∧ SqT K H l xs ∧ (xs = [] ∨ k = 1) ∧ -(2 ^ 62) ≤ k ∧ k < 2 ^ 62 ∧ Q (.ref l) H
theorem op_rep1T {X : Cx} : OpR X (binaryOp .Mult) (rRep1T X.K) := by
  intro pins s σ H x y v u Q I rx ry h
  obtain ⟨l, k, xs, rfl, rfl, hT, h1, h2, h3, q⟩ := h
  cases rx
  obtain ⟨t, rfl⟩ := ry
  obtain ⟨its, r, ⟨⟨cls, dd, data, sl⟩, ho, hc, n, hd⟩, hs⟩ := I.tuple hT
  simp only at hc hd
  subst hc hd
  have hle : its.length = xs.length := r.length.symm
  have c0 : (decide (k < -(2 ^ 63)) || decide (k ≥ 2 ^ 63)) = false := by
    rw [decide_eq_false (by omega), decide_eq_false (by omega)] <;> rfl
  have c1 : (its.toArray.isEmpty || k == 1) = true := by
    rcases h1 with h1 | h1
    · have : its = [] := List.eq_nil_of_length_eq_zero (by rw [hle, h1]; rfl)
      rw [this]; rfl
    · rw [h1]; simp
  exact wpAny_binaryOp_repeat_ref (T := "tuple") (U := "int") (by decide) ⟨_, ho, rfl⟩ (fun s' => typeIs_int s' k t) noFill_tuple_mul F.fills_int_mul F.slot_int_rmul repeat_tuple F.slot_int_index.lookup
    (call_meets F.slot_int_rmul (typeIs_int s k t) F.entry_int_rmul (F.args_int_rmul_2 _ _) (int_rmul_tuple k t l its.toArray n dd sl)
      ⟨ho, rfl, ⟨_, ho, rfl⟩, call_meets F.slot_tuple_mul ⟨_, ho, rfl⟩ F.entry_tuple_mul (F.args_tuple_mul_2 _ _) (tuple_mul1 l its.toArray n dd sl k t c0 c1) ⟨ho, ⟨.ref l, H, I, rfl, q⟩⟩⟩)
def rMulA (K : PySem.W.Frag) : R2 := fun x y H Q => (rI CMulW (fun i j => .int (i * j)) x y H Q ∨ rRep x y H Q) ∨ (rRepT K x y H Q ∨ rRep1T K x y H Q)
theorem op_mulA {X : Cx} : OpR X (binaryOp .Mult) (rMulA X.K) := (op_mulW.or op_rep).or (op_repT.or op_rep1T)
def fMulA : U → U → Sto → Res U := fun a b st => match a, b with
  | .d (.int i), .d (.int j) => if mulC i j = true then .ok (.d (.int (i * j))) st else .no
  | .d (.tuple xs), .d (.int k) => if decide (2 ≤ k ∧ k ≤ 1000 ∧ xs.length ≤ 1000 ∧ xs ≠ []) = true then .ok (.d (.tuple (List.replicate k.toNat xs).flatten)) st
    else if decide ((xs = [] ∨ k = 1) ∧ -(2 ^ 62) ≤ k ∧ k < 2 ^ 62) = true then .ok (.d (.tuple xs)) st else .no
  | a, .d (.int k) => (match listOf st a with
    | some xs => if (decide (-(2 ^ 63) ≤ k ∧ k < 2 ^ 63) && lenOk (xs.length * k.toNat)) = true then .ok (.d (.list (List.replicate k.toNat xs).flatten)) st else .no
    | none => .no)
  | _, _ => .no
theorem r_mulA : SimR G (rMulA G.K) fMulA := fun β H σ l st re x y a b Q hx hy h => by
  unfold fMulA at h
  split at h
  · rename_i i j
    cases ru_int hx; cases ru_int hy
    split at h
    · rename_i q
      have q' := of_decide_eq_true q
      exact .inl (.inl ⟨i, j, rfl, rfl, q', wpR_d re.rl (.int _) h⟩)
    · exact h.elim
  · rename_i xs k
    cases ru_int hy
    obtain ⟨p, vs, rfl, s1, r1⟩ := tup_q hx (xs := xs) rfl
    split at h
    · rename_i q
      have q := of_decide_eq_true q
      refine .inr (.inl ⟨p, k, vs, rfl, rfl, s1, fun e => q.2.2.2 (List.eq_nil_of_length_eq_zero (by rw [← r1.len, e]; rfl)), q.1, q.2.1, by rw [r1.len]; exact q.2.2.1, fun z hz => ?_⟩)
      obtain ⟨f4, rl4, rt⟩ := new_tup re.rl hz (rts_rep r1 k.toNat)
      exact h _ _ β f4 rl4 rt
    · split at h
      · rename_i q
        have q := of_decide_eq_true q
        refine .inr (.inr ⟨p, k, vs, rfl, rfl, s1, q.1.imp (fun e => List.eq_nil_of_length_eq_zero (by rw [r1.len, e]; rfl)) id, q.2.1, q.2.2, ?_⟩)
        exact wpR_u re.rl hx h
      · exact h.elim
  · rename_i k _ _
    cases ru_int hy
    split at h
    · rename_i xs e1
      split at h
      · rename_i q
        rw [Bool.and_eq_true] at q
        obtain ⟨p, vs, rfl, h1, r1⟩ := list_h re.rl hx e1
        have q1 := of_decide_eq_true q.1
        refine .inl (.inr ⟨p, k, vs, rfl, rfl, h1, q1.1, q1.2, by rw [r1.len]; exact of_decide_eq_true q.2, fun z hz => ?_⟩)
        obtain ⟨f4, rl4, rt⟩ := new_lst re.rl hz (rts_rep r1 _)
        exact h _ _ β f4 rl4 rt
      · exact h.elim
    · exact h.elim
  · exact h.elim
def fSl (u : U) (a b : Option Int) (st : Sto) : Res U := match u with
  | .d (.tuple xs) => .ok (.d (.tuple (cutD xs a b))) st
  | .d (.str z) => if lenOk z.length = true then .ok (.d (.str (cutS z a b))) st else .no
  | u => (match listOf st u with
    | some xs => .ok (.d (.list (cutD xs a b))) st
    | none => .no)
def eSlAny (m : ME) (lo hi : MO) : ME := fun l st => (m l st).bind fun u st => (lo l st).bind fun a st => (hi l st).bind fun b st => fSl u a b st
end
section
variable {X : Cx} {a b c e o i : Expr} {es : List Expr} {pos p pos2 : Pos} {ta tb tc te to ti : TE} {ma mb mc me mo mi : ME} {t u : TT} {mt mu : MB} {tA : TA} {mA : MA}
theorem q_addA (ha : QE X a ta ma) (hb : QE X b tb mb) : QE X (.BinOp a .Add b pos) (tOp (rAddA X.K) ta tb) (eOp fAddA ma mb) := ⟨pe_op op_addA ha.pe hb.pe, fun G h => h ▸ s_op r_addA (ha.sim G h) (hb.sim G h)⟩
theorem q_mulA (ha : QE X a ta ma) (hb : QE X b tb mb) : QE X (.BinOp a .Mult b pos) (tOp (rMulA X.K) ta tb) (eOp fMulA ma mb) := ⟨pe_op op_mulA ha.pe hb.pe, fun G h => h ▸ s_op r_mulA (ha.sim G h) (hb.sim G h)⟩
end
structure DefIn (K : PySem.W.Frag) (mg : Str → Option Value) (x : Str) (st : Stmt) (ps : List Str) : Prop where
  ex : ∃ f fd, Fun K x x st f fd ∧ mg x = some (.ref f) ∧ Binds K fd ps []
structure Cal (P : Program) (w : World) (K : PySem.W.Frag) (mg : Str → Option Value) (base : Heap) (k : Nat) (x : Str) (ps : List Str) (sp : Sp) : Prop where
  ex : ∃ f fd, FnOk P w K mg base CX0 k f fd ps sp ∧ mg x = some (.ref f) ∧ PySem.W.keepIn K (.ref f) = true ∧ Binds K fd ps []
structure ConIn (K : PySem.W.Frag) (mg : Str → Option Value) (x : Str) (d : PyData) : Prop where
  ex : ∃ u v, mg x = some u ∧ IsC K u v d
section
variable {P : Program} {w : World} {K : PySem.W.Frag} {mg : Str → Option Value} {base : Heap} {N ps : List Str} {x : Str} {st : Stmt} {k : Nat} {b : MS}
theorem calP (D : DefIn K mg x st ps) (S : FnScope N ps (defScope st)) (hN : ps.length ≤ N.length)
    (hb : ∀ (f : Addr) (cdv : Value) (A : Around) (outer : List Env) (s : Shared) (H : Hp) (E : XK), Room k (A.deeper (envOfC x (defScope st) s.heap.objs.size f cdv)) →
      ∃ t, QSs (cxOf CX0 P w K mg base N x (defScope st) f cdv A outer s H E).nox (defBody st) t b) : Cal P w K mg base (k + 1) x ps (spP K ps.length (pureOf N.length b)) := by
  obtain ⟨f, fd, F, hm, hb'⟩ := D.ex
  refine ⟨f, fd, okP F S hN (fun cdv A outer s H E hr => ?_), hm, F.kp, hb'⟩
  obtain ⟨t, h⟩ := hb f cdv A outer s H E hr
  exact ⟨t, h.pss, fun G hG => h.sim G hG⟩
theorem calF (D : DefIn K mg x st ps) (S : FnScope N ps (defScope st)) (hN : ps.length ≤ N.length)
    (hb : ∀ (f : Addr) (cdv : Value) (A : Around) (outer : List Env) (s : Shared) (H : Hp) (E : XK), Room k (A.deeper (envOfC x (defScope st) s.heap.objs.size f cdv)) →
      ∃ t, QSs (cxOf CX0 P w K mg base N x (defScope st) f cdv A outer s H E).nox (defBody st) t b) : Cal P w K mg base (k + 1) x ps (spF K ps.length (flowOf N.length b)) := by
  obtain ⟨f, fd, F, hm, hb'⟩ := D.ex
  refine ⟨f, fd, okF F S hN (fun cdv A outer s H E hr => ?_), hm, F.kp, hb'⟩
  obtain ⟨t, h⟩ := hb f cdv A outer s H E hr
  exact ⟨t, h.pss, fun G hG => h.sim G hG⟩
end
section
variable {X : Cx} {e : Expr} {es : List Expr} {pos p : Pos} {tA : TA} {mA : MA}
theorem q_calP {k j n : Nat} {ps : List Str} {m : List PyData → Rp} {x : Str} (C : Cal X.prog X.w X.K X.mg X.base k x ps (spP X.K n m)) (hr : Room j X.A) (hkj : k ≤ j) (ha : QA X (e :: es) tA mA) (hg : Gl X x := by rfl) (hdb : (x == ("__debug__" : Str)) = false := by decide)
    (he : starEach (e :: es) X.env = (false, eval e X.env) :: starEach es X.env := by rfl) (hpl : (backTo pos (starEach es X.env)).any (·.1) = false := by rfl) :
    QE X (.Call (.Name x p) (e :: es) [] pos) (tCall (spP X.K n m) [] E0 tA) (eCallP n m mA) := by
  obtain ⟨f, fd, F, hm, hk, hb⟩ := C.ex
  exact q_callP F (hr.mono hkj) hm hk hb ha hg hdb he hpl
theorem q_calF {k j n : Nat} {ps : List Str} {m : List PyData → Fl → Rf} {x : Str} (C : Cal X.prog X.w X.K X.mg X.base k x ps (spF X.K n m)) (hr : Room j X.A) (hkj : k ≤ j) (ha : QA X (e :: es) tA mA) (hg : Gl X x := by rfl) (hdb : (x == ("__debug__" : Str)) = false := by decide)
    (he : starEach (e :: es) X.env = (false, eval e X.env) :: starEach es X.env := by rfl) (hpl : (backTo pos (starEach es X.env)).any (·.1) = false := by rfl) :
    QE X (.Call (.Name x p) (e :: es) [] pos) (tCall (spF X.K n m) [] E0 tA) (eCallF n m mA) := by
  obtain ⟨f, fd, F, hm, hk, hb⟩ := C.ex
  exact q_callF F (hr.mono hkj) hm hk hb ha hg hdb he hpl
end
end NW
namespace NW
open PySem PySem.Spec PyProof.Rows L2
def fl0 (ns : List Int) : Fl := ⟨ns, 0, 0, 1, 0⟩
def spFl (K : PySem.W.Frag) : Sp := fun vs H Q _ => ∃ (a : Addr) (ns : List Int), vs = [.ref a] ∧ SqL K H a (ns.map V.int) ∧
  ∀ H' fa fb, (∀ b o, H b = some o → H' b = some o) → H fa = none → fb ≠ fa → H' fa = some (.lst (flV fb (fl0 ns))) → H' fb = some (.lst (ns.map V.int)) → Q (.ref fa) H'
def spLaw (K : PySem.W.Frag) : Sp := fun vs H Q _ => ∃ (a : Addr) (ns : List Int), vs = [.ref a] ∧ SqL K H a (ns.map V.int) ∧ ns.length ≤ 63 ∧ ∀ H', Q (.bl true) H'
section
variable {P : Program} {w : World} {K : PySem.W.Frag} {mg : Str → Option Value} {base : Heap} {N ps : List Str} {x : Str} {st : Stmt} {k : Nat} {b : MS}
theorem calFl (D : DefIn K mg x st ps) (S : FnScope N ps (defScope st)) (hps : ps.length = 1) (hN : ps.length ≤ N.length)
    (hsem : ∀ ns, b (startL N.length [.scr ns]) ⟨none, []⟩ = .rt (.ref 0) ⟨none, [.lst [.list (ns.map .int), .int 0, .int 0, .int 1, .int 0]]⟩)
    (hb : ∀ (f : Addr) (cdv : Value) (A : Around) (outer : List Env) (s : Shared) (H : Hp) (E : XK), Room k (A.deeper (envOfC x (defScope st) s.heap.objs.size f cdv)) →
      ∃ t, QSs (cxOf CX0 P w K mg base N x (defScope st) f cdv A outer s H E).nox (defBody st) t b) : Cal P w K mg base (k + 1) x ps (spFl K) := by
  obtain ⟨f, fd, F, hm, hb'⟩ := D.ex
  refine ⟨f, fd, F.ok S (fun vs H Q E h => ?_) (fun cdv A outer s H vs Q E hr h => ?_), hm, F.kp, hb'⟩
  · obtain ⟨a, ns, rfl, _⟩ := h
    exact hps.symm
  · obtain ⟨a, ns, rfl, hS, q⟩ := h
    obtain ⟨t, h⟩ := hb f cdv A outer s H E hr
    refine ⟨t, h.pss, ?_⟩
    have own0 : ∀ b, ¬ Own ⟨K, 0, 0, fun _ => False, fun _ => none, fun _ _ _ _ => False⟩ [] ⟨none, []⟩ b := fun b h => by
      rcases h with ⟨h, _⟩ | ⟨i, xs, h, _⟩
      · cases h
      · simp at h
    have re : Re ⟨K, 0, 0, fun _ => False, fun _ => none, fun _ _ _ _ => False⟩ [] H (L2.start N [.ref a]) (startL N.length [.scr ns]) ⟨none, []⟩ := by
      refine ⟨⟨rfl, .nil, fun p hp => by simp at hp, fun i xs h => by simp at h, fun f h => (by cases h), fun p hp => hp.elim⟩, ⟨start_len N rfl (by simp; omega), fun i u e => ?_⟩⟩
      have e1 := start_get N (vs := [.ref a]) e
      cases i with
      | succ i => simp at e1
      | zero =>
        simp at e1; subst e1
        refine ⟨.ref a, start_getV N rfl, a, rfl, hS.imp (fun z => ⟨z, fun w => w.elim id (own0 a)⟩) id⟩
    refine h.sim ⟨K, 0, 0, fun _ => False, fun _ => none, fun _ _ _ _ => False⟩ rfl [] H _ _ _ re _ ?_
    rw [hsem ns]
    intro v H' β' f1 rl r
    obtain ⟨p, h1, rfl⟩ := r
    obtain ⟨p', vs, a1, b1, c1⟩ := rl.ob 0 _ rfl
    rw [h1] at a1; cases a1
    have own1 : Own ⟨K, 0, 0, fun _ => False, fun _ => none, fun _ _ _ _ => False⟩ β' ⟨none, [.lst [.list (ns.map .int), .int 0, .int 0, .int 1, .int 0]]⟩ p := .inr ⟨0, _, rfl, (by intro z; cases z), h1⟩
    have c1' : RTs K (Ban ⟨K, 0, 0, fun _ => False, fun _ => none, fun _ _ _ _ => False⟩ β' ⟨none, [.lst [.list (ns.map .int), .int 0, .int 0, .int 1, .int 0]]⟩) H' vs [.list (ns.map .int), .int 0, .int 0, .int 1, .int 0] := c1
    cases c1' with
    | cons x1 y1 =>
      cases x1 with
      | lst hs hr1 =>
        rename_i fb ws
        cases y1 with
        | cons x2 y2 => cases y2 with
          | cons x3 y3 => cases y3 with
            | cons x4 y4 => cases y4 with
              | cons x5 y5 =>
                cases y5; cases x2; cases x3; cases x4; cases x5
                have e1 := hr1.ints
                subst e1
                have hf : H p = none := by
                  obtain ⟨γ, e, hγ⟩ := f1.ext
                  rw [List.nil_append] at e; subst e
                  exact hγ p (List.mem_of_getElem? h1)
                exact q H' p fb (fun b o h => (f1.stay b o h (own0 b)).1) hf (fun e => hs.2 (.inr (e ▸ own1))) b1 hs.1
theorem okLaw {f : Addr} {fd : FuncData} {i : Nat} {kf : Nat} {mf : Str} {psf : List Str} {b1 : MS} (F : Fun K x x st f fd) (S : FnScope N ps (defScope st)) (hps : ps.length = 1) (hN : ps.length ≤ N.length)
    (hb : ∀ (cdv : Value) (A : Around) (outer : List Env) (s : Shared) (H : Hp) (E : XK), Room k (A.deeper (envOfC x (defScope st) s.heap.objs.size f cdv)) →
      ∃ t1, PSs (cxOf CX0 P w K mg base N x (defScope st) f cdv A outer s H E).nox (defBody st) (tSeq (tAsg (tCall (spFl K) [] E0 (tCons (tVar 0) tNil)) (gName i)) t1) ∧ ∀ G : Gx, G.K = K → SimS G t1 b1)
    (hsem : ∀ ns : List Int, ns.length ≤ 63 → ∃ st', b1 ((startL N.length [.scr ns]).set i (some .flow)) ⟨some (fl0 ns), []⟩ = .rt (.d (.bool true)) st') :
    FnOk P w K mg base CX0 (k + 1) f fd ps (spLaw K) := by
  refine F.ok S (fun vs H Q E h => ?_) (fun cdv A outer s H vs Q E hr h => ?_)
  · obtain ⟨a, ns, rfl, _⟩ := h
    exact hps.symm
  · obtain ⟨a, ns, rfl, hS, hl, q⟩ := h
    obtain ⟨t1, h1, h2⟩ := hb cdv A outer s H E hr
    refine ⟨_, h1, ?_⟩
    refine ⟨.ref a, start_getV N rfl, a, ns, rfl, hS, fun H' fa fb kk hf0 hne hfa hfb => ?_⟩
    obtain ⟨st', e⟩ := hsem ns hl
    have own0 : ∀ b, Own ⟨K, fa, fb, fun _ => False, fun _ => none, fun _ _ _ _ => False⟩ [] ⟨some (fl0 ns), []⟩ b → b = fa := fun b h => by
      rcases h with ⟨_, h⟩ | ⟨i, xs, h, _⟩
      · exact h
      · simp at h
    have rl : Rl ⟨K, fa, fb, fun _ => False, fun _ => none, fun _ _ _ _ => False⟩ [] H' ⟨some (fl0 ns), []⟩ := by
      refine ⟨rfl, .nil, fun p hp => by simp at hp, fun i xs h => by simp at h, fun f h => ?_, fun p hp => hp.elim⟩
      cases h
      exact ⟨⟨hfa, hfb, fun z => hne (z.elim False.elim (own0 fb))⟩, by simp⟩
    have lo : RLoc ⟨K, fa, fb, fun _ => False, fun _ => none, fun _ _ _ _ => False⟩ [] (Ban ⟨K, fa, fb, fun _ => False, fun _ => none, fun _ _ _ _ => False⟩ [] ⟨some (fl0 ns), []⟩) H' (L2.start N [.ref a]) (startL N.length [.scr ns]) := by
      refine ⟨start_len N rfl (by simp; omega), fun j u e => ?_⟩
      have e1 := start_get N (vs := [.ref a]) e
      cases j with
      | succ j => simp at e1
      | zero =>
        simp at e1; subst e1
        refine ⟨.ref a, start_getV N rfl, a, rfl, hS.imp (fun z => ⟨?_, fun w => ?_⟩) id⟩
        · rcases z with z | ⟨o, z⟩
          · exact .inl (kk _ _ z)
          · exact .inr ⟨o, kk _ _ z⟩
        · have e := w.elim False.elim (own0 a)
          subst e
          exact rd_ne z hf0
    refine h2 ⟨K, fa, fb, fun _ => False, fun _ => none, fun _ _ _ _ => False⟩ rfl [] H' _ _ _ ⟨rl, lo.set i (u := .flow) rfl⟩ _ ?_
    rw [e]
    intro v H2 β2 f2 rl2 r2
    have r2' : RT K _ H2 v (.bool true) := r2
    cases r2'
    exact q H2
end
section
variable {K : PySem.W.Frag} {mg : Str → Option Value} {x : Str} {st : Stmt} {ps : List Str}
theorem defIn_mk {h : Heap} {f : Addr} {oc : Value} {od an : Option Addr} {osl : Array (Option Value)} {kV doc pm cdv ct : Value} (X : K.In h) (G : h.Ns mainGlobals mg) (a : PySem.W.nsIn K mainGlobals x = some (some (.ref f)))
    (l : K.lookup f = some ⟨oc, od, .func (PySem.W.fnOf x x (defArgs st) (defBody st) (defScope st) .none kV doc pm an cdv ct), osl⟩) (c : PySem.W.codeIn K cdv x = true) (k : PySem.W.keepIn K (.ref f) = true)
    (hb : ∀ (kV doc pm : Value) (an : Option Addr) (cdv ct : Value) (us : List Value), us.length = ps.length → bindArgs (PySem.W.fnOf x x (defArgs st) (defBody st) (defScope st) .none kV doc pm an cdv ct) ⟨us, []⟩ = pure (ps.zip us)) : DefIn K mg x st ps :=
  ⟨f, _, fun_mk l c k, PySem.W.mg_of X G a, (fun_mk l c k).binds hb⟩
end
end NW
namespace NW
open PySem PySem.Spec PyProof.Rows L2
def Res.To {α : Type} (r : Res α) (P : α → Sto → Prop) : Prop := match r with
  | .ok a s => P a s
  | _ => False
def Out.To (o : Out) (N : Loc → Sto → Prop) (R : U → Sto → Prop) : Prop := match o with
  | .nx l s => N l s
  | .rt u s => R u s
  | _ => False
def Rp.To (r : Rp) (P : PyData → Prop) : Prop := match r with
  | .ok d _ => P d
  | _ => False
def Rf.To (r : Rf) (P : PyData → Fl → Prop) : Prop := match r with
  | .ok d _ f => P d f
  | _ => False
section
variable {α γ : Type} {P : α → Sto → Prop} {N : Loc → Sto → Prop} {R : U → Sto → Prop} {l : Loc} {st : Sto} {Q : U → Sto → Prop}
@[simp] theorem to_ok {a : α} : (Res.ok a st).To P ↔ P a st := Iff.rfl
@[simp] theorem to_no : (Res.no : Res α).To P ↔ False := Iff.rfl
@[simp] theorem to_bind {r : Res γ} {k : γ → Sto → Res α} : (r.bind k).To P ↔ r.To fun a s => (k a s).To P := by cases r <;> exact Iff.rfl
@[simp] theorem to_ite {c : Prop} [Decidable c] {a b : Res α} : (if c then a else b).To P ↔ if c then a.To P else b.To P := by split <;> exact Iff.rfl
@[simp] theorem to_iteO {c : Prop} [Decidable c] {a b : Out} : (if c then a else b).To N R ↔ if c then a.To N R else b.To N R := by split <;> exact Iff.rfl
@[simp] theorem to_nx : (Out.nx l st).To N R ↔ N l st := Iff.rfl
@[simp] theorem to_rt {u : U} : (Out.rt u st).To N R ↔ R u st := Iff.rfl
@[simp] theorem to_noO : Out.no.To N R ↔ False := Iff.rfl
@[simp] theorem to_out {r : Res γ} {k : γ → Sto → Out} : (r.out l k).To N R ↔ r.To fun a s => (k a s).To N R := by cases r <;> exact Iff.rfl
@[simp] theorem to_seq {o : Out} {k : Loc → Sto → Out} : (o.seq k).To N R ↔ o.To (fun l s => (k l s).To N R) R := by cases o <;> exact Iff.rfl
theorem Res.To.mono {r : Res α} {P' : α → Sto → Prop} (h : r.To P) (k : ∀ a s, P a s → P' a s) : r.To P' := by
  cases r with
  | ok a s => exact k a s h
  | _ => exact h
theorem Out.To.mono {o : Out} {N' : Loc → Sto → Prop} {R' : U → Sto → Prop} (h : o.To N R) (k : ∀ l s, N l s → N' l s) (k2 : ∀ u s, R u s → R' u s) : o.To N' R' := by
  cases o with
  | nx a s => exact k a s h
  | rt a s => exact k2 a s h
  | _ => exact h
@[simp] theorem to_var {i : Nat} : (eVar i l st).To Q ↔ ∃ u, l[i]? = some (some u) ∧ Q u st := by
  unfold eVar
  split
  · rename_i u e; simp [e]
  · rename_i h
    constructor
    · exact fun z => z.elim
    · rintro ⟨u, e, _⟩; exact (h u e).elim
@[simp] theorem to_c {x : PyData} : (eC x l st).To Q ↔ Q (.d x) st := Iff.rfl
@[simp] theorem to_op {f : U → U → Sto → Res U} {a b : ME} : (eOp f a b l st).To Q ↔ (a l st).To fun x s => (b l s).To fun y s => (f x y s).To Q := by unfold eOp; simp
@[simp] theorem to_addI {i j : Int} : (fAddA (.d (.int i)) (.d (.int j)) st).To Q ↔ Q (.d (.int (i + j))) st := Iff.rfl
@[simp] theorem to_subI {i j : Int} : (fSub (.d (.int i)) (.d (.int j)) st).To Q ↔ Q (.d (.int (i - j))) st := Iff.rfl
@[simp] theorem to_mulI {i j : Int} : (fMulA (.d (.int i)) (.d (.int j)) st).To Q ↔ mulC i j = true ∧ Q (.d (.int (i * j))) st := by unfold fMulA; simp
@[simp] theorem to_modI {i j : Int} : (fMod (.d (.int i)) (.d (.int j)) st).To Q ↔ j ≠ 0 ∧ Q (.d (.int (i.fmod j))) st := by unfold fMod oI; simp
@[simp] theorem to_divI {i j : Int} : (fDiv (.d (.int i)) (.d (.int j)) st).To Q ↔ divC i j = true ∧ Q (.d (.int (i.fdiv j))) st := by unfold fDiv oI; simp
@[simp] theorem to_powI {i j : Int} : (fPow (.d (.int i)) (.d (.int j)) st).To Q ↔ (0 ≤ j ∧ j ≤ 1000000 ∧ i.natAbs < 2 ^ 64) ∧ Q (.d (.int (i ^ j.toNat))) st := by unfold fPow oI; simp
@[simp] theorem to_lt {i j : Int} : (fLt (.d (.int i)) (.d (.int j)) st).To Q ↔ Q (.d (.bool (decide (i < j)))) st := Iff.rfl
@[simp] theorem to_le {i j : Int} : (fLe (.d (.int i)) (.d (.int j)) st).To Q ↔ Q (.d (.bool (decide (i ≤ j)))) st := Iff.rfl
@[simp] theorem to_gt {i j : Int} : (fGt (.d (.int i)) (.d (.int j)) st).To Q ↔ Q (.d (.bool (decide (j < i)))) st := Iff.rfl
@[simp] theorem to_ge {i j : Int} : (fGe (.d (.int i)) (.d (.int j)) st).To Q ↔ Q (.d (.bool (decide (j ≤ i)))) st := Iff.rfl
@[simp] theorem to_eqD {x y : PyData} {neg : Bool} : (opEq neg (.d x) (.d y) st).To Q ↔ (SeqAt.shaped x = true ∧ SeqAt.shaped y = true) ∧ Q (.d (.bool (if neg then !PyData.eqv x y else PyData.eqv x y))) st := by
  unfold opEq toTree; simp
@[simp] theorem shaped_int {i : Int} : SeqAt.shaped (.int i) = true := rfl
@[simp] theorem shaped_bool {i : Bool} : SeqAt.shaped (.bool i) = true := rfl
@[simp] theorem shaped_none : SeqAt.shaped .none = true := rfl
@[simp] theorem eqv_int {i j : Int} : PyData.eqv (.int i) (.int j) = decide (i = j) := by simp [PyData.eqv, BEq.beq]
@[simp] theorem eqv_bool {i j : Bool} : PyData.eqv (.bool i) (.bool j) = decide (i = j) := by cases i <;> cases j <;> rfl
@[simp] theorem to_isN {u : U} {neg : Bool} : (fIsN neg u (.d .none) st).To Q ↔ Q (.d (.bool (if neg then !isNon u else isNon u))) st := Iff.rfl
@[simp] theorem to_ixT {xs : List PyData} {i : Int} : (fIx (.d (.tuple xs)) (.d (.int i)) st).To Q ↔ ∃ x, ((idxN xs.length i).bind fun j => xs[j]?) = some x ∧ Q (.d x) st := by
  show (match (idxN xs.length i).bind fun j => xs[j]? with
        | some x => Res.ok (U.d x) st
        | none => .no).To Q ↔ _
  cases (idxN xs.length i).bind fun j => xs[j]? <;> simp
@[simp] theorem to_ixL {xs : List PyData} {i : Int} : (fIx (.d (.list xs)) (.d (.int i)) st).To Q ↔ ∃ x, ((idxN xs.length i).bind fun j => xs[j]?) = some x ∧ Q (.d x) st := by
  show (match (idxN xs.length i).bind fun j => xs[j]? with
        | some x => Res.ok (U.d x) st
        | none => .no).To Q ↔ _
  cases (idxN xs.length i).bind fun j => xs[j]? <;> simp
@[simp] theorem to_ixF {i : Int} : (fIx .flow (.d (.int i)) st).To Q ↔ ∃ f u, st.fl = some f ∧ flAt f i = some u ∧ Q u st := by
  show (match st.fl with
      | some f => (match flAt f i with
        | some u => Res.ok u st
        | none => .no)
      | none => .no).To Q ↔ _
  cases st.fl with
  | none => simp
  | some f => cases h : flAt f i <;> simp [h]
@[simp] theorem to_ixS {ns : List Int} {i : Int} : (fIx (.scr ns) (.d (.int i)) st).To Q ↔ ∃ x, ((idxN ns.length i).bind fun j => ns[j]?) = some x ∧ Q (.d (.int x)) st := by
  show (match (idxN ns.length i).bind fun j => ns[j]? with
        | some x => Res.ok (U.d (.int x)) st
        | none => .no).To Q ↔ _
  cases (idxN ns.length i).bind fun j => ns[j]? <;> simp
theorem idxN_nat {n j : Nat} (h : j < n) : idxN n (j : Int) = some j := by
  unfold idxN; rw [if_pos (by omega), if_pos (by omega)]; simp
@[simp] theorem flAt_0 {f : Fl} : flAt f 0 = some (.scr f.cells) := rfl
@[simp] theorem flAt_1 {f : Fl} : flAt f 1 = some (.d (.int f.place)) := rfl
@[simp] theorem flAt_2 {f : Fl} : flAt f 2 = some (.d (.int f.held)) := rfl
@[simp] theorem flAt_3 {f : Fl} : flAt f 3 = some (.d (.int f.seed)) := rfl
@[simp] theorem flAt_4 {f : Fl} : flAt f 4 = some (.d (.int f.many)) := rfl
@[simp] theorem flPut_1 {f : Fl} {x : Int} : flPut f 1 x = some { f with place := x } := rfl
@[simp] theorem flPut_2 {f : Fl} {x : Int} : flPut f 2 x = some { f with held := x } := rfl
@[simp] theorem flPut_3 {f : Fl} {x : Int} : flPut f 3 x = some { f with seed := x } := rfl
@[simp] theorem flPut_4 {f : Fl} {x : Int} : flPut f 4 x = some { f with many := x } := rfl
@[simp] theorem to_bTest {m : ME} {P : Bool → Sto → Prop} : (bTest m l st).To P ↔ (m l st).To fun u s => ∃ b, u = .d (.bool b) ∧ P b s := by
  unfold bTest
  rw [to_bind]
  cases m l st with
  | ok u s =>
    simp only [to_ok]
    split
    · rename_i b; simp
    · rename_i h
      simp only [to_no, false_iff]
      rintro ⟨b, rfl, _⟩; exact h b rfl
  | _ => exact Iff.rfl
@[simp] theorem to_bAnd {a b : MB} {P : Bool → Sto → Prop} : (bAnd a b l st).To P ↔ (a l st).To fun c s => if c = true then (b l s).To P else P false s := by unfold bAnd; simp
@[simp] theorem to_bOr {a b : MB} {P : Bool → Sto → Prop} : (bOr a b l st).To P ↔ (a l st).To fun c s => if c = true then P true s else (b l s).To P := by unfold bOr; simp
@[simp] theorem to_bNot {a : MB} {P : Bool → Sto → Prop} : (bNot a l st).To P ↔ (a l st).To fun c s => P (!c) s := by unfold bNot; simp
@[simp] theorem to_bYes {P : Bool → Sto → Prop} : (bYes l st).To P ↔ P true st := Iff.rfl
@[simp] theorem to_bTruB {m : ME} {P : Bool → Sto → Prop} : (bTru m l st).To P ↔ (m l st).To fun u s => ∃ b, truD s u = some b ∧ P b s := by
  unfold bTru
  rw [to_bind]
  cases m l st with
  | ok u s => simp only [to_ok]; cases truD s u <;> simp
  | _ => exact Iff.rfl
@[simp] theorem truD_bool {b : Bool} : truD st (.d (.bool b)) = some b := rfl
@[simp] theorem truD_int {i : Int} : truD st (.d (.int i)) = some (i != 0) := rfl
@[simp] theorem to_eAndV {a b : ME} : (eAndV a b l st).To Q ↔ (a l st).To fun u s => ∃ c, u = .d (.bool c) ∧ if c = true then (b l s).To Q else Q (.d (.bool false)) s := by
  unfold eAndV
  rw [to_bind]
  cases a l st with
  | ok u s =>
    simp only [to_ok]
    split
    · rename_i b; simp
    · rename_i h
      simp only [to_no, false_iff]
      rintro ⟨b, rfl, _⟩; exact h b rfl
  | _ => exact Iff.rfl
@[simp] theorem to_eOrV {a b : ME} : (eOrV a b l st).To Q ↔ (a l st).To fun u s => ∃ c, u = .d (.bool c) ∧ if c = true then Q (.d (.bool true)) s else (b l s).To Q := by
  unfold eOrV
  rw [to_bind]
  cases a l st with
  | ok u s =>
    simp only [to_ok]
    split
    · rename_i b; simp
    · rename_i h
      simp only [to_no, false_iff]
      rintro ⟨b, rfl, _⟩; exact h b rfl
  | _ => exact Iff.rfl
@[simp] theorem to_eNotV {a : ME} : (eNotV a l st).To Q ↔ (a l st).To fun u s => ∃ c, u = .d (.bool c) ∧ Q (.d (.bool (!c))) s := by
  unfold eNotV
  rw [to_bind]
  cases a l st with
  | ok u s =>
    simp only [to_ok]
    split
    · rename_i b; simp
    · rename_i h
      simp only [to_no, false_iff]
      rintro ⟨b, rfl, _⟩; exact h b rfl
  | _ => exact Iff.rfl
@[simp] theorem to_aNil {P : List U → Sto → Prop} : (aNil l st).To P ↔ P [] st := Iff.rfl
@[simp] theorem to_aCons {a : ME} {r : MA} {P : List U → Sto → Prop} : (aCons a r l st).To P ↔ (a l st).To fun u s => (r l s).To fun us s => P (u :: us) s := by unfold aCons; simp
@[simp] theorem lenOk_small {n : Nat} : lenOk n = true ↔ n ≤ 16777216 := by unfold lenOk; rw [sizeLine_eq]; simp
@[simp] theorem to_eTup {a : MA} : (eTup a l st).To Q ↔ (a l st).To fun us s => ∃ ds, treesOf us = some ds ∧ ds.length ≤ 16777216 ∧ Q (.d (.tuple ds)) s := by
  unfold eTup
  rw [to_bind]
  cases a l st with
  | ok u s => simp only [to_ok]; cases treesOf u <;> simp
  | _ => exact Iff.rfl
@[simp] theorem treesOf_nil : treesOf [] = some [] := rfl
@[simp] theorem treesOf_cons {x : PyData} {us : List U} : treesOf (.d x :: us) = (treesOf us).map (x :: ·) := rfl
@[simp] theorem to_lDisp {a : MA} {P : List PyData → Sto → Prop} : (lDisp a l st).To P ↔ (a l st).To fun us s => ∃ ds, treesOf us = some ds ∧ ds.length ≤ 16777216 ∧ P ds s := by
  unfold lDisp
  rw [to_bind]
  cases a l st with
  | ok u s => simp only [to_ok]; cases treesOf u <;> simp
  | _ => exact Iff.rfl
@[simp] theorem to_eFrz {m : ML} : (eFrz m l st).To Q ↔ (m l st).To fun xs s => Q (.d (.list xs)) s := by unfold eFrz; simp
@[simp] theorem to_eOwn {m : ML} : (eOwn m l st).To Q ↔ (m l st).To fun xs s => Q (.ref s.obs.length) (s.add xs) := by unfold eOwn; simp
@[simp] theorem to_eCB {f : List U → Sto → Res U} {a : MA} : (eCB f a l st).To Q ↔ (a l st).To fun us s => (f us s).To Q := by unfold eCB; simp
@[simp] theorem to_lCB {f : List U → Sto → Res (List PyData)} {a : MA} {P : List PyData → Sto → Prop} : (lCB f a l st).To P ↔ (a l st).To fun us s => (f us s).To P := by unfold lCB; simp
@[simp] theorem to_callP {k : Nat} {m : List PyData → Rp} {a : MA} : (eCallP k m a l st).To Q ↔ (a l st).To fun us s => (fCallP k m us s).To Q := by unfold eCallP; simp
@[simp] theorem to_callF {k : Nat} {m : List PyData → Fl → Rf} {a : MA} : (eCallF k m a l st).To Q ↔ (a l st).To fun us s => (fCallF k m us s).To Q := by unfold eCallF; simp
theorem ctrees_d {ds : List PyData} : ctrees st (ds.map .d) = some ds := by
  induction ds with
  | nil => rfl
  | cons x xs ih => rw [List.map_cons, ctrees, ih]; rfl
theorem any_d {ds : List PyData} : (ds.map U.d).any isRef = false := by
  induction ds with
  | nil => rfl
  | cons x xs ih => rw [List.map_cons, List.any_cons, ih]; rfl
theorem fCallP_d {k : Nat} {m : List PyData → Rp} {ds : List PyData} (hk : ds.length = k) : (fCallP k m (ds.map .d) st).To Q ↔ (m ds).To fun d => Q (.d d) st := by
  unfold fCallP
  rw [ctrees_d]
  simp only [hk, if_true, any_d]
  cases m ds <;> simp [Rp.To]
theorem fCallF_d {k : Nat} {m : List PyData → Fl → Rf} {ds : List PyData} {f : Fl} (hf : st.fl = some f) (hk : ds.length + 1 = k) : (fCallF k m (.flow :: ds.map .d) st).To Q ↔ (m ds f).To fun d f' => Q (.d d) { st with fl := some f' } := by
  unfold fCallF
  simp only [hf]
  rw [ctrees_d]
  simp only [hk, if_true, any_d]
  cases m ds f <;> simp [Rf.To]
@[simp] theorem callP_1 {m : List PyData → Rp} {x : PyData} : (fCallP 1 m [.d x] st).To Q ↔ (m [x]).To fun d => Q (.d d) st := fCallP_d (ds := [x]) rfl
@[simp] theorem callP_2 {m : List PyData → Rp} {x y : PyData} : (fCallP 2 m [.d x, .d y] st).To Q ↔ (m [x, y]).To fun d => Q (.d d) st := fCallP_d (ds := [x, y]) rfl
@[simp] theorem callP_3 {m : List PyData → Rp} {x y z : PyData} : (fCallP 3 m [.d x, .d y, .d z] st).To Q ↔ (m [x, y, z]).To fun d => Q (.d d) st := fCallP_d (ds := [x, y, z]) rfl
@[simp] theorem callP_4 {m : List PyData → Rp} {x y z w : PyData} : (fCallP 4 m [.d x, .d y, .d z, .d w] st).To Q ↔ (m [x, y, z, w]).To fun d => Q (.d d) st := fCallP_d (ds := [x, y, z, w]) rfl
@[simp] theorem callF_1 {m : List PyData → Fl → Rf} {f : Fl} {o : List Ob} : (fCallF 1 m [.flow] ⟨some f, o⟩).To Q ↔ (m [] f).To fun d f' => Q (.d d) ⟨some f', o⟩ := fCallF_d (ds := []) rfl rfl
@[simp] theorem callF_2 {m : List PyData → Fl → Rf} {x : PyData} {f : Fl} {o : List Ob} : (fCallF 2 m [.flow, .d x] ⟨some f, o⟩).To Q ↔ (m [x] f).To fun d f' => Q (.d d) ⟨some f', o⟩ := fCallF_d (ds := [x]) rfl rfl
@[simp] theorem callF_3 {m : List PyData → Fl → Rf} {x y : PyData} {f : Fl} {o : List Ob} : (fCallF 3 m [.flow, .d x, .d y] ⟨some f, o⟩).To Q ↔ (m [x, y] f).To fun d f' => Q (.d d) ⟨some f', o⟩ := fCallF_d (ds := [x, y]) rfl rfl
@[simp] theorem callF_4 {m : List PyData → Fl → Rf} {x y z : PyData} {f : Fl} {o : List Ob} : (fCallF 4 m [.flow, .d x, .d y, .d z] ⟨some f, o⟩).To Q ↔ (m [x, y, z] f).To fun d f' => Q (.d d) ⟨some f', o⟩ := fCallF_d (ds := [x, y, z]) rfl rfl
@[simp] theorem to_cAbs {i : Int} : (cAbs [.d (.int i)] st).To Q ↔ Q (.d (.int (if i < 0 then -i else i))) st := Iff.rfl
@[simp] theorem to_cIntI {i : Int} : (cInt [.d (.int i)] st).To Q ↔ Q (.d (.int i)) st := Iff.rfl
@[simp] theorem to_cIntB {b : Bool} : (cInt [.d (.bool b)] st).To Q ↔ Q (.d (.int (if b then 1 else 0))) st := Iff.rfl
@[simp] theorem to_cLenT {xs : List PyData} : (cLen [.d (.tuple xs)] st).To Q ↔ Q (.d (.int xs.length)) st := Iff.rfl
@[simp] theorem to_cLenL {xs : List PyData} : (cLen [.d (.list xs)] st).To Q ↔ Q (.d (.int xs.length)) st := Iff.rfl
@[simp] theorem to_cLenS {ns : List Int} : (cLen [.scr ns] st).To Q ↔ Q (.d (.int ns.length)) st := Iff.rfl
@[simp] theorem to_cAll {bs : List Bool} : (cAll [.d (.list (bs.map .bool))] st).To Q ↔ Q (.d (.bool (bs.all id))) st := by
  unfold cAll cBools listOf; simp
@[simp] theorem to_cAny {bs : List Bool} : (cAny [.d (.list (bs.map .bool))] st).To Q ↔ Q (.d (.bool (bs.any id))) st := by
  unfold cAny cBools listOf; simp
@[simp] theorem to_isi {m : ME} {T : String} : (eIsi m T l st).To Q ↔ (m l st).To fun u s => ∃ x, toTree s u = some x ∧ tyOk T = true ∧ Q (.d (.bool (isiT x T))) s := by
  unfold eIsi
  rw [to_bind]
  cases m l st with
  | ok u s => simp only [to_ok]; cases toTree s u <;> simp
  | _ => exact Iff.rfl
@[simp] theorem toTree_d' {x : PyData} : toTree st (.d x) = some x := rfl
@[simp] theorem to_sNext : (sNext l st).To N R ↔ N l st := Iff.rfl
@[simp] theorem to_sSeq {a b : MS} : (sSeq a b l st).To N R ↔ (a l st).To (fun l s => (b l s).To N R) R := by unfold sSeq; simp
@[simp] theorem to_sAsg {i : Nat} {m : ME} : (sAsg i m l st).To N R ↔ (m l st).To fun u s => N (l.set i (some u)) s := by unfold sAsg; simp
@[simp] theorem to_sDrop {m : ME} : (sDrop m l st).To N R ↔ (m l st).To fun _ s => N l s := by unfold sDrop; simp
@[simp] theorem to_sRet {m : ME} : (sRet m l st).To N R ↔ (m l st).To R := by unfold sRet; simp
@[simp] theorem to_sIf {c : MB} {a b : MS} : (sIf c a b l st).To N R ↔ (c l st).To fun k s => if k = true then (a l s).To N R else (b l s).To N R := by unfold sIf; simp
theorem to_sPar0 {i j : Nat} {a : MA} : (sPar i j a l st).To N R ↔ (a l st).To fun us s => ∃ u w, us = [u, w] ∧ N ((l.set i (some u)).set j (some w)) s := by
  unfold sPar
  rw [to_out]
  cases a l st with
  | ok us s =>
    simp only [to_ok]
    show (match us with | [u, w] => Out.nx ((l.set i (some u)).set j (some w)) s | _ => .no).To N R ↔ _
    split
    · rename_i u w
      exact ⟨fun z => ⟨u, w, rfl, z⟩, fun ⟨u', w', e, z⟩ => by cases e; exact z⟩
    · rename_i h
      constructor
      · exact fun z => z.elim
      · rintro ⟨u, w, rfl, _⟩; exact (h u w rfl).elim
  | _ => exact Iff.rfl
@[simp] theorem to_sPar {i j : Nat} {a b : ME} : (sPar i j (aCons a (aCons b aNil)) l st).To N R ↔ (a l st).To fun u s => (b l s).To fun w s => N ((l.set i (some u)).set j (some w)) s := by
  rw [to_sPar0, to_aCons]
  refine iff_of_eq (congrArg _ (funext fun u => funext fun s => propext ?_))
  rw [to_aCons]
  refine iff_of_eq (congrArg _ (funext fun w => funext fun s => propext ?_))
  rw [to_aNil]
  exact ⟨fun ⟨u', w', e, z⟩ => by cases e; exact z, fun z => ⟨u, w, rfl, z⟩⟩
@[simp] theorem to_sAsgG {m : ME} {t : MT} : (sAsgG m t l st).To N R ↔ (m l st).To fun u s => (t u l s).To N := by unfold sAsgG; simp
@[simp] theorem to_gName {i : Nat} {u : U} {P : Loc → Sto → Prop} : (gNameM i u l st).To P ↔ P (l.set i (some u)) st := Iff.rfl
@[simp] theorem to_gTup {n : Nat} {r : MTs} {xs : List PyData} {P : Loc → Sto → Prop} : (gTupM n r (.d (.tuple xs)) l st).To P ↔ xs.length = n ∧ (r xs l st).To P := by
  unfold gTupM; simp
@[simp] theorem to_gCons {t : MT} {r : MTs} {x : PyData} {xs : List PyData} {P : Loc → Sto → Prop} : (gConsM t r (x :: xs) l st).To P ↔ (t (.d x) l st).To fun l s => (r xs l s).To P := by unfold gConsM; simp
@[simp] theorem to_gNil {P : Loc → Sto → Prop} : (gNilM [] l st).To P ↔ P l st := Iff.rfl
@[simp] theorem to_gSubF {o i : ME} {x : Int} {P : Loc → Sto → Prop} : (gSubM o i (.d (.int x)) l st).To P ↔ (o l st).To fun ou s => (i l s).To fun iu s => (match ou, iu with
  | .flow, .d (.int j) => ∃ f f', s.fl = some f ∧ flPut f j x = some f' ∧ P l { s with fl := some f' }
  | .ref k, .d (.int j) => ∃ xs n, s.obs[k]? = some (.lst xs) ∧ idxN xs.length j = some n ∧ P l (s.put k (xs.set n (.int x)))
  | _, _ => False) := by
  unfold gSubM
  rw [to_bind]
  refine iff_of_eq (congrArg _ (funext fun ou => funext fun s => propext ?_))
  rw [to_bind]
  refine iff_of_eq (congrArg _ (funext fun iu => funext fun s => propext ?_))
  cases ou <;> cases iu <;> try exact Iff.rfl
  · rename_i k y
    cases y <;> try exact Iff.rfl
    rename_i j
    show (match s.obs[k]? with
      | some (.lst xs) => (match idxN xs.length j with
        | some n => Res.ok l (s.put k (xs.set n (.int x)))
        | none => .no)
      | _ => .no).To P ↔ _
    split
    · rename_i xs e
      split
      · rename_i n en; simp [e, en]
      · rename_i en; simp [e, en]
    · rename_i h
      constructor
      · exact fun z => z.elim
      · rintro ⟨xs, n, e, _⟩; exact (h xs e).elim
  · rename_i y
    cases y <;> try exact Iff.rfl
    rename_i j
    show (match s.fl with
      | some f => (match flPut f j x with
        | some f' => Res.ok l { s with fl := some f' }
        | none => .no)
      | none => .no).To P ↔ _
    cases s.fl with
    | none => simp
    | some f => cases e : flPut f j x <;> simp [e]
end
def retP (P : PyData → Prop) (u : U) (s : Sto) : Prop := match u with
  | .d x => P x
  | .ref i => ∃ xs, s.obs[i]? = some (Ob.lst xs) ∧ P (.list xs)
  | _ => False
def retF (P : PyData → Fl → Prop) (u : U) (s : Sto) : Prop := match u with
  | .d x => ∃ f, s.fl = some f ∧ P x f
  | .ref i => ∃ xs f, s.obs[i]? = some (Ob.lst xs) ∧ s.fl = some f ∧ P (.list xs) f
  | _ => False
section
variable {st : Sto} {P : PyData → Prop} {PF : PyData → Fl → Prop}
@[simp] theorem retP_d {x : PyData} : retP P (.d x) st ↔ P x := Iff.rfl
@[simp] theorem retP_ref {i : Nat} : retP P (.ref i) st ↔ ∃ xs, st.obs[i]? = some (Ob.lst xs) ∧ P (.list xs) := Iff.rfl
@[simp] theorem retF_d {x : PyData} : retF PF (.d x) st ↔ ∃ f, st.fl = some f ∧ PF x f := Iff.rfl
@[simp] theorem retF_ref {i : Nat} : retF PF (.ref i) st ↔ ∃ xs f, st.obs[i]? = some (Ob.lst xs) ∧ st.fl = some f ∧ PF (.list xs) f := Iff.rfl
theorem outP_to {o : Out} : (outP o).To P ↔ o.To (fun _ _ => P .none) (retP P) := by
  cases o with
  | rt u s =>
    cases u with
    | ref i =>
      show (match s.obs[i]? with | some (.lst xs) => Rp.ok (.list xs) true | _ => .no).To P ↔ ∃ xs, s.obs[i]? = some (Ob.lst xs) ∧ P (.list xs)
      split
      · rename_i xs e; simp [e, Rp.To]
      · rename_i h
        constructor
        · exact fun z => z.elim
        · rintro ⟨xs, e, _⟩; exact (h xs e).elim
    | _ => exact Iff.rfl
  | _ => exact Iff.rfl
theorem pure_to {n : Nat} {b : MS} {ds : List PyData} : (pureOf n b ds).To P ↔ (b (startL n (ds.map .d)) ⟨none, []⟩).To (fun _ _ => P .none) (retP P) := outP_to
theorem outF_to {o : Out} : (outF o).To PF ↔ o.To (fun _ s => ∃ f, s.fl = some f ∧ PF .none f) (retF PF) := by
  cases o with
  | rt u s =>
    cases u with
    | d x =>
      show (match s.fl with | some f => Rf.ok x false f | none => .no).To PF ↔ ∃ f, s.fl = some f ∧ PF x f
      cases s.fl <;> simp [Rf.To]
    | ref i =>
      show (match s.obs[i]?, s.fl with | some (.lst xs), some f => Rf.ok (.list xs) true f | _, _ => .no).To PF ↔ ∃ xs f, s.obs[i]? = some (Ob.lst xs) ∧ s.fl = some f ∧ PF (.list xs) f
      split
      · rename_i xs f e e2; simp [e, e2, Rf.To]
      · rename_i h
        constructor
        · exact fun z => z.elim
        · rintro ⟨xs, f, e, e2, _⟩; exact (h xs f e e2).elim
    | _ => exact Iff.rfl
  | nx l s =>
    show (match s.fl with | some f => Rf.ok .none false f | none => .no).To PF ↔ ∃ f, s.fl = some f ∧ PF .none f
    cases s.fl <;> simp [Rf.To]
  | ex e l s =>
    show (match s.fl with | some f => Rf.ex e f | none => .no).To PF ↔ False
    cases s.fl <;> exact Iff.rfl
  | _ => exact Iff.rfl
theorem flow_to {n : Nat} {b : MS} {ds : List PyData} {f : Fl} : (flowOf n b ds f).To PF ↔ (b (startL n (.flow :: ds.map .d)) ⟨some f, []⟩).To (fun _ s => ∃ f, s.fl = some f ∧ PF .none f) (retF PF) := outF_to
theorem Rp.To.mono {r : Rp} {P' : PyData → Prop} (h : r.To P) (k : ∀ d, P d → P' d) : r.To P' := by
  cases r with
  | ok a s => exact k a h
  | _ => exact h
theorem Rf.To.mono {r : Rf} {P' : PyData → Fl → Prop} (h : r.To PF) (k : ∀ d f, PF d f → P' d f) : r.To P' := by
  cases r with
  | ok a s f => exact k a f h
  | _ => exact h
theorem for_to {d : ItD} {t : MT} {b : MS} {N : Loc → Sto → Prop} {R : U → Sto → Prop} {I : List PyData → Loc → Sto → Prop} (hk : ∀ xs l st, I xs l st → d.chk st)
    (step : ∀ x xs l st, I (x :: xs) l st → (t (.d x) l st).To fun l s => (b l s).To (I xs) R) (fin : ∀ l st, I [] l st → N l st) : ∀ (xs : List PyData) (l : Loc) (st : Sto), I xs l st → (forM d t b xs l st).To N R
  | [], l, st, h => by
    rw [forM, if_pos (hk _ _ _ h)]; exact fin l st h
  | x :: xs, l, st, h => by
    rw [forM, if_pos (hk _ _ _ h), to_out]
    refine (step x xs l st h).mono fun l1 s1 h1 => ?_
    cases e : b l1 s1 with
    | nx l2 s2 => rw [e] at h1; exact for_to hk step fin xs l2 s2 h1
    | rt u s2 => rw [e] at h1; exact h1
    | _ => rw [e] at h1; exact h1.elim
theorem chk_nil {xs : List PyData} : (ItD.mk xs []).chk st := fun p h => by cases h
@[simp] theorem to_sFor {mi : MI} {t : MT} {b : MS} {l : Loc} {N : Loc → Sto → Prop} {R : U → Sto → Prop} : (sFor mi t b l st).To N R ↔ (mi l st).To fun d s => (forM d t b d.items l s).To N R := by unfold sFor; simp
@[simp] theorem to_mR1 {a : MA} {l : Loc} {Q : ItD → Sto → Prop} : (mR1 a l st).To Q ↔ (a l st).To fun us s => ∃ j, us = [.d (.int j)] ∧ rOk j = true ∧ Q ⟨rangeD 0 1 j.toNat, []⟩ s := by
  unfold mR1
  rw [to_bind]
  cases a l st with
  | ok us s =>
    simp only [to_ok]
    split
    · rename_i j; simp
    · rename_i h
      constructor
      · exact fun z => z.elim
      · rintro ⟨j, rfl, _⟩; exact (h j rfl).elim
  | _ => exact Iff.rfl
@[simp] theorem to_mR2 {a : MA} {l : Loc} {Q : ItD → Sto → Prop} : (mR2 a l st).To Q ↔ (a l st).To fun us s => ∃ i j, us = [.d (.int i), .d (.int j)] ∧ (rOk i = true ∧ rOk j = true) ∧ Q ⟨rangeD i 1 (j - i).toNat, []⟩ s := by
  unfold mR2
  rw [to_bind]
  cases a l st with
  | ok us s =>
    simp only [to_ok]
    split
    · rename_i i j
      rw [to_ite]
      constructor
      · intro z
        split at z
        · rename_i h; exact ⟨i, j, rfl, (Bool.and_eq_true _ _).mp h, z⟩
        · exact z.elim
      · rintro ⟨i', j', e, h, z⟩
        cases e
        rw [if_pos ((Bool.and_eq_true _ _).mpr h)]; exact z
    · rename_i h
      constructor
      · exact fun z => z.elim
      · rintro ⟨i, j, rfl, _⟩; exact (h i j rfl).elim
  | _ => exact Iff.rfl
@[simp] theorem to_mAny {m : ME} {l : Loc} {Q : ItD → Sto → Prop} : (mAny m l st).To Q ↔ (m l st).To fun u s => ∃ xs own, srcOf s u = some (xs, own) ∧ Q ⟨xs, own⟩ s := by
  unfold mAny
  rw [to_bind]
  cases m l st with
  | ok u s =>
    simp only [to_ok]
    cases e : srcOf s u with
    | none => simp
    | some p => exact ⟨fun z => ⟨p.1, p.2, rfl, z⟩, fun ⟨xs, own, e, z⟩ => by cases e; exact z⟩
  | _ => exact Iff.rfl
@[simp] theorem to_mRev {m : ME} {l : Loc} {Q : ItD → Sto → Prop} : (mRev m l st).To Q ↔ (m l st).To fun u s => ∃ xs own, srcOf s u = some (xs, own) ∧ Q ⟨xs.reverse, own⟩ s := by
  unfold mRev
  rw [to_bind]
  cases m l st with
  | ok u s =>
    simp only [to_ok]
    cases e : srcOf s u with
    | none => simp
    | some p => exact ⟨fun z => ⟨p.1, p.2, rfl, z⟩, fun ⟨xs, own, e, z⟩ => by cases e; exact z⟩
  | _ => exact Iff.rfl
@[simp] theorem srcOf_list {xs : List PyData} : srcOf st (.d (.list xs)) = some (xs, []) := rfl
@[simp] theorem srcOf_tuple {xs : List PyData} : srcOf st (.d (.tuple xs)) = some (xs, []) := rfl
theorem lc_to {d : ItD} {vs : List Nat} {t : MT} {c : MB} {m : ME} {l : Loc} {P : List PyData → Sto → Prop} {I : List PyData → List PyData → Sto → Prop} (hk : ∀ xs acc st, I xs acc st → d.chk st)
    (step : ∀ x xs acc st, I (x :: xs) acc st → (t (.d x) (wipeL l vs) st).To fun l1 s => (c l1 s).To fun b s => if b = true then (m l1 s).To fun u s => ∃ y, u = .d y ∧ I xs (acc ++ [y]) s else I xs acc s)
    (fin : ∀ acc st, I [] acc st → P acc st) : ∀ (xs acc : List PyData) (st : Sto), I xs acc st → (lcM d vs t c m l xs st).To fun ys s => P (acc ++ ys) s
  | [], acc, st, h => by
    rw [lcM, if_pos (hk _ _ _ h)]
    show P (acc ++ []) st
    rw [List.append_nil]; exact fin acc st h
  | x :: xs, acc, st, h => by
    rw [lcM, if_pos (hk _ _ _ h)]
    have h1 := step x xs acc st h
    cases e1 : t (.d x) (wipeL l vs) st with
    | ok l1 s1 =>
      rw [e1] at h1
      show ((c l1 s1).noX.bind _).To _
      have h2 : (c l1 s1).To _ := h1
      cases e2 : c l1 s1 with
      | ok b s2 =>
        rw [e2] at h2
        have h3 : if b = true then (m l1 s2).To fun u s => ∃ y, u = .d y ∧ I xs (acc ++ [y]) s else I xs acc s2 := h2
        show (if b = true then _ else _ : Res (List PyData)).To _
        rw [to_ite]
        cases b with
        | true =>
          rw [if_pos rfl] at h3 ⊢
          cases e3 : m l1 s2 with
          | ok u s3 =>
            rw [e3] at h3
            obtain ⟨y, rfl, h4⟩ := h3
            show ((lcM d vs t c m l xs s3).bind fun ys st => .ok (y :: ys) st).To _
            rw [to_bind]
            refine (lc_to hk step fin xs (acc ++ [y]) s3 h4).mono fun ys s h5 => ?_
            rw [List.append_assoc] at h5
            exact h5
          | ex e s3 => rw [e3] at h3; exact h3.elim
          | no => rw [e3] at h3; exact h3.elim
        | false =>
          rw [if_neg Bool.false_ne_true] at h3 ⊢
          exact lc_to hk step fin xs acc s2 h3
      | ex e s2 => rw [e2] at h2; exact h2.elim
      | no => rw [e2] at h2; exact h2.elim
    | ex e s1 => rw [e1] at h1; exact h1.elim
    | no => rw [e1] at h1; exact h1.elim
@[simp] theorem to_lLc {mi : MI} {vs : List Nat} {t : MT} {c : MB} {m : ME} {l : Loc} {P : List PyData → Sto → Prop} : (lLc mi vs t c m l st).To P ↔ (mi l st).To fun d s => d.items.length ≤ 16777216 ∧ (lcM d vs t c m l d.items s).To P := by
  unfold lLc
  rw [to_bind]
  cases mi l st with
  | ok d s => simp
  | _ => exact Iff.rfl
end
end NW
namespace NW
open PySem PySem.Spec PyProof.Rows L2
section
variable {l : Loc} {st : Sto} {Q : U → Sto → Prop} {P : Option Int → Sto → Prop}
@[simp] theorem to_oNone : (oNone l st).To P ↔ P none st := Iff.rfl
@[simp] theorem to_oSome {m : ME} : (oSome m l st).To P ↔ (m l st).To fun u s => ∃ i, u = .d (.int i) ∧ P (some i) s := by
  unfold oSome
  rw [to_bind]
  cases m l st with
  | ok u s =>
    simp only [to_ok]
    split
    · rename_i i; simp
    · rename_i h
      simp only [to_no, false_iff]
      rintro ⟨i, rfl, _⟩; exact h i rfl
  | _ => exact Iff.rfl
@[simp] theorem to_eSlAny {m : ME} {lo hi : MO} : (eSlAny m lo hi l st).To Q ↔ (m l st).To fun u s => (lo l s).To fun a s => (hi l s).To fun b s => (fSl u a b s).To Q := by unfold eSlAny; simp
@[simp] theorem to_slT {xs : List PyData} {a b : Option Int} : (fSl (.d (.tuple xs)) a b st).To Q ↔ Q (.d (.tuple (cutD xs a b))) st := Iff.rfl
@[simp] theorem to_slL {xs : List PyData} {a b : Option Int} : (fSl (.d (.list xs)) a b st).To Q ↔ Q (.d (.list (cutD xs a b))) st := Iff.rfl
@[simp] theorem to_addL {xs ys : List PyData} : (fAddA (.d (.list xs)) (.d (.list ys)) st).To Q ↔ xs.length + ys.length ≤ 16777216 ∧ Q (.d (.list (xs ++ ys))) st := by
  show (if lenOk (xs.length + ys.length) = true then Res.ok (U.d (.list (xs ++ ys))) st else .no).To Q ↔ _
  rw [to_ite]; simp only [lenOk_small, to_ok, to_no]; split
  · rename_i h; exact ⟨fun z => ⟨h, z⟩, fun z => z.2⟩
  · rename_i h; exact ⟨fun z => z.elim, fun z => h z.1⟩
@[simp] theorem to_addT {xs ys : List PyData} : (fAddA (.d (.tuple xs)) (.d (.tuple ys)) st).To Q ↔ xs.length + ys.length ≤ 16777216 ∧ Q (.d (.tuple (xs ++ ys))) st := by
  show (if lenOk (xs.length + ys.length) = true then Res.ok (U.d (.tuple (xs ++ ys))) st else .no).To Q ↔ _
  rw [to_ite]; simp only [lenOk_small, to_ok, to_no]; split
  · rename_i h; exact ⟨fun z => ⟨h, z⟩, fun z => z.2⟩
  · rename_i h; exact ⟨fun z => z.elim, fun z => h z.1⟩
end
theorem rt_true {o : Out} (h : o.To (fun _ _ => False) fun u _ => u = .d (.bool true)) : ∃ st', o = .rt (.d (.bool true)) st' := by
  cases o with
  | rt u s => cases (show u = _ from h); exact ⟨s, rfl⟩
  | nx l s => exact h.elim
  | _ => exact h.elim
end NW
namespace NW
open PySem PySem.Spec PyProof.Rows L2
section
variable {P : Program} {w : World} {K : PySem.W.Frag} {mg : Str → Option Value} {base : Heap} {N ps : List Str} {x : Str} {st : Stmt} {k n : Nat}
theorem calP0 (D : DefIn K mg x st ps) (S : FnScope N ps (defScope st)) : Cal P w K mg base k x ps (spP K n fun _ => .no) := by
  obtain ⟨f, fd, F, hm, hb'⟩ := D.ex
  refine ⟨f, fd, ⟨fun vs H Q E h => ?_, fun A outer s H args us vs Q E hr he hb hv h => ?_⟩, hm, F.kp, hb'⟩
  · obtain ⟨O0, ds, d, fr, _, _, _, e, _⟩ := h; cases e
  · obtain ⟨O0, ds, d, fr, _, _, _, e, _⟩ := h; cases e
end
end NW
namespace NW
open PySem PySem.Spec PyProof.Rows L2
@[simp] theorem put_mk {f : Option Fl} {o : List Ob} {i : Nat} {xs : List PyData} : Sto.put ⟨f, o⟩ i xs = ⟨f, o.set i (.lst xs)⟩ := rfl
@[simp] theorem add_mk {f : Option Fl} {o : List Ob} {xs : List PyData} : Sto.add ⟨f, o⟩ xs = ⟨f, o ++ [.lst xs]⟩ := rfl
section
variable {l : Loc} {st : Sto} {Q : U → Sto → Prop}
@[simp] theorem listOf_ref {i : Nat} {xs : List PyData} : listOf st (.ref i) = some xs ↔ st.obs[i]? = some (.lst xs) := by
  show (match st.obs[i]? with | some (.lst xs) => some xs | _ => none) = some xs ↔ _
  split
  · rename_i ys e; simp [e]
  · rename_i h
    exact ⟨fun w => by simp at w, fun w => (h _ w).elim⟩
@[simp] theorem toTree_ref {i : Nat} {x : PyData} : toTree st (.ref i) = some x ↔ ∃ xs, st.obs[i]? = some (.lst xs) ∧ x = .list xs := by
  show (match st.obs[i]? with | some (.lst xs) => some (PyData.list xs) | _ => none) = some x ↔ _
  split
  · rename_i ys e; simp [e, eq_comm]
  · rename_i h
    exact ⟨fun w => by simp at w, fun ⟨ys, w, _⟩ => (h _ w).elim⟩
theorem seqOf_ref {i : Nat} : seqOf st (.ref i) = listOf st (.ref i) := by
  unfold seqOf
  cases listOf st (.ref i) <;> rfl
@[simp] theorem isLst_ref {i : Nat} : isLst st (.ref i) = true ↔ ∃ xs, st.obs[i]? = some (.lst xs) := by
  unfold isLst
  rw [Option.isSome_iff_exists]
  exact exists_congr fun xs => listOf_ref
@[simp] theorem isLst_list {xs : List PyData} : isLst st (.d (.list xs)) = true := rfl
@[simp] theorem to_ixR {k : Nat} {i : Int} : (fIx (.ref k) (.d (.int i)) st).To Q ↔ ∃ xs x, st.obs[k]? = some (.lst xs) ∧ ((idxN xs.length i).bind fun j => xs[j]?) = some x ∧ Q (.d x) st := by
  show (match seqOf st (.ref k) with
      | some xs => (match (idxN xs.length i).bind fun j => xs[j]? with
        | some x => Res.ok (U.d x) st
        | none => .no)
      | none => .no).To Q ↔ _
  rw [seqOf_ref]
  cases e : listOf st (.ref k) with
  | none =>
    refine ⟨fun w => w.elim, fun ⟨xs, x, h, _⟩ => ?_⟩
    rw [listOf_ref.mpr h] at e; cases e
  | some ys =>
    have e' := listOf_ref.mp e
    show (match (idxN ys.length i).bind fun j => ys[j]? with
        | some x => Res.ok (U.d x) st
        | none => .no).To Q ↔ _
    cases h : (idxN ys.length i).bind fun j => ys[j]? with
    | none =>
      refine ⟨fun w => w.elim, fun ⟨xs, x, h1, h2, _⟩ => ?_⟩
      rw [e'] at h1; cases h1; rw [h] at h2; cases h2
    | some x =>
      refine ⟨fun w => ⟨ys, x, e', h, w⟩, fun ⟨xs, x, h1, h2, h3⟩ => ?_⟩
      rw [e'] at h1; cases h1; rw [h] at h2; cases h2; exact h3
@[simp] theorem to_eMethL {f : U → List U → Sto → Res U} {o : ME} {a : MA} : (eMethL f o a l st).To Q ↔ (o l st).To fun x s => isLst s x = true ∧ (a l s).To fun us s => (f x us s).To Q := by
  unfold eMethL
  rw [to_bind]
  refine iff_of_eq (congrArg _ (funext fun x => funext fun s => propext ?_))
  rw [to_ite]
  split
  · rename_i h; simp [h]
  · rename_i h; simp [h]
@[simp] theorem ownL_ref {i j : Nat} {xs : List PyData} : ownL st (.ref i) = some (j, xs) ↔ st.obs[i]? = some (.lst xs) ∧ j = i := by
  show (match st.obs[i]? with | some (.lst xs) => some (i, xs) | _ => none) = some (j, xs) ↔ _
  split
  · rename_i ys e; simp [e, eq_comm, and_comm]
  · rename_i h
    exact ⟨fun w => by simp at w, fun ⟨w, _⟩ => (h _ w).elim⟩
@[simp] theorem to_append {k : Nat} {y : PyData} : (mAppend (.ref k) [.d y] st).To Q ↔ ∃ xs, st.obs[k]? = some (.lst xs) ∧ xs.length < 16777216 ∧ Q (.d .none) (st.put k (xs ++ [y])) := by
  unfold mAppend
  cases e : ownL st (.ref k) with
  | none =>
    refine ⟨fun w => w.elim, fun ⟨xs, h, _⟩ => ?_⟩
    rw [ownL_ref.mpr ⟨h, rfl⟩] at e; cases e
  | some p =>
    obtain ⟨j, ys⟩ := p
    obtain ⟨e1, rfl⟩ := ownL_ref.mp e
    show (if decide (ys.length < sizeLine) = true then Res.ok (U.d .none) (st.put j (ys ++ [y])) else .no).To Q ↔ _
    rw [to_ite]
    simp only [decide_eq_true_eq, sizeLine_eq]
    split
    · rename_i h
      exact ⟨fun w => ⟨ys, e1, h, w⟩, fun ⟨xs, h1, _, w⟩ => by rw [e1] at h1; cases h1; exact w⟩
    · rename_i h
      exact ⟨fun w => w.elim, fun ⟨xs, h1, h2, w⟩ => by rw [e1] at h1; cases h1; exact (h h2).elim⟩
@[simp] theorem srcOf_ref {i : Nat} {xs : List PyData} {own : List (Nat × List PyData)} : srcOf st (.ref i) = some (xs, own) ↔ st.obs[i]? = some (.lst xs) ∧ own = [(i, xs)] := by
  show (match st.obs[i]? with | some (.lst xs) => some (xs, [(i, xs)]) | _ => none) = some (xs, own) ↔ _
  split
  · rename_i ys e
    rw [e]
    constructor
    · intro h; cases h; exact ⟨rfl, rfl⟩
    · rintro ⟨h, rfl⟩; cases h; rfl
  · rename_i h
    exact ⟨fun w => by simp at w, fun ⟨w, _⟩ => (h _ w).elim⟩
end
end NW
namespace NW
open PySem PySem.Spec PyProof.Rows L2
def Sto.die (st : Sto) (i : Nat) : Sto := { st with obs := st.obs.set i .dead }
@[simp] theorem die_mk {f : Option Fl} {o : List Ob} {i : Nat} : Sto.die ⟨f, o⟩ i = ⟨f, o.set i .dead⟩ := rfl
section
variable {G : Gx} {β : List Addr} {st : Sto} {H : Hp} {v : V} {i : Nat} {p : Addr} {xs : List PyData}
theorem Own.die {q : Addr} (h : Own G β (st.die i) q) : Own G β st q := by
  rcases h with h | ⟨j, ys, h1, nd, h2⟩
  · exact .inl h
  · by_cases e : j = i
    · subst e
      simp only [Sto.die] at h1
      by_cases hj : j < st.obs.length
      · rw [List.getElem?_set_self hj] at h1; cases h1; exact absurd rfl nd
      · rw [List.getElem?_eq_none (by simp; omega)] at h1; cases h1
    · exact .inr ⟨j, ys, by simpa [Sto.die, List.getElem?_set_ne (Ne.symm e)] using h1, nd, h2⟩
def eDie (m : ME) : ME := fun l st => (m l st).bind fun u st => match u with
  | .ref i => (match st.obs[i]? with
    | some (.lst xs) => .ok (.d (.list xs)) (st.die i)
    | _ => .no)
  | u => .ok u st
end
section
variable {l : Loc} {st : Sto} {Q : U → Sto → Prop}
@[simp] theorem to_eDie {m : ME} : (eDie m l st).To Q ↔ (m l st).To fun u s => match u with
    | .ref i => ∃ xs, s.obs[i]? = some (Ob.lst xs) ∧ Q (.d (.list xs)) (s.die i)
    | u => Q u s := by
  unfold eDie
  rw [to_bind]
  refine iff_of_eq (congrArg _ (funext fun u => funext fun s => propext ?_))
  cases u with
  | ref i =>
    show (match s.obs[i]? with
      | some (.lst xs) => Res.ok (U.d (.list xs)) (s.die i)
      | _ => .no).To Q ↔ _
    split
    · rename_i xs e; simp [e]
    · rename_i h
      constructor
      · exact fun z => z.elim
      · rintro ⟨xs, e, _⟩; exact (h xs e).elim
  | _ => exact Iff.rfl
end
end NW
namespace NW
open PySem PySem.Spec PyProof.Rows L2
section
variable {l : Loc} {st : Sto} {Q : U → Sto → Prop}
theorem to_eqG {a b : U} {neg : Bool} : (opEq neg a b st).To Q ↔ ∃ x y, (toTree st a = some x ∧ toTree st b = some y) ∧ (SeqAt.shaped x = true ∧ SeqAt.shaped y = true) ∧ Q (.d (.bool (if neg then !PyData.eqv x y else PyData.eqv x y))) st := by
  unfold opEq
  cases e1 : toTree st a with
  | none => simp
  | some x =>
    cases e2 : toTree st b with
    | none => simp
    | some y =>
      simp
      exact ⟨fun h => ⟨x, y, ⟨rfl, rfl⟩, h⟩, fun ⟨_, _, ⟨h1, h2⟩, h⟩ => by cases h1; cases h2; exact h⟩
@[simp] theorem to_eqRD {i : Nat} {y : PyData} {neg : Bool} : (opEq neg (.ref i) (.d y) st).To Q ↔ ∃ xs, st.obs[i]? = some (Ob.lst xs) ∧ (SeqAt.shaped (.list xs) = true ∧ SeqAt.shaped y = true) ∧ Q (.d (.bool (if neg then !PyData.eqv (.list xs) y else PyData.eqv (.list xs) y))) st := by
  rw [to_eqG]
  constructor
  · rintro ⟨x, z, ⟨h1, h2⟩, h3, h4⟩
    obtain ⟨xs, h5, rfl⟩ := toTree_ref.mp h1
    cases h2
    exact ⟨xs, h5, h3, h4⟩
  · rintro ⟨xs, h1, h2, h3⟩
    exact ⟨_, _, ⟨toTree_ref.mpr ⟨xs, h1, rfl⟩, rfl⟩, h2, h3⟩
@[simp] theorem to_eqDR {i : Nat} {y : PyData} {neg : Bool} : (opEq neg (.d y) (.ref i) st).To Q ↔ ∃ xs, st.obs[i]? = some (Ob.lst xs) ∧ (SeqAt.shaped y = true ∧ SeqAt.shaped (.list xs) = true) ∧ Q (.d (.bool (if neg then !PyData.eqv y (.list xs) else PyData.eqv y (.list xs)))) st := by
  rw [to_eqG]
  constructor
  · rintro ⟨x, z, ⟨h1, h2⟩, h3, h4⟩
    obtain ⟨xs, h5, rfl⟩ := toTree_ref.mp h2
    cases h1
    exact ⟨xs, h5, h3, h4⟩
  · rintro ⟨xs, h1, h2, h3⟩
    exact ⟨_, _, ⟨rfl, toTree_ref.mpr ⟨xs, h1, rfl⟩⟩, h2, h3⟩
@[simp] theorem to_eqRR {i j : Nat} {neg : Bool} : (opEq neg (.ref i) (.ref j) st).To Q ↔ ∃ xs ys, (st.obs[i]? = some (Ob.lst xs) ∧ st.obs[j]? = some (Ob.lst ys)) ∧ (SeqAt.shaped (.list xs) = true ∧ SeqAt.shaped (.list ys) = true) ∧ Q (.d (.bool (if neg then !PyData.eqv (.list xs) (.list ys) else PyData.eqv (.list xs) (.list ys)))) st := by
  rw [to_eqG]
  constructor
  · rintro ⟨x, z, ⟨h1, h2⟩, h3, h4⟩
    obtain ⟨xs, h5, rfl⟩ := toTree_ref.mp h1
    obtain ⟨ys, h6, rfl⟩ := toTree_ref.mp h2
    exact ⟨xs, ys, ⟨h5, h6⟩, h3, h4⟩
  · rintro ⟨xs, ys, ⟨h1, h1'⟩, h2, h3⟩
    exact ⟨_, _, ⟨toTree_ref.mpr ⟨xs, h1, rfl⟩, toTree_ref.mpr ⟨ys, h1', rfl⟩⟩, h2, h3⟩
theorem addG {a b : U} (ha : ∀ xs, a = .d xs → ∃ ys, xs = .list ys) (hb : (∃ i, a = .ref i) ∨ ∃ j, b = .ref j) : (fAddA a b st).To Q ↔ ∃ xs ys, (listOf st a = some xs ∧ listOf st b = some ys) ∧ xs.length + ys.length ≤ 16777216 ∧ Q (.d (.list (xs ++ ys))) st := by
  have e : fAddA a b st = (match listOf st a, listOf st b with
    | some xs, some ys => if lenOk (xs.length + ys.length) = true then .ok (.d (.list (xs ++ ys))) st else .no
    | _, _ => .no) := by
    unfold fAddA
    split
    · rename_i i j
      obtain ⟨ys, e⟩ := ha _ rfl; cases e
    · obtain ⟨ys, e⟩ := ha _ rfl; cases e
    · obtain ⟨ys, e⟩ := ha _ rfl; cases e
    · rfl
  rw [e]
  cases e1 : listOf st a with
  | none => simp
  | some x =>
    cases e2 : listOf st b with
    | none => simp
    | some y =>
      show (if lenOk (x.length + y.length) = true then Res.ok (U.d (.list (x ++ y))) st else .no).To Q ↔ _
      rw [to_ite]
      simp only [lenOk_small]
      split
      · rename_i h; exact ⟨fun w => ⟨x, y, ⟨rfl, rfl⟩, h, w⟩, fun ⟨_, _, ⟨w1, w2⟩, _, w⟩ => by cases w1; cases w2; exact w⟩
      · rename_i h; exact ⟨fun w => w.elim, fun ⟨_, _, ⟨w1, w2⟩, w3, w⟩ => by cases w1; cases w2; exact (h w3).elim⟩
@[simp] theorem to_addRL {i : Nat} {ys : List PyData} : (fAddA (.ref i) (.d (.list ys)) st).To Q ↔ ∃ xs, st.obs[i]? = some (Ob.lst xs) ∧ xs.length + ys.length ≤ 16777216 ∧ Q (.d (.list (xs ++ ys))) st := by
  rw [addG (fun xs e => by cases e) (.inl ⟨i, rfl⟩)]
  constructor
  · rintro ⟨xs, zs, ⟨h1, h2⟩, h3, h4⟩
    cases h2
    exact ⟨xs, listOf_ref.mp h1, h3, h4⟩
  · rintro ⟨xs, h1, h3, h4⟩
    exact ⟨xs, ys, ⟨listOf_ref.mpr h1, rfl⟩, h3, h4⟩
@[simp] theorem to_addLR {i : Nat} {ys : List PyData} : (fAddA (.d (.list ys)) (.ref i) st).To Q ↔ ∃ xs, st.obs[i]? = some (Ob.lst xs) ∧ ys.length + xs.length ≤ 16777216 ∧ Q (.d (.list (ys ++ xs))) st := by
  rw [addG (fun xs e => by cases e; exact ⟨_, rfl⟩) (.inr ⟨i, rfl⟩)]
  constructor
  · rintro ⟨xs, zs, ⟨h1, h2⟩, h3, h4⟩
    cases h1
    exact ⟨zs, listOf_ref.mp h2, h3, h4⟩
  · rintro ⟨xs, h1, h3, h4⟩
    exact ⟨ys, xs, ⟨rfl, listOf_ref.mpr h1⟩, h3, h4⟩
@[simp] theorem to_addRR {i j : Nat} : (fAddA (.ref i) (.ref j) st).To Q ↔ ∃ xs ys, (st.obs[i]? = some (Ob.lst xs) ∧ st.obs[j]? = some (Ob.lst ys)) ∧ xs.length + ys.length ≤ 16777216 ∧ Q (.d (.list (xs ++ ys))) st := by
  rw [addG (fun xs e => by cases e) (.inl ⟨i, rfl⟩)]
  simp only [listOf_ref]
@[simp] theorem to_slR {i : Nat} {a b : Option Int} : (fSl (.ref i) a b st).To Q ↔ ∃ xs, st.obs[i]? = some (Ob.lst xs) ∧ Q (.d (.list (cutD xs a b))) st := by
  show (match listOf st (.ref i) with
    | some xs => Res.ok (U.d (.list (cutD xs a b))) st
    | none => .no).To Q ↔ _
  cases e : listOf st (.ref i) with
  | none => exact ⟨fun w => w.elim, fun ⟨xs, h, _⟩ => by rw [listOf_ref.mpr h] at e; cases e⟩
  | some xs =>
    have e' := listOf_ref.mp e
    exact ⟨fun w => ⟨xs, e', w⟩, fun ⟨ys, h, w⟩ => by rw [e'] at h; cases h; exact w⟩
theorem refL {α : Type} {i : Nat} {k : List PyData → Res α} {P : α → Sto → Prop} : (match seqOf st (.ref i) with | some xs => k xs | none => Res.no).To P ↔ ∃ xs, st.obs[i]? = some (Ob.lst xs) ∧ (k xs).To P := by
  rw [seqOf_ref]
  cases e : listOf st (.ref i) with
  | none => exact ⟨fun w => w.elim, fun ⟨xs, h, _⟩ => by rw [listOf_ref.mpr h] at e; cases e⟩
  | some xs =>
    have e' := listOf_ref.mp e
    exact ⟨fun w => ⟨xs, e', w⟩, fun ⟨ys, h, w⟩ => by rw [e'] at h; cases h; exact w⟩
@[simp] theorem to_lenR {i : Nat} : (cLen [.ref i] st).To Q ↔ ∃ xs, st.obs[i]? = some (Ob.lst xs) ∧ Q (.d (.int xs.length)) st := refL (k := fun xs => Res.ok (U.d (.int xs.length)) st)
@[simp] theorem to_listOfR {i : Nat} {P : List PyData → Sto → Prop} : (cListOf [.ref i] st).To P ↔ ∃ xs, st.obs[i]? = some (Ob.lst xs) ∧ P xs st := refL (k := fun xs => Res.ok xs st)
@[simp] theorem to_listOfL {xs : List PyData} {P : List PyData → Sto → Prop} : (cListOf [.d (.list xs)] st).To P ↔ P xs st := Iff.rfl
@[simp] theorem to_listOfT {xs : List PyData} {P : List PyData → Sto → Prop} : (cListOf [.d (.tuple xs)] st).To P ↔ P xs st := Iff.rfl
@[simp] theorem to_tupR {i : Nat} : (cTupOf [.ref i] st).To Q ↔ ∃ xs, st.obs[i]? = some (Ob.lst xs) ∧ Q (.d (.tuple xs)) st := by
  show (match listOf st (.ref i) with
    | some xs => Res.ok (U.d (.tuple xs)) st
    | none => .no).To Q ↔ _
  rw [← seqOf_ref]
  exact refL (k := fun xs => Res.ok (U.d (.tuple xs)) st)
theorem to_gSubG {o i : ME} {y : PyData} {P : Loc → Sto → Prop} (hy : ∀ x, y ≠ .int x) : (gSubM o i (.d y) l st).To P ↔ (o l st).To fun ou s => (i l s).To fun iu s => (match ou, iu with
  | .ref k, .d (.int j) => ∃ xs n, s.obs[k]? = some (.lst xs) ∧ idxN xs.length j = some n ∧ P l (s.put k (xs.set n y))
  | _, _ => False) := by
  unfold gSubM
  rw [to_bind]
  refine iff_of_eq (congrArg _ (funext fun ou => funext fun s => propext ?_))
  rw [to_bind]
  refine iff_of_eq (congrArg _ (funext fun iu => funext fun s => propext ?_))
  cases ou with
  | ref k =>
    cases iu with
    | d z =>
      cases z with
      | int j =>
        show (match s.obs[k]? with
          | some (.lst xs) => (match idxN xs.length j with
            | some n => Res.ok l (s.put k (xs.set n y))
            | none => .no)
          | _ => .no).To P ↔ _
        split
        · rename_i xs e
          split
          · rename_i n en; simp [e, en]
          · rename_i en; simp [e, en]
        · rename_i h
          constructor
          · exact fun z => z.elim
          · rintro ⟨xs, n, e, _⟩; exact (h xs e).elim
      | _ => exact Iff.rfl
    | _ => exact Iff.rfl
  | flow =>
    cases iu with
    | d z =>
      cases z with
      | int j =>
        cases y with
        | int x => exact absurd rfl (hy x)
        | _ => exact Iff.rfl
      | _ => exact Iff.rfl
    | _ => exact Iff.rfl
  | _ => exact Iff.rfl
@[simp] theorem to_gSubT {o i : ME} {ys : List PyData} {P : Loc → Sto → Prop} : (gSubM o i (.d (.tuple ys)) l st).To P ↔ (o l st).To fun ou s => (i l s).To fun iu s => (match ou, iu with
  | .ref k, .d (.int j) => ∃ xs n, s.obs[k]? = some (.lst xs) ∧ idxN xs.length j = some n ∧ P l (s.put k (xs.set n (.tuple ys)))
  | _, _ => False) := to_gSubG (fun x h => by cases h)
@[simp] theorem to_gSubL {o i : ME} {ys : List PyData} {P : Loc → Sto → Prop} : (gSubM o i (.d (.list ys)) l st).To P ↔ (o l st).To fun ou s => (i l s).To fun iu s => (match ou, iu with
  | .ref k, .d (.int j) => ∃ xs n, s.obs[k]? = some (.lst xs) ∧ idxN xs.length j = some n ∧ P l (s.put k (xs.set n (.list ys)))
  | _, _ => False) := to_gSubG (fun x h => by cases h)
@[simp] theorem to_maxL {ns : List Int} : (cMaxL [.d (.list (ns.map .int))] st).To Q ↔ ∃ m, maxI ns = some m ∧ Q (.d (.int m)) st := by
  unfold cMaxL cInts
  show (match intsOf (ns.map PyData.int) with | some ns => (match (maxI ns).map PyData.int with | some x => Res.ok (U.d x) st | none => .no) | none => .no).To Q ↔ _
  rw [intsOf_map]
  show (match (maxI ns).map PyData.int with | some x => Res.ok (U.d x) st | none => .no).To Q ↔ _
  cases maxI ns <;> simp
@[simp] theorem to_minL {ns : List Int} : (cMinL [.d (.list (ns.map .int))] st).To Q ↔ ∃ m, minI ns = some m ∧ Q (.d (.int m)) st := by
  unfold cMinL cInts
  show (match intsOf (ns.map PyData.int) with | some ns => (match (minI ns).map PyData.int with | some x => Res.ok (U.d x) st | none => .no) | none => .no).To Q ↔ _
  rw [intsOf_map]
  show (match (minI ns).map PyData.int with | some x => Res.ok (U.d x) st | none => .no).To Q ↔ _
  cases minI ns <;> simp
@[simp] theorem to_sumL {ns : List Int} : (cSum [.d (.list (ns.map .int))] st).To Q ↔ Q (.d (.int ns.sum)) st := by
  unfold cSum cInts
  show (match intsOf (ns.map PyData.int) with | some ns => Res.ok (U.d (.int ns.sum)) st | none => .no).To Q ↔ _
  rw [intsOf_map]
  exact Iff.rfl
end
theorem lc_mapA {α : Type} {f g : α → PyData} {d : ItD} {vs : List Nat} {t : MT} {c : MB} {m : ME} {l : Loc} {st : Sto} {P : List PyData → Sto → Prop} {as : List α} (hk : d.chk st)
    (h : ∀ a, a ∈ as → (t (.d (f a)) (wipeL l vs) st).To fun l1 s => (c l1 s).To fun b s => b = true ∧ (m l1 s).To fun u s => u = .d (g a) ∧ s = st) (fin : P (as.map g) st) : (lcM d vs t c m l (as.map f) st).To P := by
  refine (lc_to (I := fun ys acc s => s = st ∧ ∃ zs ws, as = zs ++ ws ∧ ys = ws.map f ∧ acc = zs.map g) (P := fun ys s => ys = as.map g ∧ s = st) (fun _ _ _ z => z.1 ▸ hk) ?_ ?_ (as.map f) [] st ⟨rfl, [], as, rfl, rfl, rfl⟩).mono ?_
  · rintro x ys acc s ⟨rfl, zs, ws, e1, e2, rfl⟩
    cases ws with
    | nil => cases e2
    | cons a ws =>
      cases e2
      refine (h a (by rw [e1]; simp)).mono ?_
      rintro l1 s1 h1
      refine h1.mono ?_
      rintro b s2 ⟨rfl, h2⟩
      rw [if_pos rfl]
      refine h2.mono ?_
      rintro u s3 ⟨rfl, rfl⟩
      exact ⟨_, rfl, rfl, zs ++ [a], ws, by rw [e1]; simp, rfl, by simp⟩
  · rintro acc s ⟨rfl, zs, ws, e1, e2, rfl⟩
    have : ws = [] := by cases ws with | nil => rfl | cons c bs => cases e2
    subst this
    simp [e1]
  · rintro ys s ⟨rfl, rfl⟩
    exact fin
end NW
namespace NW
open PySem PySem.Spec PyProof.Rows L2
section
variable {prog : Program} {w : World} {A : Around} {E : Value → Shared → Prop} {s : Shared}
end
def enumD (xs : List PyData) : List PyData := xs.zipIdx.map fun p => .tuple [.int (p.2 : Nat), p.1]
@[simp] theorem enumD_len {xs : List PyData} : (enumD xs).length = xs.length := by simp [enumD]
section
variable {G : Gx} {β : List Addr} {st : Sto} {H : Hp}
def mEnum (a : MA) : MI := fun l st => (a l st).bind fun us st => match us with
  | [u] => (match srcOf st u with
    | some (xs, own) => .ok ⟨enumD xs, own⟩ st
    | none => .no)
  | _ => .no
end
section
variable {l : Loc} {st : Sto}
@[simp] theorem to_mEnum {a : MA} {Q : ItD → Sto → Prop} : (mEnum a l st).To Q ↔ (a l st).To fun us s => ∃ u xs own, us = [u] ∧ srcOf s u = some (xs, own) ∧ Q ⟨enumD xs, own⟩ s := by
  unfold mEnum
  rw [to_bind]
  cases a l st with
  | ok us s =>
    simp only [to_ok]
    split
    · rename_i u
      cases e : srcOf s u with
      | none =>
        refine ⟨fun z => z.elim, ?_⟩
        rintro ⟨u', xs, own, e1, e2, _⟩
        cases e1; rw [e] at e2; cases e2
      | some p =>
        refine ⟨fun z => ⟨u, p.1, p.2, rfl, e, z⟩, ?_⟩
        rintro ⟨u', xs, own, e1, e2, z⟩
        cases e1; rw [e] at e2; cases e2; exact z
    · rename_i h
      refine ⟨fun z => z.elim, ?_⟩
      rintro ⟨u, xs, own, e1, _⟩
      exact (h u e1).elim
  | _ => exact Iff.rfl
end
end NW
namespace NW
open PySem PySem.Spec PyProof.Rows L2
section
variable {l : Loc} {st : Sto} {Q : U → Sto → Prop}
theorem fCallP_G {k : Nat} {m : List PyData → Rp} {us : List U} {ds : List PyData} (h : ctrees st us = some ds) (hk : ds.length = k) : (fCallP k m us st).To Q ↔ (m ds).To fun d => (us.any isRef = true → noLst d = true) ∧ Q (.d d) st := by
  unfold fCallP
  rw [h]
  simp only [hk, if_true]
  cases m ds with
  | ok d fr =>
    show (if (!us.any isRef || noLst d) = true then Res.ok (U.d d) st else .no).To Q ↔ _
    rw [to_ite]
    show _ ↔ ((us.any isRef = true → noLst d = true) ∧ Q (U.d d) st)
    cases us.any isRef <;> cases noLst d <;> simp
  | _ => exact Iff.rfl
theorem ctrees_none {us : List U} (h : ctrees st us = none) {k : Nat} {m : List PyData → Rp} : ¬ (fCallP k m us st).To Q := by
  unfold fCallP; rw [h]; exact id
theorem toTree_refN {i : Nat} (h : ∀ xs, st.obs[i]? ≠ some (Ob.lst xs)) : toTree st (.ref i) = none := by
  cases e : toTree st (.ref i) with
  | none => rfl
  | some x => obtain ⟨xs, h1, _⟩ := toTree_ref.mp e; exact absurd h1 (h xs)
@[simp] theorem callP_R {i : Nat} {m : List PyData → Rp} : (fCallP 1 m [.ref i] st).To Q ↔ ∃ xs, st.obs[i]? = some (Ob.lst xs) ∧ (m [.list xs]).To fun d => noLst d = true ∧ Q (.d d) st := by
  by_cases hx : ∃ xs, st.obs[i]? = some (Ob.lst xs)
  · obtain ⟨xs, hx⟩ := hx
    have e : ctrees st [.ref i] = some [.list xs] := by rw [ctrees, toTree_ref.mpr ⟨xs, hx, rfl⟩]; rfl
    refine (fCallP_G e rfl).trans ?_
    simp [hx, isRef]
  · have hx' : ∀ xs, st.obs[i]? ≠ some (Ob.lst xs) := fun xs h => hx ⟨xs, h⟩
    have e : ctrees st [.ref i] = none := by rw [ctrees, toTree_refN hx']
    exact ⟨fun h => (ctrees_none e h).elim, fun ⟨xs, h, _⟩ => (hx' xs h).elim⟩
@[simp] theorem callP_RD {i : Nat} {y : PyData} {m : List PyData → Rp} : (fCallP 2 m [.ref i, .d y] st).To Q ↔ ∃ xs, st.obs[i]? = some (Ob.lst xs) ∧ (m [.list xs, y]).To fun d => noLst d = true ∧ Q (.d d) st := by
  by_cases hx : ∃ xs, st.obs[i]? = some (Ob.lst xs)
  · obtain ⟨xs, hx⟩ := hx
    have e : ctrees st [.ref i, .d y] = some [.list xs, y] := by rw [ctrees, toTree_ref.mpr ⟨xs, hx, rfl⟩]; rfl
    refine (fCallP_G e rfl).trans ?_
    simp [hx, isRef]
  · have hx' : ∀ xs, st.obs[i]? ≠ some (Ob.lst xs) := fun xs h => hx ⟨xs, h⟩
    have e : ctrees st [.ref i, .d y] = none := by rw [ctrees, toTree_refN hx']
    exact ⟨fun h => (ctrees_none e h).elim, fun ⟨xs, h, _⟩ => (hx' xs h).elim⟩
@[simp] theorem callP_DR {i : Nat} {y : PyData} {m : List PyData → Rp} : (fCallP 2 m [.d y, .ref i] st).To Q ↔ ∃ xs, st.obs[i]? = some (Ob.lst xs) ∧ (m [y, .list xs]).To fun d => noLst d = true ∧ Q (.d d) st := by
  by_cases hx : ∃ xs, st.obs[i]? = some (Ob.lst xs)
  · obtain ⟨xs, hx⟩ := hx
    have e : ctrees st [.d y, .ref i] = some [y, .list xs] := by rw [ctrees, ctrees, toTree_ref.mpr ⟨xs, hx, rfl⟩]; rfl
    refine (fCallP_G e rfl).trans ?_
    simp [hx, isRef]
  · have hx' : ∀ xs, st.obs[i]? ≠ some (Ob.lst xs) := fun xs h => hx ⟨xs, h⟩
    have e : ctrees st [.d y, .ref i] = none := by rw [ctrees, ctrees, toTree_refN hx']; rfl
    exact ⟨fun h => (ctrees_none e h).elim, fun ⟨xs, h, _⟩ => (hx' xs h).elim⟩
@[simp] theorem to_max2 {i j : Int} : (cMax2 [.d (.int i), .d (.int j)] st).To Q ↔ Q (.d (.int (if j > i then j else i))) st := Iff.rfl
@[simp] theorem to_min2 {i j : Int} : (cMin2 [.d (.int i), .d (.int j)] st).To Q ↔ Q (.d (.int (if j < i then j else i))) st := Iff.rfl
end
end NW
namespace NW
open PySem PySem.Spec PyProof.Rows L2
def gSeqM (n : Nat) (r : MTs) : MT := fun u l st => match seqOf st u with
  | some xs => if xs.length = n then r xs l st else .no
  | none => .no
section
variable {l : Loc} {st : Sto}
@[simp] theorem to_gSeqT {n : Nat} {r : MTs} {xs : List PyData} {P : Loc → Sto → Prop} : (gSeqM n r (.d (.tuple xs)) l st).To P ↔ xs.length = n ∧ (r xs l st).To P := by
  show (if xs.length = n then r xs l st else .no).To P ↔ _
  rw [to_ite]; split <;> simp [*]
@[simp] theorem to_gSeqL {n : Nat} {r : MTs} {xs : List PyData} {P : Loc → Sto → Prop} : (gSeqM n r (.d (.list xs)) l st).To P ↔ xs.length = n ∧ (r xs l st).To P := by
  show (if xs.length = n then r xs l st else .no).To P ↔ _
  rw [to_ite]; split <;> simp [*]
end
end NW
namespace NW
open PySem PySem.Spec PyProof.Rows L2
section
variable {G : Gx} {β : List Addr} {st : Sto} {H H' : Hp}
end
def fCallO (k : Nat) (m : List PyData → Rp) (us : List U) (st : Sto) : Res U := match ctrees st us with
  | some ds => if ds.length = k then (match m ds with
    | .ok (.list ys) true => if noLsts ys = true then .ok (.ref st.obs.length) (st.add ys) else .no
    | _ => .no) else .no
  | none => .no
def eCallO (k : Nat) (m : List PyData → Rp) (a : MA) : ME := fun l st => (a l st).bind (fCallO k m)
section
variable {G : Gx}
end
section
variable {X : Cx} {e : Expr} {es : List Expr} {pos p : Pos} {tA : TA} {mA : MA}
end
def Rp.ToF (r : Rp) (P : List PyData → Prop) : Prop := match r with
  | .ok (.list ys) true => P ys
  | _ => False
theorem Rp.ToF.to {r : Rp} {P : List PyData → Prop} {Q : PyData → Prop} (h : r.ToF P) (k : ∀ ys, P ys → Q (.list ys)) : r.To Q := by
  unfold Rp.ToF at h
  split at h
  · exact k _ h
  · exact h.elim
theorem Rp.ToF.mono {r : Rp} {P P' : List PyData → Prop} (h : r.ToF P) (k : ∀ ys, P ys → P' ys) : r.ToF P' := by
  unfold Rp.ToF at h ⊢
  split at h
  · exact k _ h
  · exact h.elim
def retO (P : List PyData → Prop) (u : U) (s : Sto) : Prop := match u with
  | .ref i => ∃ xs, s.obs[i]? = some (Ob.lst xs) ∧ P xs
  | _ => False
@[simp] theorem retO_ref {P : List PyData → Prop} {s : Sto} {i : Nat} : retO P (.ref i) s ↔ ∃ xs, s.obs[i]? = some (Ob.lst xs) ∧ P xs := Iff.rfl
section
variable {l : Loc} {st : Sto} {Q : U → Sto → Prop}
@[simp] theorem to_eCallO {k : Nat} {m : List PyData → Rp} {a : MA} : (eCallO k m a l st).To Q ↔ (a l st).To fun us s => (fCallO k m us s).To Q := by unfold eCallO; simp
end
def eTupRev (m : ME) : ME := fun l st => (m l st).bind fun u st => match listOf st u with
  | some xs => .ok (.d (.tuple xs.reverse)) st
  | none => .no
section
variable {l : Loc} {st : Sto} {Q : U → Sto → Prop}
@[simp] theorem to_eTupRev {m : ME} : (eTupRev m l st).To Q ↔ (m l st).To fun u s => ∃ xs, listOf s u = some xs ∧ Q (.d (.tuple xs.reverse)) s := by
  unfold eTupRev
  rw [to_bind]
  refine iff_of_eq (congrArg _ (funext fun u => funext fun s => propext ?_))
  cases listOf s u <;> simp
@[simp] theorem listOf_l {xs ys : List PyData} : listOf st (.d (.list xs)) = some ys ↔ xs = ys := by
  show some xs = some ys ↔ _
  simp
end
end NW
namespace NW
open PySem PySem.Spec PyProof.Rows L2
abbrev More (K K' : PySem.W.Frag) : Prop := ∀ (b : Addr) (o : Obj), K.lookup b = some o → K'.lookup b = some o
theorem lookup_app : ∀ {K L : List (Addr × Obj)} {b : Addr}, (K ++ L).lookup b = match K.lookup b with | some o => some o | none => L.lookup b
  | [], _, _ => rfl
  | (c, o) :: K, L, b => by
    rw [List.cons_append, List.lookup_cons, List.lookup_cons]
    cases b == c with
    | true => rfl
    | false => exact lookup_app
theorem more_app {K L : PySem.W.Frag} : More K (K ++ L) := fun b o e => by
  show List.lookup b (K ++ L) = some o
  rw [lookup_app, e]
theorem mem_lookup : ∀ {L : List (Addr × Obj)} {b : Addr} {o : Obj}, L.lookup b = some o → (b, o) ∈ L
  | [], _, _, e => by cases e
  | (c, u) :: L, b, o, e => by
    rw [List.lookup_cons] at e
    cases q : b == c with
    | true =>
      rw [q] at e
      have : b = c := by simpa using q
      cases e; subst this; simp
    | false =>
      rw [q] at e
      exact List.mem_cons_of_mem _ (mem_lookup e)
theorem lookup_mem : ∀ {L : List (Addr × Obj)} {b : Addr} {o : Obj}, (b, o) ∈ L → ∃ u, L.lookup b = some u
  | [], _, _, e => by cases e
  | (c, u) :: L, b, o, e => by
    rw [List.lookup_cons]
    cases q : b == c with
    | true => exact ⟨u, rfl⟩
    | false =>
      rcases List.mem_cons.mp e with e | e
      · cases e; simp at q
      · exact lookup_mem e
theorem in_app {K L : PySem.W.Frag} {h : Heap} (kx : K.In h) (lx : ∀ p ∈ L, h.get? p.1 = some p.2) : PySem.W.Frag.In (K ++ L) h := fun b o e => by
  have e' : List.lookup b (K ++ L) = some o := e
  rw [lookup_app] at e'
  cases q : List.lookup b K with
  | some u => rw [q] at e'; cases e'; exact kx b _ q
  | none => rw [q] at e'; exact lx _ (mem_lookup e')
theorem app_in {K L : PySem.W.Frag} {h base : Heap} (kx : K.In h) (lx : ∀ p ∈ L, h.get? p.1 = some p.2) (kb : PySem.W.Frag.In (K ++ L) base) {b : Addr} {o : Obj} (m : (b, o) ∈ L) : base.get? b = some o := by
  have key : List.lookup b (K ++ L) = some o := by
    rw [lookup_app]
    have h0 := lx _ m
    cases q : List.lookup b K with
    | some u =>
      have := kx b u q
      rw [h0] at this; cases this; rfl
    | none =>
      obtain ⟨u, hu⟩ := lookup_mem m
      have := lx _ (mem_lookup hu)
      rw [h0] at this; cases this
      exact hu
  exact kb b o key
theorem More.ns {K K' : PySem.W.Frag} (m : More K K') {g : Addr} {x : Str} {r : Option Value} (e : PySem.W.nsIn K g x = some r) : PySem.W.nsIn K' g x = some r := by
  unfold PySem.W.nsIn at e ⊢
  cases q : List.lookup g K with
  | none => rw [q] at e; cases e
  | some o => rw [m g o q]; rw [q] at e; exact e
theorem More.code {K K' : PySem.W.Frag} (m : More K K') {c : Value} {x : Str} (e : PySem.W.codeIn K c x = true) : PySem.W.codeIn K' c x = true := by
  unfold PySem.W.codeIn at e ⊢
  cases c with
  | ref b =>
    cases q : List.lookup b K with
    | none => simp [q] at e
    | some o => simp only [q] at e; simp only [m b o q]; exact e
  | _ => exact e
theorem keep_fn {K : PySem.W.Frag} {f : Addr} {oc : Value} {od : Option Addr} {fd : FuncData} {sl : Array (Option Value)} (e : K.lookup f = some ⟨oc, od, .func fd, sl⟩) : PySem.W.keepIn K (.ref f) = true := by
  unfold PySem.W.keepIn
  simp only [e]
theorem walk2 {l : PySem.W.OpenLaw} {n k : Nat} {q : Program} {loose : List Str} {XP : (Str → Option Value) → Heap → Prop} {YP : World → Heap → Prop} {d : DefRec} {K : Params → PySem.W.Frag} {sp : PySem.W.Frag → Sp} {x : Str}
    (h1 : l.most = some n) (h2 : n ≤ sizeLine) (h3 : d.params.defaults = []) (h4 : Room k callerA) (h5 : importsNone q = true) (h6 : ∀ (w : World) (h : Heap), YP w h → (K w.params).In h)
    (F : ∀ (w : World) (mg : Str → Option Value) (fa : Addr) (h : Heap) (K' : PySem.W.Frag), More (K w.params) K' → K'.In h → h.Ns mainGlobals mg → mg d.name = some (.ref fa) →
      ∃ fd : FuncData, (∀ (s : Shared) (v : Value), BindsTo s fd ⟨[v], []⟩ [(x, v)]) ∧ ∀ base : Heap, K'.In base → base.Ns mainGlobals mg → base.NoSeer → FnOk l.prog w K' mg base CX0 k fa fd [x] (sp K'))
    (h7 : ∀ (K : PySem.W.Frag) (H : Hp) (a : Addr) (ns : List Int), ns.length ≤ n → Only H → SqL K H a (ns.map V.int) → sp K [.ref a] H (fun v _ => v = .bl true) fun _ _ _ => False) :
    PySem.W.WalkO q loose XP YP l.row.toRowW d [] (fun f vs => PySem.call f vs) := by
  refine Att.attach_call h1 h3 fun w sA sB mg mb fa o pm cd doc a vs ns gr yy _ _ _ hmg hobj hints hlen hgen => ?_
  have kx := h6 w _ yy
  have seer := gr.T.seer h5
  obtain ⟨mc, ⟨oc, ec, pc, c1, c1', c1''⟩, c2⟩ := seer.statics
  obtain ⟨mm, ⟨om, em, pm', m1, m1', m1''⟩, m2⟩ := seer.mods
  obtain ⟨mi, ⟨oi, ei, pi, i1, i1', i1''⟩, i2⟩ := seer.imp
  obtain ⟨ma, bm, ob, ⟨oa, ea, pa, a1, a1', a1''⟩, a2, a3, a4, a5⟩ := seer.main
  have lx : ∀ p ∈ [(cStatics, oc), (sysModules, om), (builtinsNs, oi), (mainGlobals, oa), (bm, ob)], sB.heap.get? p.1 = some p.2 := by
    intro p hp
    simp only [List.mem_cons, List.not_mem_nil, or_false] at hp
    rcases hp with rfl | rfl | rfl | rfl | rfl <;> assumption
  obtain ⟨fd, hb, hF⟩ := F w mg fa _ (K w.params ++ [(cStatics, oc), (sysModules, om), (builtinsNs, oi), (mainGlobals, oa), (bm, ob)]) more_app (in_app kx lx) gr.T.g hmg
  refine law_call (in_app kx lx) gr.T.g gr.T.b gr.T.builtins gr.T.nolimit hgen hobj hints (Nat.le_trans hlen h2) h4 (fun base kb nb => hF base kb nb ?_) hb (fun H hO hS => h7 _ H a ns hlen hO hS) (fun _ _ _ z => z)
  refine ⟨⟨mc, ⟨oc, ec, pc, app_in kx lx kb (by simp), c1', c1''⟩, c2⟩, ⟨mm, ⟨om, em, pm', app_in kx lx kb (by simp), m1', m1''⟩, m2⟩, ⟨mi, ⟨oi, ei, pi, app_in kx lx kb (by simp), i1', i1''⟩, i2⟩, ⟨ma, bm, ob, ⟨oa, ea, pa, app_in kx lx kb (by simp), a1', a1''⟩, a2, app_in kx lx kb (by simp), a4, a5⟩⟩
theorem seX {P : Program} {base : Heap} {A : Around} {fr : List Env} {j : Nat} (h : base.NoSeer ∧ P.given.tree = none) (hr : Room j A) (hj : 32 ≤ j) (hf : ∃ (e1 : Env) (rest : List Env), fr = e1 :: rest ∧ e1.scope.isGenerator = false ∧ e1.scope.isCoroutine = false ∧ e1.builtins = builtinsNs ∧ e1.globals = mainGlobals) : SeX P base A fr :=
  ⟨h.1, h.2, by have := hr.dp; show A.depth + 100 < _; omega, hf⟩
end NW
namespace NW
open PySem PySem.Spec PyProof.Rows L2
section
variable {prog : Program} {w : World} {A : Around} {E : Value → Shared → Prop} {s : Shared} {l : Addr} {its : List Value} {ns : List Int} {Q : Value → Shared → Prop}
end
def cSumA : List U → Sto → Res U := fun us st => match us with
  | [u] => (match (seqOf st u).bind intsOf with
    | some ns => .ok (.d (.int ns.sum)) st
    | none => .no)
  | _ => .no
section
variable {X : Cx} {e : Expr} {pos p : Pos} {tA : TA} {mA : MA}
end
section
variable {st : Sto} {Q : U → Sto → Prop}
@[simp] theorem to_sumAL {ns : List Int} : (cSumA [.d (.list (ns.map .int))] st).To Q ↔ Q (.d (.int ns.sum)) st := by
  show (match intsOf (ns.map PyData.int) with | some ns => Res.ok (U.d (.int ns.sum)) st | none => .no).To Q ↔ _
  rw [intsOf_map]
  exact Iff.rfl
@[simp] theorem to_sumAT {ns : List Int} : (cSumA [.d (.tuple (ns.map .int))] st).To Q ↔ Q (.d (.int ns.sum)) st := by
  show (match intsOf (ns.map PyData.int) with | some ns => Res.ok (U.d (.int ns.sum)) st | none => .no).To Q ↔ _
  rw [intsOf_map]
  exact Iff.rfl
@[simp] theorem flatD_int {i : Int} : flatD (.int i) = true := rfl
end
end NW
namespace NW
open PySem PySem.Spec PyProof.Rows L2 _root_.RT
section
variable {prog : Program} {w : World} {A : Around} {E : Value → Shared → Prop} {s : Shared}
end
def lRev (m : ME) : ML := fun l st => (m l st).bind fun u st => match listOf st u with
  | some xs => .ok xs.reverse st
  | none => .no
section
variable {l : Loc} {st : Sto} {P : List PyData → Sto → Prop}
@[simp] theorem to_lRev {m : ME} : (lRev m l st).To P ↔ (m l st).To fun u s => ∃ xs, listOf s u = some xs ∧ P xs.reverse s := by
  unfold lRev
  rw [to_bind]
  refine iff_of_eq (congrArg _ (funext fun u => funext fun s => propext ?_))
  cases listOf s u <;> simp
end
end NW
namespace NW
open PySem PySem.Spec PyProof.Rows L2
section
variable {G : Gx}
open PySem.W (dataLe AllAlike Sortable EachIs)
def sortOk (ds : List PyData) : Bool := (ds.all fun d => ds.all fun e => PySem.W.alike d e) && ((ds.all fun d => match d with | .tuple (_ :: _) => true | _ => false) || (ds.all fun d => match d with | .none => false | .tuple _ => false | _ => true)) && ds.all fun d => decide (d.depth ≤ 60)
noncomputable def cSortD : List U → Sto → Res (List PyData) := fun us st => match us with
  | [u] => (match listOf st u with
    | some xs => if sortOk xs = true then .ok (xs.mergeSort (dataLe false id)) st else .no
    | none => .no)
  | _ => .no
end
section
variable {X : Cx} {e o : Expr} {pos p : Pos} {tA : TA} {mA : MA} {to : TE} {mo : ME}
end
def ME.nx (m : ME) : Prop := ∀ l st, (m l st).noEx
section
variable {st : Sto} {Q : U → Sto → Prop}
@[simp] theorem to_cSortD {u : U} {P : List PyData → Sto → Prop} : (cSortD [u] st).To P ↔ ∃ xs, listOf st u = some xs ∧ sortOk xs = true ∧ P (xs.mergeSort (PySem.W.dataLe false id)) st := by
  show (match listOf st u with | some xs => if sortOk xs = true then Res.ok (xs.mergeSort (PySem.W.dataLe false id)) st else .no | none => .no).To P ↔ _
  cases e : listOf st u with
  | none => simp
  | some xs => by_cases h : sortOk xs = true <;> simp [h]
end
end NW
namespace NW
open PySem PySem.Spec PyProof.Rows L2
section
variable {X : Cx} {a b : Expr} {ta tb : TE} {ma mb : ME} {pos : Pos}
end
section
variable {st : Sto} {Q : U → Sto → Prop}
end
end NW
namespace NW
open PySem PySem.Spec PyProof.Rows L2
def fIsB (neg : Bool) : U → U → Sto → Res U := fun a b st => match a, b with
  | .d (.bool x), .d (.bool y) => .ok (.d (.bool (if neg then !decide (x = y) else decide (x = y)))) st
  | _, _ => .no
section
variable {X : Cx} {a b : Expr} {ta tb : TE} {ma mb : ME} {pos : Pos}
end
@[simp] theorem to_isB {st : Sto} {Q : U → Sto → Prop} {x y neg : Bool} : (fIsB neg (.d (.bool x)) (.d (.bool y)) st).To Q ↔ Q (.d (.bool (if neg then !decide (x = y) else decide (x = y)))) st := Iff.rfl
end NW
namespace NW
open PySem PySem.Spec PyProof.Rows L2
def keyD : PyData → Option Key
  | .int k => some (.inl k)
  | .str k => some (.inr k)
  | _ => none
def lookI (es : List (Key × PyData)) (k : Key) : Option PyData := (es.find? fun e => decide (e.1 = k)).map (·.2)
def kD : Key → PyData
  | .inl k => .int k
  | .inr k => .str k
@[simp] theorem keyD_int {k : Int} : keyD (.int k) = some (.inl k) := rfl
@[simp] theorem keyD_str {k : Str} : keyD (.str k) = some (.inr k) := rfl
@[simp] theorem kD_int {k : Int} : kD (.inl k) = .int k := rfl
@[simp] theorem kD_str {k : Str} : kD (.inr k) = .str k := rfl
def fDGet : U → U → Sto → Res U := fun a b st => match a, b with
  | .dct es, .d z => (match (keyD z).bind (lookI es) with
    | some d => .ok (.d d) st
    | none => .no)
  | _, _ => .no
section
variable {X : Cx} {a b e : Expr} {ta tb : TE} {ma mb : ME} {pos p : Pos} {tA : TA} {mA : MA}
end
section
variable {st : Sto} {Q : U → Sto → Prop}
theorem to_dgetK {es : List (Key × PyData)} {z : PyData} {k : Key} (e : keyD z = some k) : (fDGet (.dct es) (.d z) st).To Q ↔ ∃ d, lookI es k = some d ∧ Q (.d d) st := by
  show (match (keyD z).bind (lookI es) with
    | some d => Res.ok (U.d d) st
    | none => .no).To Q ↔ _
  rw [e, Option.bind_some]
  cases lookI es k <;> simp
@[simp] theorem to_dget {es : List (Key × PyData)} {k : Int} : (fDGet (.dct es) (.d (.int k)) st).To Q ↔ ∃ d, lookI es (.inl k) = some d ∧ Q (.d d) st := to_dgetK rfl
@[simp] theorem to_dgetS {es : List (Key × PyData)} {k : Str} : (fDGet (.dct es) (.d (.str k)) st).To Q ↔ ∃ d, lookI es (.inr k) = some d ∧ Q (.d d) st := to_dgetK rfl
end
end NW
namespace NW
open PySem PySem.Spec PyProof.Rows L2
def SqK (K : PySem.W.Frag) (b : Bool) (H : Hp) (a : Addr) (xs : List V) : Prop := match b with | true => SqL K H a xs | false => SqT K H a xs
def ItK (b : Bool) (h : Heap) (it l : Addr) (i : Nat) : Prop := match b with | true => h.IsListIter it l i | false => h.IsTupleIter it l i
def itObj (b : Bool) (l : Addr) : Obj := match b with | true => { cls := .type "list_iterator", data := .fields #[.ref l, .int 0 0] } | false => { cls := .type "tuple_iterator", data := .fields #[.ref l, .int 0 0] }
theorem ItK.at {b : Bool} {h h' : Heap} {it l : Addr} {i : Nat} (x : ItK b h it l i) (k : ∀ o, h.get? it = some o → h'.get? it = some o) : ItK b h' it l i := by
  cases b
  · exact Heap.IsTupleIter.at (show h.IsTupleIter it l i from x) k
  · exact Heap.IsListIter.at (show h.IsListIter it l i from x) k
theorem ItK.first {b : Bool} {h : Heap} {it l : Addr} (e : h.get? it = some (itObj b l)) : ItK b h it l 0 := by
  cases b
  · exact ⟨_, e, rfl, rfl⟩
  · exact ⟨_, e, rfl, rfl⟩
def zipD (xs ys : List PyData) : List PyData := (xs.zip ys).map fun p => .tuple [p.1, p.2]
@[simp] theorem zipD_len {xs ys : List PyData} : (zipD xs ys).length = min xs.length ys.length := by simp [zipD]
section
variable {G : Gx} {β : List Addr} {st : Sto} {H : Hp}
def SrcK (G : Gx) (β : List Addr) (st : Sto) (H : Hp) (b : Bool) (p : Addr) (own : List (Nat × List PyData)) (xs : List PyData) : Prop := match b with
  | true => SrcL G β st H p own xs
  | false => own = [] ∧ SrcT G β st H p xs
theorem SrcK.go {b : Bool} {p : Addr} {own : List (Nat × List PyData)} {xs : List PyData} (s : SrcK G β st H b p own xs) {O1 : Addr → Prop} (hO : ∀ p, O1 p → G.O0 p ∨ H p = none) {β1 : List Addr} {H1 : Hp} {st1 : Sto} (f : Fut G β st H β1 st1 H1) (rl : Rl (G.o O1) β1 H1 st1)
    (hk : ∀ q ∈ own, st1.obs[q.1]? = some (Ob.lst q.2)) : ∃ vs, SqK G.K b H1 p vs ∧ RTs G.K (Ban (G.o O1) β1 st1) H1 vs xs := by
  cases b
  · exact s.2 O1 hO β1 H1 st1 f rl
  · exact (show SrcL G β st H p own xs from s) O1 hO β1 H1 st1 f rl hk
def mZip (a : MA) : MI := fun l st => (a l st).bind fun us st => match us with
  | [u, v] => (match srcOf st u, srcOf st v with
    | some (xs, own), some (ys, own2) => .ok ⟨zipD xs ys, own ++ own2⟩ st
    | _, _ => .no)
  | _ => .no
end
section
variable {l : Loc} {st : Sto}
@[simp] theorem to_mZip {a : MA} {Q : ItD → Sto → Prop} : (mZip a l st).To Q ↔ (a l st).To fun us s => ∃ u v xs own ys own2, us = [u, v] ∧ srcOf s u = some (xs, own) ∧ srcOf s v = some (ys, own2) ∧ Q ⟨zipD xs ys, own ++ own2⟩ s := by
  unfold mZip
  rw [to_bind]
  cases a l st with
  | ok us s =>
    simp only [to_ok]
    constructor
    · intro h
      split at h
      · rename_i u v
        split at h
        · rename_i xs own ys own2 e e2
          exact ⟨u, v, xs, own, ys, own2, rfl, e, e2, h⟩
        · exact h.elim
      · exact h.elim
    · rintro ⟨u, v, xs, own, ys, own2, rfl, e, e2, z⟩
      simp only [e, e2]
      exact z
  | _ => exact Iff.rfl
end
def fShl : U → U → Sto → Res U := oI (fun i j => decide (0 ≤ j ∧ j ≤ 1000000 ∧ i.natAbs < 2 ^ 64)) fun i j => .int (i * 2 ^ j.toNat)
@[simp] theorem to_shlI {i j : Int} {st : Sto} {Q : U → Sto → Prop} : (fShl (.d (.int i)) (.d (.int j)) st).To Q ↔ (0 ≤ j ∧ j ≤ 1000000 ∧ i.natAbs < 2 ^ 64) ∧ Q (.d (.int (i * 2 ^ j.toNat))) st := by unfold fShl oI; simp
end NW
namespace PySem.W
open PySem PySem.Calls PyProof.Rows
section
variable {prog : Program} {w : World} {A : Around} {E : Value → Shared → Prop} {s : Shared} {a kS : Addr} {vs : List Value} {e1 : Nat} {P : PySem.Fin → Shared → Prop} {kz : List PyData}
theorem freed_at (h : Heap) (k : Addr) : ∃ g : Heap, g.get? k = none ∧ Heap.SameBut k h g := by
  refine ⟨h.update k fun o => { o with data := .freed }, ?_, Heap.SameBut.update ..⟩
  cases h with
  | mk objs l =>
    show (match (objs.modify k fun o => { o with data := .freed })[k]? with | some ⟨_, _, .freed, _⟩ => none | o => o) = none
    rw [Array.getElem?_modify]
    simp only [if_true]
    cases objs[k]? <;> rfl
theorem keyJ_rest {f : Value} (J : Nat → Shared → List Value → Prop) (nk : s.heap.get? kS = some (seqObj "list" #[] 0)) (na : s.heap.get? a = some (seqObj "list" #[] e1)) (hka : kS ≠ a)
    (hlen : kz.length = vs.length) (hZ : vs.length ≤ sizeLine) (hal : AllAlike kz) (hsk : Sortable kz) (hu : ∀ d, d ∈ kz → A.units + d.depth < cLine) (j0 : J 0 s [])
    (turn : ∀ (i : Nat) (v : Value) (s1 : Shared) (kA : Array Value) (e : Nat), vs[i]? = some v → J i s1 kA.toList → s1.heap.get? kS = some (seqObj "list" kA e) → s1.heap.get? a = some (seqObj "list" #[] e1) →
      wpAny (model prog w) A (call f [v]) (fun u s2 => s2.heap.get? kS = some (seqObj "list" kA e) ∧ s2.heap.get? a = some (seqObj "list" #[] e1) ∧ ∀ h3, Heap.SameBut kS s2.heap h3 → J (i + 1) { s2 with heap := h3 } (kA.toList ++ [u])) (fun _ _ => False) s1)
    (fin : ∀ (s1 : Shared) (ks : List Value), J vs.length s1 ks → EachIs (fun v k => ∃ as, Reads s1.heap v k as) ks kz)
    (h : ∀ (s1 : Shared) (ks : List Value) (h' : Heap) (tk : Nat) (out : List Value) (c : Nat), J vs.length s1 ks → (∀ b o, b ≠ a → b ≠ kS → s1.heap.get? b = some o → h'.get? b = some o) → h'.get? a = some (seqObj "list" out.toArray c) → KeyedOut false kz vs out → P (.done (.ret .none)) { s1 with heap := h', toks := tk }) :
    wpAny (model prog w) A (ksk_rest a f false vs.toArray e1 (.ref kS)) P E s := by
  unfold ksk_rest
  refine wpAny_bind (wpAny_rule ?_)
  first
    | rw [List.forIn_toArray]
    | (rw [← Array.forIn_toList]; simp only [List.toList_toArray])
    | rw [← Array.forIn_toList]
  refine wpAny_bind (ksk_fold (fun i s' => ∃ kA e, s'.heap.get? kS = some (seqObj "list" kA e) ∧ s'.heap.get? a = some (seqObj "list" #[] e1) ∧ kA.size = i ∧ J i s' kA.toList) vs 0 s
    ⟨#[], 0, nk, na, rfl, j0⟩ ?step ?done)
  case step =>
    rintro j x s' hx ⟨kA, e, nk', na', hsz, hJ⟩
    simp only [Nat.zero_add] at hJ hsz ⊢
    have hj : j < vs.length := (List.getElem?_eq_some_iff.mp hx).1
    have hz : kA.size ≤ vs.length := by omega
    refine wpAny_bind (wpAny_attempt (wpAny_mono (turn j x s' kA e hx hJ nk' na') (fun v s'' he => ?_) fun _ _ hF => hF.elim))
    obtain ⟨nk2, na2, hn⟩ := he
    try dsimp only
    have s1 := Heap.SameBut.update s''.heap kS (Obj.mapSeq (·.push v))
    obtain ⟨c2, hc2⟩ : ∃ c2, (s''.heap.update kS (Obj.mapSeq (·.push v))).get? kS = some (seqObj "list" (kA.push v) c2) := ⟨_, get?_update_seq nk2 (·.push v)⟩
    refine wpAny_bind (listUpdate_at nk2 rfl ?_ (Nat.le_trans hz hZ) (Nat.le_trans (Nat.le_of_eq (Array.size_push ..)) (Nat.succ_le_succ (Nat.le_trans hz hZ))))
    have ea : (kA.push v).toList = kA.toList ++ [v] := by simp
    refine wpAny_pure ⟨rfl, kA.push v, c2, hc2, (s1.2 a hka.symm).trans na2, by rw [Array.size_push]; omega, ?_⟩
    rw [ea]
    exact hn _ s1
  case done =>
    rintro s' ⟨kA, e, nk', na', hsz, hJ⟩
    rw [Nat.zero_add] at hsz hJ
    have hk' := fin s' kA.toList hJ
    try dsimp only
    refine wpAny_bind (listItems_at nk' rfl ?_)
    obtain ⟨h₁, hn, sb⟩ := freed_at s'.heap kS
    have kp : KeepsBut a h₁ s'.heap := fun b o hb q => by
      by_cases hbk : b = kS
      · rw [hbk, hn] at q; cases q
      · exact (sb.2 b hbk).symm.trans q
    exact keyH_end (κ := dataKind s'.heap kz) (h₁ := h₁) kp hn nk' na' hka (SortsAt.data (s := s') hk' hal hsk hu) hsz hZ fun h3 tk3 c k3 n3 =>
      h s' kA.toList h3 tk3 _ c hJ (fun b o hb hbk q => k3 b o hb ((sb.2 b hbk).trans q)) n3 ⟨s'.heap, kA.toList, hal, rfl, hk'⟩
theorem sorted_J {l f : Addr} {Q : Value → Shared → Prop} (J : Addr → Nat → Shared → List Value → Prop) (hl : s.heap.IsList l vs.toArray)
    (hlen : kz.length = vs.length) (hZ : vs.length ≤ sizeLine) (hal : AllAlike kz) (hsk : Sortable kz) (hu : ∀ d, d ∈ kz → A.units + 2 + d.depth < cLine)
    (j0 : ∀ (kS : Addr) (h : Heap), s.heap.objs.size ≤ kS → (∀ b o, s.heap.get? b = some o → h.get? b = some o) → J kS 0 { s with heap := h } [])
    (turn : ∀ (kS : Addr) (e1 i : Nat) (v : Value) (s1 : Shared) (kA : Array Value) (e : Nat), kS ≠ s.heap.objs.size + 1 → vs[i]? = some v → J kS i s1 kA.toList → s1.heap.get? kS = some (seqObj "list" kA e) → s1.heap.get? (s.heap.objs.size + 1) = some (seqObj "list" #[] e1) →
      wpAny (model prog w) A.in1.in1 (call (.ref f) [v]) (fun u s2 => s2.heap.get? kS = some (seqObj "list" kA e) ∧ s2.heap.get? (s.heap.objs.size + 1) = some (seqObj "list" #[] e1) ∧ ∀ h3, Heap.SameBut kS s2.heap h3 → J kS (i + 1) { s2 with heap := h3 } (kA.toList ++ [u])) (fun _ _ => False) s1)
    (fin : ∀ (kS : Addr) (s1 : Shared) (ks : List Value), J kS vs.length s1 ks → EachIs (fun v k => ∃ as, Reads s1.heap v k as) ks kz)
    (h : ∀ (kS : Addr) (s1 : Shared) (ks : List Value) (h' : Heap) (tk : Nat) (out : List Value) (c : Nat), kS ≠ s.heap.objs.size + 1 → J kS vs.length s1 ks → (∀ b o, b ≠ s.heap.objs.size + 1 → b ≠ kS → s1.heap.get? b = some o → h'.get? b = some o) → h'.get? (s.heap.objs.size + 1) = some (seqObj "list" out.toArray c) → KeyedOut false kz vs out →
      Q (.ref (s.heap.objs.size + 1)) { s1 with heap := h', toks := tk }) :
    wpAny (model prog w) A (call (.builtin "sorted") [.ref l] [(Str.ofString "key", .ref f)]) Q E s := by
  refine sorted_of_sort hl hZ (ksk_s1 _ _) (fun _ => ksk_l1 _ _) fun E' => ?_
  rw [ksk_t1]
  have ho := copyHeap_at s.heap vs
  have ha : s.heap.objs.size + 1 < (copyHeap s.heap vs).objs.size := Heap.lt_size ho
  obtain ⟨e1, ho1⟩ : ∃ e1, ((copyHeap s.heap vs).update (s.heap.objs.size + 1) (Obj.mapSeq fun _ => (#[] : Array Value))).get? (s.heap.objs.size + 1) = some (seqObj "list" #[] e1) := ⟨_, get?_update_seq ho fun _ => #[]⟩
  have hkS : (((copyHeap s.heap vs).update (s.heap.objs.size + 1) (Obj.mapSeq fun _ => (#[] : Array Value))).push (seqObj "tuple" vs.toArray 0)).objs.size = (copyHeap s.heap vs).objs.size + 1 := by rw [size_push', Heap.size_update]
  unfold ksk_tree
  refine wpAny_bind (listItems_at ho rfl ?_)
  refine wpAny_bind (listUpdate_at ho rfl ?_ (by rw [List.size_toArray]; exact hZ) (Nat.zero_le _))
  refine wpAny_bind (seqEpoch_at ho1 rfl ?_)
  refine wpAny_bind (wpAny_newTuple ?_ (by show vs.length ≤ _; exact hZ))
  refine wpAny_bind (wpAny_newList ?_ (Nat.zero_le _))
  refine wpAny_holding ?_
  have up : ∀ b o, s.heap.get? b = some o → (sortingHeap (copyHeap s.heap vs) (s.heap.objs.size + 1) vs).get? b = some o := fun b o q =>
    sortingHeap_old (Nat.ne_of_lt (Nat.lt_succ_of_lt (Heap.lt_size q))) (copyHeap_old q)
  have hge : s.heap.objs.size ≤ (((copyHeap s.heap vs).update (s.heap.objs.size + 1) (Obj.mapSeq fun _ => (#[] : Array Value))).push (seqObj "tuple" vs.toArray 0)).objs.size := by rw [hkS]; omega
  have hne : (((copyHeap s.heap vs).update (s.heap.objs.size + 1) (Obj.mapSeq fun _ => (#[] : Array Value))).push (seqObj "tuple" vs.toArray 0)).objs.size ≠ s.heap.objs.size + 1 := by rw [hkS]; exact Nat.ne_of_gt (Nat.lt_succ_of_lt ha)
  exact keyJ_rest (A := A.in1.in1) (kz := kz) (s := { s with heap := (((copyHeap s.heap vs).update (s.heap.objs.size + 1) (Obj.mapSeq fun _ => (#[] : Array Value))).push (seqObj "tuple" vs.toArray 0)).push (seqObj "list" #[] 0) })
    (kS := (((copyHeap s.heap vs).update (s.heap.objs.size + 1) (Obj.mapSeq fun _ => (#[] : Array Value))).push (seqObj "tuple" vs.toArray 0)).objs.size) (J _)
    (Heap.get?_push_size _ rfl) (Heap.get?_push_of_some _ (Heap.get?_push_of_some _ ho1)) hne hlen hZ hal hsk hu (j0 _ _ hge up)
    (fun i v s1 kA e => turn _ e1 i v s1 kA e hne) (fun s1 ks => fin _ s1 ks) fun s1 ks h' tk out c hJ k2 n2 ko => ⟨rfl, h _ s1 ks h' tk out c hne hJ k2 n2 ko⟩
end
end PySem.W
namespace NW
open PySem PySem.Spec PyProof.Rows L2
open PySem.W (dataLe AllAlike Sortable EachIs sorted_J keyedOut_each)
def keysOf (m : List PyData → Rp) : List PyData → Option (List PyData)
  | [] => some []
  | x :: xs => match m [x], keysOf m xs with
    | .ok k _, some ks => some (k :: ks)
    | _, _ => none
theorem Vals.snoc {xs : List V} {us : List Value} {x : V} {u : Value} (h : Vals xs us) (r : RelV x u) : Vals (xs ++ [x]) (us ++ [u]) := h.append (.cons r .nil)
theorem RTs.snoc {K : PySem.W.Frag} {B : Addr → Prop} {H : Hp} {v : V} {d : PyData} : ∀ {ds : List PyData} {vs : List V}, RTs K B H vs ds → RT K B H v d → RTs K B H (vs ++ [v]) (ds ++ [d])
  | [], _, h, r => by cases h; exact .cons r .nil
  | x :: xs, _, h, r => by cases h with | cons h1 h2 => exact .cons h1 (RTs.snoc h2 r)
noncomputable def cSortK (m : List PyData → Rp) : List U → Sto → Res (List PyData) := fun us st => match us with
  | [u] => (match listOf st u with
    | some xs => (match keysOf m xs with
      | some ks => if sortOk ks = true then .ok (((xs.zip ks).mergeSort (dataLe false (·.2))).map (·.1)) st else .no
      | none => .no)
    | none => .no)
  | _ => .no
noncomputable def lSortK (m : List PyData → Rp) (a : MA) : ML := fun l st => (a l st).bind (cSortK m)
section
variable {l : Loc} {st : Sto}
@[simp] theorem to_lSortK {m : List PyData → Rp} {a : MA} {Q : List PyData → Sto → Prop} : (lSortK m a l st).To Q ↔ (a l st).To fun us s => ∃ u xs ks, us = [u] ∧ listOf s u = some xs ∧ keysOf m xs = some ks ∧ sortOk ks = true ∧ Q (((xs.zip ks).mergeSort (dataLe false (·.2))).map (·.1)) s := by
  unfold lSortK
  rw [to_bind]
  cases a l st with
  | ok us s =>
    simp only [to_ok]
    unfold cSortK
    constructor
    · intro h
      split at h
      · rename_i u
        split at h
        · rename_i xs e
          split at h
          · rename_i ks e2
            split at h
            · rename_i ok
              exact ⟨u, xs, ks, rfl, e, e2, ok, h⟩
            · exact h.elim
          · exact h.elim
        · exact h.elim
      · exact h.elim
    · rintro ⟨u, xs, ks, rfl, e, e2, ok, z⟩
      simp only [e, e2, ok, if_true]
      exact z
  | _ => exact Iff.rfl
end
end NW
namespace NW
open PySem PySem.Spec PyProof.Rows L2
section
variable {X : Cx} {o e : Expr} {to : TE} {mo : ME} {tA : TA} {mA : MA} {pos : Pos}
end
section
variable {st : Sto} {Q : U → Sto → Prop}
end
end NW
namespace NW
open PySem PySem.Spec PyProof.Rows L2
section
variable {G : Gx}
def eNewD : ME := fun _ st => .ok (.ref st.obs.length) (st.addO (.dct []))
def sDPutM (o i v : ME) : MS := fun l st => (v l st).out l fun uv st => (o l st).out l fun uo st => (i l st).out l fun ui st => match uv, uo, ui with
  | .d x, .ref k, .d z => (match keyD z, st.obs[k]? with
    | some n, some (.dct es) => if (es.all fun e => !decide (e.1 = n)) = true ∧ es.length ≤ 1000 then .nx l (st.putO k (.dct (es ++ [(n, x)]))) else .no
    | _, _ => .no)
  | _, _, _ => .no
end
section
variable {X : Cx} {o i e value : Expr} {to ti tv : TE} {mo mi mv : ME} {pos pos' : Pos}
end
inductive Rdc where
  | ok (es : List (Key × PyData)) | no
section
variable {P : Program} {w : World} {K : PySem.W.Frag} {mg : Str → Option Value} {base : Heap}
end
section
variable {K : PySem.W.Frag} {B : Addr → Prop} {H : Hp} {p : Addr} {kvs : List (Key × V)} {od : Obj}
theorem rd_lock {a : Addr} {xs : List V} (hp : H p = some (.dK kvs)) (h : Rd H a (.tup xs)) : Rd (upd H p (.frz od (.dK kvs))) a (.tup xs) := by
  have ne : a ≠ p := fun e => by
    subst e
    rcases h with h | ⟨o, h⟩ <;> · rw [hp] at h; cases h
  unfold Rd
  rw [upd_ne ne]
  exact h
mutual
theorem RT.lock (hp : H p = some (.dK kvs)) : ∀ (d : PyData) (v : V), RT K B H v d → RT K B (upd H p (.frz od (.dK kvs))) v d
  | .none, _, h => by cases h; exact .non
  | .bool b, _, h => by cases h; exact .bl b
  | .int i, _, h => by cases h; exact .int i
  | .str x, _, h => by cases h; exact .str x
  | .list ds, _, h => by
    cases h with
    | lst hs ha =>
      refine .lst ⟨?_, hs.2⟩ (RTs.lock hp ds _ ha)
      rw [upd_ne (fun e => by subst e; rw [hs.1] at hp; cases hp)]
      exact hs.1
  | .tuple ds, _, h => by
    cases h with
    | tup hs ha => exact .tup (hs.imp (fun z => ⟨rd_lock hp z.1, z.2⟩) id) (RTs.lock hp ds _ ha)
  | .dict _, _, h => by cases h
theorem RTs.lock (hp : H p = some (.dK kvs)) : ∀ (ds : List PyData) (vs : List V), RTs K B H vs ds → RTs K B (upd H p (.frz od (.dK kvs))) vs ds
  | [], _, h => by cases h; exact .nil
  | d :: ds, _, h => by
    cases h with
    | cons h1 h2 => exact .cons (RT.lock hp d _ h1) (RTs.lock hp ds _ h2)
end
end
def fCallDc (k : Nat) (m : List PyData → Rdc) (us : List U) (st : Sto) : Res U := match ctrees st us with
  | some ds => if ds.length = k ∧ us.any isRef = false then (match m ds with
    | .ok es => .ok (.dct es) st
    | .no => .no) else .no
  | none => .no
def eCallDc (k : Nat) (m : List PyData → Rdc) (a : MA) : ME := fun l st => (a l st).bind (fCallDc k m)
section
variable {G : Gx}
def cListDc : List U → Sto → Res (List PyData) := fun us st => match us with
  | [.dct es] => .ok (es.map fun e => kD e.1) st
  | _ => .no
end
section
variable {X : Cx} {e : Expr} {es : List Expr} {pos p : Pos} {tA : TA} {mA : MA}
end
def Rdc.To (r : Rdc) (P : List (Key × PyData) → Prop) : Prop := match r with
  | .ok es => P es
  | .no => False
theorem Rdc.To.mono {r : Rdc} {P Q : List (Key × PyData) → Prop} (h : r.To P) (k : ∀ es, P es → Q es) : r.To Q := by
  cases r with
  | ok es => exact k es h
  | no => exact h
def retDc (P : List (Key × PyData) → Prop) (u : U) (s : Sto) : Prop := match u with
  | .ref i => ∃ es, s.obs[i]? = some (Ob.dct es) ∧ P es
  | _ => False
@[simp] theorem retDc_ref {P : List (Key × PyData) → Prop} {s : Sto} {i : Nat} : retDc P (.ref i) s ↔ ∃ es, s.obs[i]? = some (Ob.dct es) ∧ P es := Iff.rfl
section
variable {st : Sto} {Q : U → Sto → Prop} {N : Loc → Sto → Prop} {R : U → Sto → Prop} {l : Loc}
theorem noRef_d : ∀ ds : List PyData, (ds.map U.d).any isRef = false
  | [] => rfl
  | d :: ds => by rw [List.map_cons, List.any_cons, noRef_d ds]; rfl
theorem fCallDc_d {k : Nat} {m : List PyData → Rdc} {ds : List PyData} (h : ds.length = k) : (fCallDc k m (ds.map U.d) st).To Q ↔ (m ds).To fun es => Q (.dct es) st := by
  unfold fCallDc
  rw [ctrees_d]
  dsimp only
  rw [if_pos ⟨h, noRef_d ds⟩]
  cases m ds with
  | ok es => exact Iff.rfl
  | no => exact Iff.rfl
@[simp] theorem callDc_1 {m : List PyData → Rdc} {x : PyData} : (fCallDc 1 m [.d x] st).To Q ↔ (m [x]).To fun es => Q (.dct es) st := fCallDc_d (ds := [x]) rfl
@[simp] theorem callDc_2 {m : List PyData → Rdc} {x y : PyData} : (fCallDc 2 m [.d x, .d y] st).To Q ↔ (m [x, y]).To fun es => Q (.dct es) st := fCallDc_d (ds := [x, y]) rfl
@[simp] theorem to_eCallDc {k : Nat} {m : List PyData → Rdc} {a : MA} : (eCallDc k m a l st).To Q ↔ (a l st).To fun us s => (fCallDc k m us s).To Q := by unfold eCallDc; simp
@[simp] theorem to_newD : (eNewD l st).To Q ↔ Q (.ref st.obs.length) (st.addO (.dct [])) := Iff.rfl
@[simp] theorem to_listDc {es : List (Key × PyData)} {P : List PyData → Sto → Prop} : (cListDc [.dct es] st).To P ↔ P (es.map fun e => kD e.1) st := Iff.rfl
@[simp] theorem to_sDPut {o i v : ME} : (sDPutM o i v l st).To N R ↔ (v l st).To fun uv st => (o l st).To fun uo st => (i l st).To fun ui st => ∃ (x : PyData) (k : Nat) (z : PyData) (n : Key) (es : List (Key × PyData)), uv = .d x ∧ uo = .ref k ∧ ui = .d z ∧ keyD z = some n ∧ st.obs[k]? = some (.dct es) ∧ ((es.all fun e => !decide (e.1 = n)) = true ∧ es.length ≤ 1000) ∧ N l (st.putO k (.dct (es ++ [(n, x)]))) := by
  unfold sDPutM
  simp only [to_out]
  have key : ∀ (uv uo ui : U) (st : Sto), (match uv, uo, ui with
    | .d x, .ref k, .d z => (match keyD z, st.obs[k]? with
      | some n, some (.dct es) => if (es.all fun e => !decide (e.1 = n)) = true ∧ es.length ≤ 1000 then Out.nx l (st.putO k (.dct (es ++ [(n, x)]))) else .no
      | _, _ => .no)
    | _, _, _ => .no).To N R ↔ ∃ (x : PyData) (k : Nat) (z : PyData) (n : Key) (es : List (Key × PyData)), uv = .d x ∧ uo = .ref k ∧ ui = .d z ∧ keyD z = some n ∧ st.obs[k]? = some (.dct es) ∧ ((es.all fun e => !decide (e.1 = n)) = true ∧ es.length ≤ 1000) ∧ N l (st.putO k (.dct (es ++ [(n, x)]))) := by
    intro uv uo ui st
    constructor
    · intro h
      split at h
      · rename_i x k z
        split at h
        · rename_i n es ek he
          split at h
          · rename_i hc
            exact ⟨x, k, z, n, es, rfl, rfl, rfl, ek, he, hc, h⟩
          · exact h.elim
        · exact h.elim
      · exact h.elim
    · rintro ⟨x, k, z, n, es, rfl, rfl, rfl, ek, he, hc, h⟩
      dsimp only
      rw [ek, he]
      dsimp only
      rw [if_pos hc]
      exact h
  refine ⟨fun h => ?_, fun h => ?_⟩
  · exact h.mono fun uv s h => h.mono fun uo s h => h.mono fun ui s h => (key uv uo ui s).mp h
  · exact h.mono fun uv s h => h.mono fun uo s h => h.mono fun ui s h => (key uv uo ui s).mpr h
end
end NW
namespace NW
open PySem PySem.Spec PyProof.Rows L2
section
variable {G : Gx} {β : List Addr} {H : Hp} {st : Sto}
def mDct (m : ME) : MI := fun l st => (m l st).bind fun u st => match u with
  | .dct es => .ok ⟨es.map fun e => kD e.1, []⟩ st
  | _ => .no
def fEqE : U → U → Sto → Res U := fun a b st => match a, b with
  | .dct es, .ref j => (match st.obs[j]? with
    | some (.dct []) => .ok (.d (.bool es.isEmpty)) st
    | _ => .no)
  | _, _ => .no
end
section
variable {X : Cx} {a b e tg : Expr} {ta tb te : TE} {ma mb me : ME} {pos : Pos}
end
section
variable {st : Sto} {Q : U → Sto → Prop} {l : Loc}
@[simp] theorem to_mDct {m : ME} {R : ItD → Sto → Prop} : (mDct m l st).To R ↔ (m l st).To fun u s => ∃ es, u = .dct es ∧ R ⟨es.map fun e => kD e.1, []⟩ s := by
  unfold mDct
  rw [to_bind]
  refine iff_of_eq (congrArg _ (funext fun u => funext fun s => propext ?_))
  cases u <;> simp
@[simp] theorem to_eqE {es : List (Key × PyData)} {j : Nat} : (fEqE (.dct es) (.ref j) st).To Q ↔ st.obs[j]? = some (.dct []) ∧ Q (.d (.bool es.isEmpty)) st := by
  show (match st.obs[j]? with
    | some (.dct []) => Res.ok (U.d (.bool es.isEmpty)) st
    | _ => .no).To Q ↔ _
  constructor
  · intro h
    split at h
    · rename_i he
      exact ⟨he, h⟩
    · exact h.elim
  · rintro ⟨he, h⟩
    rw [he]
    exact h
end
end NW
namespace NW
open PySem PySem.Spec PyProof.Rows L2
def lZip (a : MA) : ML := fun l st => (a l st).bind fun us st => match us with
  | [u, v] => (match listOf st u, listOf st v with
    | some xs, some ys => .ok (zipD xs ys) st
    | _, _ => .no)
  | _ => .no
section
variable {l : Loc} {st : Sto}
@[simp] theorem to_lZip {a : MA} {P : List PyData → Sto → Prop} : (lZip a l st).To P ↔ (a l st).To fun us s => ∃ u v xs ys, us = [u, v] ∧ listOf s u = some xs ∧ listOf s v = some ys ∧ P (zipD xs ys) s := by
  unfold lZip
  rw [to_bind]
  cases a l st with
  | ok us s =>
    simp only [to_ok]
    constructor
    · intro h
      split at h
      · rename_i u v
        split at h
        · rename_i xs ys e e2
          exact ⟨u, v, xs, ys, rfl, e, e2, h⟩
        · exact h.elim
      · exact h.elim
    · rintro ⟨u, v, xs, ys, rfl, e, e2, z⟩
      simp only [e, e2]
      exact z
  | _ => exact Iff.rfl
end
section
variable {prog : Program} {w : World} {A : Around} {E : Value → Shared → Prop} {s : Shared} {z TI TO i1 i2 l1 l2 d : Addr} {xs ys : Array Value}
structure ZOff (d z TI TO i1 i2 l1 l2 : Addr) : Prop where
  z : z ≠ d
  TI : TI ≠ d
  TO : TO ≠ d
  i1 : i1 ≠ d
  i2 : i2 ≠ d
  l1 : l1 ≠ d
  l2 : l2 ≠ d
end
section
variable {prog : Program} {w : World} {A : Around} {E : Value → Shared → Prop} {s : Shared} {z TI TO i1 i2 l1 l2 d : Addr} {xs ys : Array Value}
end
end NW
namespace NW
open PySem PySem.Spec PyProof.Rows L2 _root_.RT
section
variable {prog : Program} {w : World} {A : Around} {E : Value → Shared → Prop} {s : Shared}
end
def eTupRevT (m : ME) : ME := fun l st => (m l st).bind fun u st => match u with
  | .d (.tuple xs) => if xs.isEmpty = true then .no else .ok (.d (.tuple xs.reverse)) st
  | _ => .no
section
variable {l : Loc} {st : Sto} {Q : U → Sto → Prop}
@[simp] theorem to_eTupRevTV {i : Nat} : (eTupRevT (eVar i) l st).To Q ↔ ∃ xs, l[i]? = some (some (.d (.tuple xs))) ∧ xs ≠ [] ∧ Q (.d (.tuple xs.reverse)) st := by
  have key : (eTupRevT (eVar i) l st).To Q ↔ (eVar i l st).To fun u s => ∃ xs, u = .d (.tuple xs) ∧ xs ≠ [] ∧ Q (.d (.tuple xs.reverse)) s := by
    unfold eTupRevT
    rw [to_bind]
    refine iff_of_eq (congrArg _ (funext fun u => funext fun s => propext ?_))
    cases u with
    | d x =>
      cases x with
      | tuple xs =>
        show (if xs.isEmpty = true then Res.no else Res.ok (U.d (.tuple xs.reverse)) s).To Q ↔ _
        cases xs with
        | nil => simp
        | cons x xs => simp
      | _ => simp
    | _ => simp
  rw [key]
  simp
  constructor
  · rintro ⟨u, h1, xs, rfl, h2, h3⟩
    exact ⟨xs, h1, h2, h3⟩
  · rintro ⟨xs, h1, h2, h3⟩
    exact ⟨_, h1, xs, rfl, h2, h3⟩
end
end NW
namespace NW
open PySem PySem.Spec PyProof.Rows L2
def dctOf (st : Sto) : U → Option (List (Key × PyData))
  | .dct es => some es
  | .ref i => (match st.obs[i]? with
    | some (.dct es) => some es
    | _ => none)
  | _ => none
def fDIn (neg : Bool) : U → U → Sto → Res U := fun a b st => match a, dctOf st b with
  | .d z, some es => (match keyD z with
    | some k => .ok (.d (.bool (if neg then !(es.any fun e => decide (e.1 = k)) else es.any fun e => decide (e.1 = k)))) st
    | none => .no)
  | _, _ => .no
section
variable {X : Cx} {a b : Expr} {ta tb : TE} {ma mb : ME} {pos : Pos}
end
section
variable {G : Gx} {β β' : List Addr} {H H' : Hp} {σ : L2.St} {l : Loc} {st st' : Sto} {i j : Nat} {p : Addr} {es : List (Key × PyData)} {kvs : List (Key × V)} {od : Obj}
mutual
theorem RT.unlock {K : PySem.W.Frag} {B B' : Addr → Prop} (hp : H p = some (.frz od (.dK kvs))) (hB : ∀ a, B' a → B a ∨ a = p) : ∀ (d : PyData) (v : V), RT K B H v d → RT K B' (upd H p (.dK kvs)) v d
  | .none, _, h => by cases h; exact .non
  | .bool b, _, h => by cases h; exact .bl b
  | .int i, _, h => by cases h; exact .int i
  | .str x, _, h => by cases h; exact .str x
  | .list ds, _, h => by
    cases h with
    | lst hs ha =>
      have ne : ∀ {a xs}, H a = some (.lst xs) → a ≠ p := fun h1 e => by rw [e, hp] at h1; cases h1
      refine .lst ⟨by rw [upd_ne (ne hs.1)]; exact hs.1, fun w => (hB _ w).elim hs.2 (ne hs.1)⟩ (RTs.unlock hp hB ds _ ha)
  | .tuple ds, _, h => by
    cases h with
    | tup hs ha =>
      refine .tup (hs.imp (fun z => ?_) id) (RTs.unlock hp hB ds _ ha)
      have ne : ∀ {a xs}, Rd H a (.tup xs) → a ≠ p := fun h1 e => by
        rw [e] at h1
        rcases h1 with h1 | ⟨o, h1⟩ <;> · rw [hp] at h1; cases h1
      refine ⟨?_, fun w => (hB _ w).elim z.2 (ne z.1)⟩
      have := ne z.1
      unfold Rd
      rw [upd_ne this]
      exact z.1
  | .dict _, _, h => by cases h
theorem RTs.unlock {K : PySem.W.Frag} {B B' : Addr → Prop} (hp : H p = some (.frz od (.dK kvs))) (hB : ∀ a, B' a → B a ∨ a = p) : ∀ (ds : List PyData) (vs : List V), RTs K B H vs ds → RTs K B' (upd H p (.dK kvs)) vs ds
  | [], _, h => by cases h; exact .nil
  | d :: ds, _, h => by
    cases h with
    | cons h1 h2 => exact .cons (RT.unlock hp hB d _ h1) (RTs.unlock hp hB ds _ h2)
end
end
def isArg : U → Bool
  | .d _ => true
  | .dct _ => true
  | _ => false
section
variable {P : Program} {w : World} {K : PySem.W.Frag} {mg : Str → Option Value} {base : Heap}
end
def fCallU (k : Nat) (m : List U → Rp) (us : List U) (st : Sto) : Res U := if us.all isArg = true ∧ us.length = k then (match m us with
  | .ok d _ => .ok (.d d) st
  | _ => .no) else .no
def eCallU (k : Nat) (m : List U → Rp) (a : MA) : ME := fun l st => (a l st).bind (fCallU k m)
section
variable {X : Cx} {e : Expr} {es : List Expr} {pos p : Pos} {tA : TA} {mA : MA} {t : TE} {m : ME} {s : Stmt} {ts : TS} {ms : MS}
end
section
variable {G : Gx}
end
section
variable {X : Cx} {o e e2 : Expr} {to : TE} {mo : ME} {tA : TA} {mA : MA} {pos : Pos}
end
section
variable {st : Sto} {Q : U → Sto → Prop} {N : Loc → Sto → Prop} {R : U → Sto → Prop} {l : Loc}
@[simp] theorem to_dinD {neg : Bool} {es : List (Key × PyData)} {k : Int} : (fDIn neg (.d (.int k)) (.dct es) st).To Q ↔ Q (.d (.bool (if neg then !(es.any fun e => decide (e.1 = .inl k)) else es.any fun e => decide (e.1 = .inl k)))) st := Iff.rfl
@[simp] theorem to_dinDS {neg : Bool} {es : List (Key × PyData)} {k : Str} : (fDIn neg (.d (.str k)) (.dct es) st).To Q ↔ Q (.d (.bool (if neg then !(es.any fun e => decide (e.1 = .inr k)) else es.any fun e => decide (e.1 = .inr k)))) st := Iff.rfl
@[simp] theorem to_eCallU {k : Nat} {m : List U → Rp} {a : MA} : (eCallU k m a l st).To Q ↔ (a l st).To fun us s => (fCallU k m us s).To Q := by unfold eCallU; simp
end
end NW
namespace NW
open PySem PySem.Spec PyProof.Rows L2
def repS (x : Str) (n : Int) : Str := if n < 1 then Str.empty else if (n == 1 || x.length == 0) = true then x else ⟨(List.replicate n.toNat x.cps).foldl (· ++ ·) #[]⟩
def repOk (a : Str) (k : Int) : Bool := decide (-(2 ^ 62) ≤ k ∧ k ≤ 1000 ∧ a.length ≤ 1000 ∧ (repS a k).length ≤ sizeLine ∧ Builtin.Str.tooLong (a.length * k.toNat) = false)
def fMulS : U → U → Sto → Res U := fun a b st => match a, b with
  | .d (.str x), .d (.int k) => if repOk x k = true then .ok (.d (.str (repS x k))) st else .no
  | a, b => fMulA a b st
def SimTx (G : Gx) (r : V → List V → Hp → VK → Prop) (f : U → U → Sto → Res U) : Prop := ∀ β H σ l st, Re G β H σ l st → ∀ x y a b Q, RU G β (Ban G β st) H x a → RU G β (Ban G β st) H y b → wpR G β H σ st (PU G) (f a b st) Q → (∃ z, x = .str z) ∧ r x [y] H Q
def isStr : U → Bool
  | .d (.str _) => true
  | _ => false
def eMeth1 (f : U → U → Sto → Res U) (o a : ME) : ME := fun l st => (o l st).bind fun u st => if isStr u = true then (a l st).bind fun w st => f u w st else .no
theorem s_meth1 {G : Gx} {r : V → List V → Hp → VK → Prop} {f : U → U → Sto → Res U} {to te : TE} {o a : ME} (hr : SimTx G r f) (ho : SimE G to o) (ha : SimE G te a) : SimE G (tM1 r to te) (eMeth1 f o a) := fun β H σ l st re Q h => by
  refine ho β H σ l st re _ (wpR_bind h fun v u H1 β1 st1 f1 rl1 p1 h1 => ?_)
  split at h1
  · rename_i hu
    have re1 := f1.re rl1 re
    have hs : ∃ z, v = .str z := by
      unfold isStr at hu
      split at hu
      · exact ⟨_, ru_str p1⟩
      · cases hu
    refine ⟨hs, ha β1 H1 σ l st1 re1 _ (wpR_bind h1 fun w u2 H2 β2 st2 f2 rl2 p2 h2 => ?_)⟩
    exact (hr β2 H2 σ l st2 (f2.re rl2 re1) v w u u2 Q (f2.ru p1) p2 h2).2
  · exact h1.elim
def strsOf : List PyData → Option (List Str)
  | [] => some []
  | .str x :: r => (strsOf r).map (x :: ·)
  | _ => none
theorem strs_v {K : PySem.W.Frag} {B : Addr → Prop} {H : Hp} : ∀ {xs : List PyData} {vs : List V} {ys : List Str}, RTs K B H vs xs → strsOf xs = some ys → vs = ys.map V.str
  | [], _, _, h, e => by cases h; cases e; rfl
  | x :: xs, _, ys, h, e => by
    cases h with
    | cons h1 h2 =>
      unfold strsOf at e
      split at e
      · rename_i heq; cases heq
      · rename_i y r heq
        cases heq
        cases e2 : strsOf xs with
        | none => rw [e2] at e; cases e
        | some zs =>
          rw [e2] at e
          cases e
          cases h1
          rw [strs_v h2 e2]
          rfl
      · cases e
def joinOk (a : Str) (ys : List Str) : Bool := decide ((ys.map (·.length)).sum + ys.length * a.length ≤ 16777216)
def fJoin : U → U → Sto → Res U := fun a b st => match a, (seqOf st b).bind strsOf with
  | .d (.str x), some ys => if joinOk x ys = true then .ok (.d (.str (Txt.join x ys))) st else .no
  | _, _ => .no
def rJoin (K : PySem.W.Frag) : V → List V → Hp → VK → Prop := fun x xs H Q => ∃ a p, ∃ ys : List Str, x = .str a ∧ xs = [.ref p] ∧ (SqL K H p (ys.map V.str) ∨ SqT K H p (ys.map V.str)) ∧
      (ys.map (·.length)).sum + ys.length * a.length ≤ 16777216 ∧ Q (.str (Txt.join a ys)) H
theorem r_join {G : Gx} : SimTx G (rJoin G.K) fJoin := fun β H σ l st re x y a b Q hx hy h => by
  unfold fJoin at h
  split at h
  · rename_i z ys e
    cases ru_str hx
    split at h
    · rename_i q
      cases e1 : seqOf st b with
      | none => rw [e1] at e; cases e
      | some xs =>
        rw [e1] at e
        obtain ⟨p, vs, rfl, s, r⟩ := seq_q re.rl hy e1
        have ev := strs_v r e
        subst ev
        exact ⟨⟨z, rfl⟩, z, p, ys, rfl, rfl, s, of_decide_eq_true q, wpR_d re.rl (.str _) h⟩
    · exact h.elim
  · exact h.elim
section
variable {X : Cx} {o e a b : Expr} {to te ta tb : TE} {mo me ma mb : ME} {apos pos : Pos}
theorem q_join (ho : QE X o to mo) (he : QE X e te me) (hs : starEach [e] X.env = [(false, eval e X.env)] := by rfl) (hbase : attributeBase o "join" X.env (eval o X.env) = eval o X.env := by rfl) (hline : (apos.endLine == pos.line) = true := by rfl) :
    QE X (.Call (.Attribute o "join" apos) [e] [] pos) (tM1 (rJoin X.K) to te) (eMeth1 fJoin mo me) := ⟨pe_join ho.pe he.pe hs hbase hline, fun G h => h ▸ s_meth1 r_join (ho.sim G h) (he.sim G h)⟩
end
section
variable {X : Cx} {a b : Expr} {ta tb : TE} {ma mb : ME} {pos : Pos}
end
section
variable {P : Program} {w : World} {K : PySem.W.Frag} {mg : Str → Option Value} {base : Heap} {N ps : List Str} {x : Str} {st : Stmt} {k n : Nat}
end
section
variable {st : Sto} {Q : U → Sto → Prop} {l : Loc}
@[simp] theorem to_mulS_int {i j : Int} : (fMulS (.d (.int i)) (.d (.int j)) st).To Q ↔ (fMulA (.d (.int i)) (.d (.int j)) st).To Q := Iff.rfl
@[simp] theorem to_mulS_str {x : Str} {k : Int} : (fMulS (.d (.str x)) (.d (.int k)) st).To Q ↔ repOk x k = true ∧ Q (.d (.str (repS x k))) st := by
  show (if repOk x k = true then Res.ok (U.d (.str (repS x k))) st else .no).To Q ↔ _
  by_cases h : repOk x k = true <;> simp [h]
@[simp] theorem to_eMeth1 {f : U → U → Sto → Res U} {o a : ME} : (eMeth1 f o a l st).To Q ↔ (o l st).To fun u s => isStr u = true ∧ (a l s).To fun w s => (f u w s).To Q := by
  unfold eMeth1
  rw [to_bind]
  refine iff_of_eq (congrArg _ (funext fun u => funext fun s => propext ?_))
  by_cases h : isStr u = true <;> simp [h]
@[simp] theorem isStr_str {x : Str} : isStr (.d (.str x)) = true := rfl
@[simp] theorem to_joinL {x : Str} {xs : List PyData} : (fJoin (.d (.str x)) (.d (.list xs)) st).To Q ↔ ∃ ys, strsOf xs = some ys ∧ joinOk x ys = true ∧ Q (.d (.str (Txt.join x ys))) st := by
  have e : seqOf st (U.d (.list xs)) = some xs := rfl
  unfold fJoin
  rw [e, Option.bind_some]
  cases strsOf xs with
  | none => simp
  | some ys => by_cases h : joinOk x ys = true <;> simp [h]
end
end NW
namespace NW
open PySem PySem.Spec PyProof.Rows L2 LiI
section
variable {G : Gx} {β : List Addr} {H H' : Hp} {st : Sto}
def cMax3 : List U → Sto → Res U := fun us st => match us with
  | [.d (.int i), .d (.int j), .d (.int k)] => .ok (.d (.int (max (max i j) k))) st
  | _ => .no
theorem rd_ban {K : PySem.W.Frag} {B : Addr → Prop} {p a : Addr} {kvs : List (Key × V)} {xs : List V} (hp : H p = some (.dK kvs)) (h : Rd H a (.tup xs)) : a ≠ p := fun e => by
  subst e
  rcases h with h | ⟨o, h⟩ <;> · rw [hp] at h; cases h
section
variable {K : PySem.W.Frag} {B : Addr → Prop} {p : Addr} {kvs : List (Key × V)}
mutual
theorem RT.banD (hp : H p = some (.dK kvs)) : ∀ (d : PyData) (v : V), RT K B H v d → RT K (fun q => B q ∨ q = p) H v d
  | .none, _, h => by cases h; exact .non
  | .bool b, _, h => by cases h; exact .bl b
  | .int i, _, h => by cases h; exact .int i
  | .str x, _, h => by cases h; exact .str x
  | .list ds, _, h => by
    cases h with
    | lst hs ha => exact .lst ⟨hs.1, fun w => w.elim hs.2 fun e => by rw [e] at hs; rw [hs.1] at hp; cases hp⟩ (RTs.banD hp ds _ ha)
  | .tuple ds, _, h => by
    cases h with
    | tup hs ha => exact .tup (hs.imp (fun z => ⟨z.1, fun w => w.elim z.2 fun e => rd_ban (K := K) (B := B) hp z.1 e⟩) id) (RTs.banD hp ds _ ha)
  | .dict _, _, h => by cases h
theorem RTs.banD (hp : H p = some (.dK kvs)) : ∀ (ds : List PyData) (vs : List V), RTs K B H vs ds → RTs K (fun q => B q ∨ q = p) H vs ds
  | [], _, h => by cases h; exact .nil
  | d :: ds, _, h => by
    cases h with
    | cons h1 h2 => exact .cons (RT.banD hp d _ h1) (RTs.banD hp ds _ h2)
end
end
def fCallDcO (k : Nat) (m : List PyData → Rdc) (us : List U) (st : Sto) : Res U := match ctrees st us with
  | some ds => if ds.length = k ∧ us.any isRef = false then (match m ds with
    | .ok es => .ok (.ref st.obs.length) (st.addO (.dct es))
    | .no => .no) else .no
  | none => .no
def eCallDcO (k : Nat) (m : List PyData → Rdc) (a : MA) : ME := fun l st => (a l st).bind (fCallDcO k m)
end
section
variable {X : Cx} {a b c e : Expr} {es : List Expr} {pos p : Pos} {ta tb te : TE} {ma mb me : ME} {tA : TA} {mA : MA}
end
section
variable {st : Sto} {Q : U → Sto → Prop} {l : Loc}
@[simp] theorem to_max3 {i j k : Int} : (cMax3 [.d (.int i), .d (.int j), .d (.int k)] st).To Q ↔ Q (.d (.int (max (max i j) k))) st := Iff.rfl
@[simp] theorem to_eCallDcO {k : Nat} {m : List PyData → Rdc} {a : MA} : (eCallDcO k m a l st).To Q ↔ (a l st).To fun us s => (fCallDcO k m us s).To Q := by unfold eCallDcO; simp
end
end NW
namespace NW
open PySem PySem.Spec PyProof.Rows L2
section
variable {K K' : PySem.W.Frag} (m : More K K')
include m
theorem More.own {name : Str} {c : Value} {r : Option Value} (e : PySem.W.ownIn K name c = some r) : PySem.W.ownIn K' name c = some r := by
  unfold PySem.W.ownIn at e ⊢
  cases c with
  | ref a =>
    cases q : List.lookup a K with
    | none => simp [q] at e
    | some o =>
      simp only [q] at e
      simp only [m a o q]
      split at e
      · exact m.ns e
      · cases e
  | _ => exact e
theorem More.along {name : Str} : ∀ {l : List Value} {r : Option Value}, PySem.W.alongIn K name l = some r → PySem.W.alongIn K' name l = some r
  | [], _, e => e
  | c :: l, r, e => by
    unfold PySem.W.alongIn at e ⊢
    split at e
    · rename_i v q; rw [m.own q]; exact e
    · rename_i q; rw [m.own q]; exact More.along e
    · cases e
theorem More.find {t : Value} {name : Str} {r : Option Value} (e : PySem.W.findIn K t name = some r) : PySem.W.findIn K' t name = some r := by
  unfold PySem.W.findIn at e ⊢
  cases t with
  | ref a =>
    cases q : List.lookup a K with
    | none => simp [q] at e
    | some o =>
      simp only [q] at e
      simp only [m a o q]
      split at e
      · exact m.along e
      · cases e
  | _ => exact e
theorem More.typ {v t : Value} (e : PySem.W.typeIn K v = some t) : PySem.W.typeIn K' v = some t := by
  unfold PySem.W.typeIn at e ⊢
  cases v with
  | ref a =>
    obtain ⟨o, ho, h⟩ := Option.map_eq_some_iff.mp e
    show (List.lookup a K').map _ = _
    rw [m a o ho]
    exact congrArg some h
  | _ => exact e
theorem More.special {v : Value} {name : Str} {r : Option Value} (e : PySem.W.specialIn K v name = some r) : PySem.W.specialIn K' v name = some r := by
  unfold PySem.W.specialIn at e ⊢
  obtain ⟨t, a, b⟩ := Option.bind_eq_some_iff.mp e
  rw [m.typ a]
  exact m.find b
theorem More.takes {v : Value} {r : Bool} (e : PySem.W.takesIn K v = some r) : PySem.W.takesIn K' v = some r := by
  unfold PySem.W.takesIn at e ⊢
  split at e
  · rename_i q; rw [m.special q]; exact e
  · rename_i q
    rw [m.special q]
    obtain ⟨y, hy, h⟩ := Option.map_eq_some_iff.mp e
    show (PySem.W.specialIn K' v "__delete__").map _ = _
    rw [m.special hy]
    exact congrArg some h
  · cases e
theorem More.cls {C : Addr} {cd : ClassData} (e : PySem.W.clsIn K C = some cd) : PySem.W.clsIn K' C = some cd := by
  unfold PySem.W.clsIn at e ⊢
  cases q : List.lookup C K with
  | none => simp [q] at e
  | some o => simp only [q] at e; simp only [m C o q]; exact e
theorem More.mro {C : Addr} {b : Value} {r : Bool} (e : PySem.W.mroIn K C b = some r) : PySem.W.mroIn K' C b = some r := by
  unfold PySem.W.mroIn at e ⊢
  obtain ⟨cd, a, h⟩ := Option.bind_eq_some_iff.mp e
  rw [m.cls a]
  exact h
theorem More.sub {t b : Value} {r : Bool} (e : PySem.W.subIn K t b = some r) : PySem.W.subIn K' t b = some r := by
  unfold PySem.W.subIn at e ⊢
  cases t with
  | ref C => exact m.mro e
  | _ => exact e
theorem More.dict {C : Addr} (e : PySem.W.hasDictIn K C = true) : PySem.W.hasDictIn K' C = true := by
  unfold PySem.W.hasDictIn at e ⊢
  obtain ⟨cd, a, h⟩ := PySem.W.any_some e
  rw [m.cls a]
  exact h
theorem More.keep {v : Value} (e : PySem.W.keepIn K v = true) : PySem.W.keepIn K' v = true := by
  unfold PySem.W.keepIn at e ⊢
  cases v with
  | ref a =>
    cases q : List.lookup a K with
    | none => simp [q] at e
    | some o =>
      simp only [q] at e
      simp only [m a o q]
      split at e
      · rfl
      · have h := eq_of_beq e
        simp only [m.special h]
        exact beq_self_eq_true _
      · cases e
  | _ => exact e
end
def clsOf (mg : Str → Option Value) : Str → Option Addr := fun x => match mg x with
  | some (.ref a) => some a
  | _ => none
theorem clsOf_of {mg : Str → Option Value} {x : Str} {C : Addr} (h : mg x = some (.ref C)) : clsOf mg x = some C := by unfold clsOf; rw [h]
def ExK (K : PySem.W.Frag) (cls : Str → Option Addr) (B : Addr → Prop) (H : Hp) (e : Exc) (cv : Value) (dx : Option Addr) : Prop :=
  ∃ C, cls e.cls = some C ∧ cv = .ref C ∧ (match e.fs with
    | [] => dx = none
    | fs => ∃ d vs, dx = some d ∧ H d = some (.xd vs) ∧ ¬ B d ∧ vs.map (·.1) = fs.map (·.1) ∧ RTs K B H (vs.map (·.2)) (fs.map (·.2)))
theorem ExK.weak {K : PySem.W.Frag} {cls : Str → Option Addr} {B B' : Addr → Prop} {H : Hp} {e : Exc} {cv : Value} {dx : Option Addr} (k : ∀ a, B' a → B a) (h : ExK K cls B H e cv dx) : ExK K cls B' H e cv dx := by
  obtain ⟨C, h1, h2, h3⟩ := h
  refine ⟨C, h1, h2, ?_⟩
  split at h3
  · exact h3
  · obtain ⟨d, vs, e1, e2, e3, e4, e5⟩ := h3
    exact ⟨d, vs, e1, e2, fun w => e3 (k _ w), e4, RTs.weak k _ _ e5⟩
structure CalX (P : Program) (w : World) (K : PySem.W.Frag) (mg : Str → Option Value) (base : Heap) (k : Nat) (x : Str) (ps : List Str) (sp : Sp) : Prop where
  ex : ∃ f fd, FnOk P w K mg base (L2.CX P w) k f fd ps sp ∧ mg x = some (.ref f) ∧ PySem.W.keepIn K (.ref f) = true ∧ Binds K fd ps []
section
variable {P : Program} {w : World} {K : PySem.W.Frag} {mg : Str → Option Value} {base : Heap}
end
structure QEx (X : Cx) (W : WX) (e : Expr) (t : TE) (m : ME) : Prop where
  pe : PE X e t
  sim : ∀ G : Gx, G.K = X.K → G.cls = clsOf X.mg → G.W = W → SimE G t m
structure QAx (X : Cx) (W : WX) (es : List Expr) (t : TA) (m : MA) : Prop where
  pa : PA X es t
  sim : ∀ G : Gx, G.K = X.K → G.cls = clsOf X.mg → G.W = W → SimA G t m
structure QSx (X : Cx) (W : WX) (s : Stmt) (t : TS) (m : MS) : Prop where
  ps : PS X s t
  sim : ∀ G : Gx, G.K = X.K → G.cls = clsOf X.mg → G.W = W → SimS G t m
structure QSsx (X : Cx) (W : WX) (s : List Stmt) (t : TS) (m : MS) : Prop where
  pss : PSs X s t
  sim : ∀ G : Gx, G.K = X.K → G.cls = clsOf X.mg → G.W = W → SimS G t m
section
variable {X : Cx} {W : WX}
theorem QE.x {e : Expr} {t : TE} {m : ME} (h : QE X e t m) : QEx X W e t m := ⟨h.pe, fun G hG _ _ => h.sim G hG⟩
theorem QA.x {e : List Expr} {t : TA} {m : MA} (h : QA X e t m) : QAx X W e t m := ⟨h.pa, fun G hG _ _ => h.sim G hG⟩
theorem QS.x {s : Stmt} {t : TS} {m : MS} (h : QS X s t m) : QSx X W s t m := ⟨h.ps, fun G hG _ _ => h.sim G hG⟩
theorem QSs.x {s : List Stmt} {t : TS} {m : MS} (h : QSs X s t m) : QSsx X W s t m := ⟨h.pss, fun G hG _ _ => h.sim G hG⟩
end
def fCallX (k : Nat) (m : List PyData → Rp) (us : List U) (st : Sto) : Res U := match ctrees st us with
  | some ds => if ds.length = k ∧ us.any isRef = false then (match m ds with
    | .ok d _ => .ok (.d d) st
    | .ex e => .ex e st
    | .no => .no) else .no
  | none => .no
def eCallX (k : Nat) (m : List PyData → Rp) (a : MA) : ME := fun l st => (a l st).bind (fCallX k m)
def fCallX0 (k : Nat) (m : List PyData → Rp) (us : List U) (st : Sto) : Res U := match ctrees st us with
  | some ds => if ds.length = k ∧ us.any isRef = false then (match m ds with
    | .ok d _ => .ok (.d d) st
    | _ => .no) else .no
  | none => .no
def eCallX0 (k : Nat) (m : List PyData → Rp) (a : MA) : ME := fun l st => (a l st).bind (fCallX0 k m)
theorem ExK.fut {G : Gx} {β : List Addr} {st : Sto} {H : Hp} {cls : Str → Option Addr} {e : Exc} {cv : Value} {dx : Option Addr} (h : ExK G.K cls (Ban G β st) H e cv dx) : ExK G.K cls (Ban G β st) H e cv dx := h
section
variable {X : Cx} {W : WX} {e c : Expr} {es : List Expr} {pos p : Pos} {tA : TA} {mA : MA} {te : TE} {me : ME} {s : Stmt} {rest x y body : List Stmt} {ts us : TS} {m n : MS}
end
end NW
namespace NW
open PySem PySem.Spec PyProof.Rows L2
section
variable {X : Cx} {W : WX} {e c tg : Expr} {es : List Expr} {pos p p2 : Pos} {tA : TA} {mA : MA} {te : TE} {me : ME} {s : Stmt} {rest x y body : List Stmt} {ts us : TS} {m n : MS}
end
def spInit (K : PySem.W.Frag) (C : Addr) (f : Str) : Sp := fun vs H Q _ => ∃ (a : Addr) (y : V), vs = [.ref a, y] ∧ H a = some (exo a C none) ∧ ∀ dx, H dx = none → dx ≠ a → Q .non (upd (upd H dx (exd dx [(f, y)])) a (exo a C (some dx)))
theorem initT {K : PySem.W.Frag} {C : Addr} {f n1 n2 : Str} {vs : List V} {H : Hp} {Q : VK} {E : XK} (T : OexC K C) (hno : PySem.W.findIn K (.ref C) f = some none) (h : spInit K C f vs H Q E) : tOst K f (tVar 0) (tVar 1) { nx := fun _ H' => Q .non H', rt := Q } (L2.start [n1, n2] vs) H := by
  obtain ⟨a, y, rfl, ha, q⟩ := h
  exact ⟨_, rfl, _, rfl, a, C, rfl, T, hno, .inl ⟨ha, fun dx hd hn => q dx hd hn⟩⟩
structure Cls1 (P : Program) (w : World) (K : PySem.W.Frag) (mg : Str → Option Value) (base : Heap) (x f : Str) : Prop where
  ex : ∃ (C fI : Addr) (fd : FuncData) (ps : List Str), mg x = some (.ref C) ∧ OexC K C ∧ PySem.W.findIn K (.ref C) "__init__" = some (some (.ref fI)) ∧ PySem.W.typeIn K (.ref fI) = some (.type "function") ∧ FnOk P w K mg base CX0 1 fI fd ps (spInit K C f) ∧ Binds K fd ps []
def cA (mg : Str → Option Value) (x : Str) : Addr := (clsOf mg x).getD 0
theorem cA_of {mg : Str → Option Value} {x : Str} {C : Addr} (h : mg x = some (.ref C)) : cA mg x = C := by unfold cA; rw [clsOf_of h]; rfl
def tMk1 (K : PySem.W.Frag) (mg : Str → Option Value) (x f : Str) (te : TE) : L2.St → Hp → XK → Prop := tMkO (cA mg x) (spInit K (cA mg x) f) [] (tCons te tNil)
theorem del_end {H1 : Hp} {a d C : Addr} {f : Str} {y : V} (ha : H1 a = none) (hd : upd H1 a (exo a C none) d = none) (hn : d ≠ a) :
    upd (del (upd (upd (upd H1 a (exo a C none)) d (exd d [(f, y)])) a (exo a C (some d))) a) d (.xd [(f, y)]) = upd H1 d (.xd [(f, y)]) := by
  funext b
  by_cases hb : b = d
  · subst hb; rw [upd_same, upd_same]
  · rw [upd_ne hb, upd_ne hb]
    by_cases hc : b = a
    · subst hc; rw [del_same, ha]
    · rw [del_ne hc, upd_ne hc, upd_ne hb, upd_ne hc]
section
variable {X : Cx} {W : WX} {e : Expr} {pos p p2 : Pos} {te : TE} {me : ME} {x f : Str}
theorem pmk_1 {j : Nat} (C : Cls1 X.prog X.w X.K X.mg X.base x f) (hr : Room j X.A) (hj : 2 ≤ j) (he : PE X e te) (hg : Gl X x := by rfl) (hdb : (x == ("__debug__" : Str)) = false := by decide)
    (hs : starEach (e :: []) X.env = (false, eval e X.env) :: starEach [] X.env := by rfl) (hpl : (backTo p2 (starEach [] X.env)).any (·.1) = false := by rfl) :
    PMk X (.Call (.Name x p) [e] [] p2) (tMk1 X.K X.mg x f te) := by
  obtain ⟨C, fI, fd, ps, hm, T, iC, tI, F, hb⟩ := C.ex
  unfold tMk1
  rw [cA_of hm]
  exact pmk_oex (CX := CX0) (k := 1) T iC tI F (hr.mono hj) hb .nil pass0 hg hm (pa_cons he pa_nil hs) hdb hs hpl
end
end NW
namespace NW
open PySem PySem.Spec PyProof.Rows L2
section
variable {G : Gx} {β : List Addr} {H : Hp} {st : Sto} {σ : L2.St} {l : Loc}
def numOk (i : Int) : Bool := decide (i.natAbs.log2 < 1920)
def numT (i : Int) : Str := toString i
def cStrI : List U → Sto → Res U := fun us st => match us with
  | [.d (.int i)] => if numOk i = true then .ok (.d (.str (numT i))) st else .no
  | _ => .no
def cIntS : List U → Sto → Res U := fun us st => match us with
  | [.d (.str a)] => (match PySem.intText? a with
    | some n => if a.length ≤ 640 then .ok (.d (.int n)) st else .no
    | none => .no)
  | _ => .no
def eFmt (m : ME) : ME := fun l st => (m l st).bind fun u st => match u with
  | .d (.str y) => if lenOk y.length = true then .ok (.d (.str y)) st else .no
  | .d (.int i) => if numOk i = true then .ok (.d (.str (numT i))) st else .no
  | _ => .no
def eJs : List ME → Str → ME
  | [], acc => fun _ st => .ok (.d (.str acc)) st
  | m :: ms, acc => fun l st => (m l st).bind fun u st => match u with
    | .d (.str y) => if lenOk (acc ++ y).length = true then eJs ms (acc ++ y) l st else .no
    | _ => .no
def fStarts : U → U → Sto → Res U := fun a b st => match a, b with
  | .d (.str x), .d (.str y) => .ok (.d (.bool (Txt.startswith x y))) st
  | _, _ => .no
def partD (x y : Str) : PyData := .tuple [.str (Txt.partition x y).1, .str (Txt.partition x y).2.1, .str (Txt.partition x y).2.2]
def fPart : U → U → Sto → Res U := fun a b st => match a, b with
  | .d (.str x), .d (.str y) => if (y.length == 0) = false ∧ lenOk x.length = true then .ok (.d (partD x y)) st else .no
  | _, _ => .no
def splitD (x y : Str) : List PyData := (Txt.split x y).map PyData.str
def fSplit : U → U → Sto → Res U := fun a b st => match a, b with
  | .d (.str x), .d (.str y) => if (y.length == 0) = false ∧ x.length + 2 ≤ 16777216 then .ok (.d (.list (splitD x y))) st else .no
  | _, _ => .no
def fIndex : U → U → Sto → Res U := fun a b st => match a, b with
  | .d (.str x), .d (.str y) => (match Txt.index0 x y with
    | some k => .ok (.d (.int (k : Nat))) st
    | none => .no)
  | _, _ => .no
def oneS : Str → Option Nat := fun x => match x.cps.toList with
  | [c] => some c
  | _ => none
def fInS (neg : Bool) : U → U → Sto → Res U := fun a b st => match a, b with
  | .d (.str x), .d (.str z) => (match oneS x with
    | some c => .ok (.d (.bool (if neg then !decide (c ∈ z.cps.toList) else decide (c ∈ z.cps.toList)))) st
    | none => .no)
  | _, _ => .no
def signsD (x : Str) : List PyData := x.cps.toList.map fun c => .str ⟨#[c]⟩
def mStr (m : ME) : MI := fun l st => (m l st).bind fun u st => match u with
  | .d (.str x) => .ok ⟨signsD x, []⟩ st
  | _ => .no
def mRevR (m : ME) : MI := fun l st => (m l st).bind fun u st => match u with
  | .d (.int n) => if rOk n = true then .ok ⟨rangeD (((n.toNat : Nat) : Int) - 1) (-1) n.toNat, []⟩ st else .no
  | _ => .no
end
section
variable {X : Cx} {o e a b : Expr} {to te ta tb : TE} {mo me ma mb : ME} {apos pos p : Pos} {tA : TA} {mA : MA} {tg : Expr}
structure QJ (X : Cx) (es : List Expr) (ts : List TE) (ms : List ME) : Prop where
  pj : PJ X es ts
  sim : ∀ G : Gx, G.K = X.K → Paired (fun t m => SimE G t m) ts ms
end
section
variable {st : Sto} {Q : U → Sto → Prop} {l : Loc}
@[simp] theorem to_cStrI {i : Int} : (cStrI [.d (.int i)] st).To Q ↔ numOk i = true ∧ Q (.d (.str (numT i))) st := by
  show (if numOk i = true then Res.ok (U.d (.str (numT i))) st else .no).To Q ↔ _
  by_cases h : numOk i = true <;> simp [h]
@[simp] theorem to_cIntS {a : Str} : (cIntS [.d (.str a)] st).To Q ↔ ∃ n, PySem.intText? a = some n ∧ a.length ≤ 640 ∧ Q (.d (.int n)) st := by
  show (match PySem.intText? a with | some n => if a.length ≤ 640 then Res.ok (U.d (.int n)) st else .no | none => .no).To Q ↔ _
  cases PySem.intText? a with
  | none => simp
  | some n => by_cases h : a.length ≤ 640 <;> simp [h]
@[simp] theorem to_starts {x y : Str} : (fStarts (.d (.str x)) (.d (.str y)) st).To Q ↔ Q (.d (.bool (Txt.startswith x y))) st := Iff.rfl
@[simp] theorem to_part {x y : Str} : (fPart (.d (.str x)) (.d (.str y)) st).To Q ↔ ((y.length == 0) = false ∧ lenOk x.length = true) ∧ Q (.d (partD x y)) st := by
  show (if (y.length == 0) = false ∧ lenOk x.length = true then Res.ok (U.d (partD x y)) st else .no).To Q ↔ _
  by_cases h : (y.length == 0) = false ∧ lenOk x.length = true <;> simp [h]
@[simp] theorem to_split {x y : Str} : (fSplit (.d (.str x)) (.d (.str y)) st).To Q ↔ ((y.length == 0) = false ∧ x.length + 2 ≤ 16777216) ∧ Q (.d (.list (splitD x y))) st := by
  show (if (y.length == 0) = false ∧ x.length + 2 ≤ 16777216 then Res.ok (U.d (.list (splitD x y))) st else .no).To Q ↔ _
  by_cases h : (y.length == 0) = false ∧ x.length + 2 ≤ 16777216 <;> simp [h]
@[simp] theorem to_index {x y : Str} : (fIndex (.d (.str x)) (.d (.str y)) st).To Q ↔ ∃ k, Txt.index0 x y = some k ∧ Q (.d (.int (k : Nat))) st := by
  show (match Txt.index0 x y with | some k => Res.ok (U.d (.int (k : Nat))) st | none => .no).To Q ↔ _
  cases Txt.index0 x y <;> simp
@[simp] theorem to_inS {x z : Str} {neg : Bool} : (fInS neg (.d (.str x)) (.d (.str z)) st).To Q ↔ ∃ c, oneS x = some c ∧ Q (.d (.bool (if neg then !decide (c ∈ z.cps.toList) else decide (c ∈ z.cps.toList)))) st := by
  show (match oneS x with | some c => Res.ok (U.d (.bool (if neg then !decide (c ∈ z.cps.toList) else decide (c ∈ z.cps.toList)))) st | none => .no).To Q ↔ _
  cases oneS x <;> simp
@[simp] theorem to_mStr {m : ME} {Q : ItD → Sto → Prop} : (mStr m l st).To Q ↔ (m l st).To fun u s => ∃ x, u = .d (.str x) ∧ Q ⟨signsD x, []⟩ s := by
  unfold mStr
  rw [to_bind]
  refine iff_of_eq (congrArg _ (funext fun u => funext fun s => propext ?_))
  split
  · simp
  · rename_i h
    simp
    intro x hx
    exact (h x hx).elim
@[simp] theorem to_mRevR {m : ME} {Q : ItD → Sto → Prop} : (mRevR m l st).To Q ↔ (m l st).To fun u s => ∃ n : Int, u = .d (.int n) ∧ rOk n = true ∧ Q ⟨rangeD (((n.toNat : Nat) : Int) - 1) (-1) n.toNat, []⟩ s := by
  unfold mRevR
  rw [to_bind]
  refine iff_of_eq (congrArg _ (funext fun u => funext fun s => propext ?_))
  split
  · rename_i n
    by_cases h : rOk n = true <;> simp [h]
  · rename_i h
    simp
    intro x hx
    exact (h x hx).elim
@[simp] theorem to_eFmt {m : ME} : (eFmt m l st).To Q ↔ (m l st).To fun u s => (∃ y, u = .d (.str y) ∧ y.length ≤ 16777216 ∧ Q (.d (.str y)) s) ∨ ∃ i, u = .d (.int i) ∧ numOk i = true ∧ Q (.d (.str (numT i))) s := by
  unfold eFmt
  rw [to_bind]
  refine iff_of_eq (congrArg _ (funext fun u => funext fun s => propext ?_))
  split
  · rename_i y
    have e : lenOk y.length = true ↔ y.length ≤ 16777216 := by simp
    by_cases h : y.length ≤ 16777216 <;> simp [h]
  · rename_i i
    by_cases h : numOk i = true <;> simp [h]
  · rename_i h1 h2
    simp
    exact ⟨fun x hx => (h1 x hx).elim, fun x hx => (h2 x hx).elim⟩
@[simp] theorem to_js0 {acc : Str} : (eJs [] acc l st).To Q ↔ Q (.d (.str acc)) st := Iff.rfl
@[simp] theorem to_js1 {m : ME} {ms : List ME} {acc : Str} : (eJs (m :: ms) acc l st).To Q ↔ (m l st).To fun u s => ∃ y, u = .d (.str y) ∧ (acc ++ y).length ≤ 16777216 ∧ (eJs ms (acc ++ y) l s).To Q := by
  show ((m l st).bind _).To Q ↔ _
  rw [to_bind]
  refine iff_of_eq (congrArg _ (funext fun u => funext fun s => propext ?_))
  split
  · rename_i y
    have e : lenOk (acc ++ y).length = true ↔ (acc ++ y).length ≤ 16777216 := by simp
    by_cases h : (acc ++ y).length ≤ 16777216 <;> simp [h]
  · rename_i h
    simp
    intro x hx
    exact (h x hx).elim
end
end NW
namespace NW
open PySem PySem.Spec PyProof.Rows L2
section
variable {X : Cx} {x n y : Str} {c : Value} {i j : Nat} {body rest : List Stmt} {np np2 yp ap pos pos' : Pos} {tb : WX → TS} {t0 : TS} {t1 : Addr → Value → Option Addr → TS} {Wout : WX}
end
end NW
namespace NW
open PySem PySem.Spec PyProof.Rows L2
def xdAt (d : Option Addr) (H : Hp) : Prop := match d with
  | none => True
  | some dd => ∃ fs, H dd = some (.xd fs)
section
variable {X : Cx} {a D : Addr} {oe : Obj} {pn : List (Addr × Obj)} {d : Option Addr}
end
end NW
namespace NW
open PySem PySem.Spec PyProof.Rows L2
def sTryO (sub : Str → Bool) (mb ms : MS) : MS := fun l st => match mb l st with
  | .ex e l' st' => if sub e.cls = true then ms l' st' else .no
  | o => o
def Gx.wc (G : Gx) (W : WX) (c : Str → Option Addr) : Gx := { G with W := W, cls := c }
section
variable {G : Gx} {W : WX} {c : Str → Option Addr} {β β' : List Addr} {st st' : Sto} {H H' : Hp} {σ : L2.St} {l : Loc}
theorem Fut.wc (f : Fut G β st H β' st' H') : Fut (G.wc W c) β st H β' st' H' := ⟨f.ext, f.there, f.stay⟩
theorem Fut.unwc (f : Fut (G.wc W c) β st H β' st' H') : Fut G β st H β' st' H' := ⟨f.ext, f.there, f.stay⟩
theorem Rl.wc (h : Rl G β H st) : Rl (G.wc W c) β H st := ⟨h.len, h.nodup, h.trk, h.oo, fun f e => ⟨⟨(h.flo f e).1.here, (h.flo f e).1.cl⟩, (h.flo f e).2⟩, h.o0⟩
theorem Rl.unwc (h : Rl (G.wc W c) β H st) : Rl G β H st := ⟨h.len, h.nodup, h.trk, h.oo, fun f e => ⟨⟨(h.flo f e).1.here, (h.flo f e).1.cl⟩, (h.flo f e).2⟩, h.o0⟩
theorem ru_wc {B : Addr → Prop} {v : V} {u : U} : RU (G.wc W c) β B H v u ↔ RU G β B H v u := by cases u <;> exact Iff.rfl
theorem Re.wc (h : Re G β H σ l st) : Re (G.wc W c) β H σ l st := ⟨h.rl.wc, ⟨h.lo.len, fun i u e => by
  obtain ⟨v, h1, h2⟩ := h.lo.at_ i u e
  exact ⟨v, h1, ru_wc.mpr h2⟩⟩⟩
theorem Re.unwc (h : Re (G.wc W c) β H σ l st) : Re G β H σ l st := ⟨h.rl.unwc, ⟨h.lo.len, fun i u e => by
  obtain ⟨v, h1, h2⟩ := h.lo.at_ i u e
  exact ⟨v, h1, ru_wc.mp h2⟩⟩⟩
end
section
variable {X : Cx} {e : Expr} {es : List Expr} {tA : TA} {mA : MA} {x y f : Str} {cv : Value} {np py p p2 p3 pos pos' : Pos} {b₀ : Stmt} {suite : List Stmt} {ts : TS} {ms : MS}
end
@[simp] theorem to_tryO {sub : Str → Bool} {mb ms : MS} {l : Loc} {st : Sto} {N : Loc → Sto → Prop} {R : U → Sto → Prop} (h : ∀ e l' s', mb l st ≠ .ex e l' s') : (sTryO sub mb ms l st).To N R ↔ (mb l st).To N R := by
  unfold sTryO
  split
  · rename_i e l' s' he; exact (h e l' s' he).elim
  · exact Iff.rfl
end NW
namespace NW
open PySem PySem.Spec PyProof.Rows L2
structure Exm (K : PySem.W.Frag) (mg : Str → Option Value) (x y : Str) : Prop where
  ex : ∃ C D, mg x = some (.ref C) ∧ mg y = some (.ref D) ∧ PySem.W.exmOne K (.ref C) (.ref D) = some true
theorem Exm.names {X : Cx} {x y : Str} (e : Exm X.K X.mg x y) (hg : Gl X y := by rfl) (hd : (y == ("__debug__" : Str)) = false := by decide) : Names X y (.ref (cA X.mg y)) := by
  obtain ⟨C, D, _, h, _⟩ := e.ex
  rw [cA_of h]
  exact ⟨hg, hd, .inl h⟩
theorem Exm.sub {K : PySem.W.Frag} {mg : Str → Option Value} {x y : Str} (e : Exm K mg x y) : ∀ z C, (z == x) = true → clsOf mg z = some C → PySem.W.exmOne K (.ref C) (.ref (cA mg y)) = some true := fun z C hz hC => by
  obtain ⟨C', D, h1, h2, h3⟩ := e.ex
  rw [eq_of_beq hz, clsOf_of h1] at hC
  cases hC
  rw [cA_of h2]
  exact h3
theorem cls1_mk {P : Program} {w : World} {K : PySem.W.Frag} {mg : Str → Option Value} {base : Heap} {x f : Str} {C fI : Addr} {fd : FuncData} {ps : List Str} (hm : mg x = some (.ref C)) (T : OexC K C) (iC : PySem.W.findIn K (.ref C) "__init__" = some (some (.ref fI))) (tI : PySem.W.typeIn K (.ref fI) = some (.type "function"))
    (F : FnOk P w K mg base CX0 1 fI fd ps (spInit K C f)) (hb : Binds K fd ps []) : Cls1 P w K mg base x f := ⟨C, fI, fd, ps, hm, T, iC, tI, F, hb⟩
def clsBody : Stmt → List Stmt
  | .ClassDef _ _ _ b _ _ _ _ _ _ _ => b
  | _ => []
structure Cls0 (K : PySem.W.Frag) (mg : Str → Option Value) (x : Str) : Prop where
  ex : ∃ (C : Addr), mg x = some (.ref C) ∧ PySem.W.excIn K C [.type "ValueError", .type "Exception", .type "BaseException", .type "object"] "ValueError.__new__" = true ∧ PySem.W.keepIn K (.ref C) = true ∧ PySem.W.subIn K (.ref C) (.type "BaseException") = some true ∧ PySem.W.typeIn K (.ref C) = some (.type "type")
section
variable {X : Cx} {W : WX} {pos p p2 : Pos} {x : Str}
theorem pmk_0 (C : Cls0 X.K X.mg x) (hg : Gl X x := by rfl) (hdb : (x == ("__debug__" : Str)) = false := by decide) :
    PMk X (.Call (.Name x p) [] [] p2) (fun _ H Q => Q (.ref (cA X.mg x)) none H) := by
  obtain ⟨C, hm, q, kC, eC, tC⟩ := C.ex
  rw [cA_of hm]
  intro pins s σ H Q I h
  refine wpAny_Call_Name_kw (ld_glob I hg hm ?_ hdb)
  refine PySem.W.callWith_K0 I.kIn kC ?_
  obtain ⟨bm, N, nm, qn, bs, hdct, sn, sub, ab, col, dd, k0, k1, k2, k3, k5, mN, hC, hN, hni, T⟩ := exc_obj I.kIn q
  refine wpAny_call_exc_subT PySem.F.excBase_ValueError T hC hN hni (fun h' e hm2 => ?_) (by show 0 ≤ sizeLine; omega)
  exact mk_of I hm2 (raises_own eC tC) h (I.hok.gone hm2.new)
end
end NW
namespace NW
open PySem PySem.Spec PyProof.Rows L2
def pLoop : List (Int × List Str) → Int → List Str → List Str → List (Int × List Str)
  | xs, s, ws, [] => xs ++ [(s, ws)]
  | xs, s, ws, p :: ps => if p = "+" ∨ p = "-" then pLoop (xs ++ [(s, ws)]) (if p = "-" then -1 else 1) [] ps else pLoop xs s (ws ++ [p]) ps
def partsOf (t : Str) : List (Int × List Str) := if Txt.startswith t "-" = true then pLoop [] (-1) [] (Txt.split (cutS t (some 1) none) " ") else pLoop [] 1 [] (Txt.split t " ")
structure Cel where
  t : Addr
  l : Addr
  s : Int
  ws : List Str
structure PH (H0 H : Hp) (p q : Addr) (parts : List Str) (cs : List Cel) : Prop where
  old : ∀ b o, H0 b = some o → H b = some o
  lst : H p = some (.lst (cs.map fun c => V.ref c.t))
  ok : ∀ c, c ∈ cs → H c.t = some (.tup [.int c.s, .ref c.l]) ∧ H c.l = some (.lst (c.ws.map V.str)) ∧ H0 c.t = none ∧ H0 c.l = none ∧ c.l ≠ p ∧ c.l ≠ q
  nd : (cs.map (·.l)).Nodup
  new : H0 p = none
  hq : H q = some (.lst (parts.map V.str))
  nq : q ≠ p
section
variable {H0 H : Hp} {p q : Addr} {parts : List Str} {cs : List Cel}
theorem PH.add (h : PH H0 H p q parts cs) {a : Addr} {o : HO} (ha : H a = none) : PH H0 (upd H a o) p q parts cs where
  old := fun b u e => by rw [upd_ne (ne_of_none (h.old b u e) ha)]; exact h.old b u e
  lst := by rw [upd_ne (ne_of_none h.lst ha)]; exact h.lst
  ok := fun c hc => by
    obtain ⟨h1, h2, h3⟩ := h.ok c hc
    exact ⟨by rw [upd_ne (ne_of_none h1 ha)]; exact h1, by rw [upd_ne (ne_of_none h2 ha)]; exact h2, h3⟩
  nd := h.nd
  new := h.new
  hq := by rw [upd_ne (ne_of_none h.hq ha)]; exact h.hq
  nq := h.nq
theorem PH.fresh (h : PH H0 H p q parts cs) {a : Addr} (ha : H a = none) : H0 a = none := by
  cases e : H0 a with
  | none => rfl
  | some o => rw [h.old a o e] at ha; cases ha
theorem PH.push (h : PH H0 H p q parts cs) {l t : Addr} {s : Int} (hl : H l = some (.lst [])) (ht : H t = some (.tup [.int s, .ref l])) (nl : H0 l = none) (nt : H0 t = none) (lp : l ≠ p) (lq : l ≠ q) (ln : l ∉ cs.map (·.l)) (tp : t ≠ p) :
    PH H0 (upd H p (.lst ((cs.map fun c => V.ref c.t) ++ [.ref t]))) p q parts (cs ++ [⟨t, l, s, []⟩]) where
  old := fun b u e => by rw [upd_ne (fun z => by rw [z, h.new] at e; cases e)]; exact h.old b u e
  lst := by rw [upd_same]; simp
  ok := fun c hc => by
    rcases List.mem_append.mp hc with hc | hc
    · obtain ⟨h1, h2, h3, h4, h5, h6⟩ := h.ok c hc
      have tp' : c.t ≠ p := fun z => by rw [z, h.lst] at h1; cases h1
      exact ⟨by rw [upd_ne tp']; exact h1, by rw [upd_ne h5]; exact h2, h3, h4, h5, h6⟩
    · have : c = ⟨t, l, s, []⟩ := by simpa using hc
      subst this
      exact ⟨by rw [upd_ne tp]; exact ht, by rw [upd_ne lp]; exact hl, nt, nl, lp, lq⟩
  nd := by
    rw [List.map_append, List.nodup_append]
    refine ⟨h.nd, by simp, fun a ha b hb e => ?_⟩
    have : b = l := by simpa using hb
    subst e this
    exact ln ha
  new := h.new
  hq := by rw [upd_ne h.nq]; exact h.hq
  nq := h.nq
theorem PH.grow {c : Cel} (h : PH H0 H p q parts (cs ++ [c])) (w : Str) : PH H0 (upd H c.l (.lst (c.ws.map V.str ++ [.str w]))) p q parts (cs ++ [⟨c.t, c.l, c.s, c.ws ++ [w]⟩]) where
  old := fun b u e => by
    have n := (h.ok c (by simp)).2.2.2.1
    rw [upd_ne (fun z => by rw [z, n] at e; cases e)]; exact h.old b u e
  lst := by
    have n := (h.ok c (by simp)).2.2.2.2.1
    rw [upd_ne (Ne.symm n), h.lst]
    simp
  ok := fun d hd => by
    obtain ⟨k1, k2, k3, k4, k5, k6⟩ := h.ok c (by simp)
    have nt : ∀ {a : Addr} {xs : List V}, H a = some (.tup xs) → a ≠ c.l := fun e z => by rw [z, k2] at e; cases e
    rcases List.mem_append.mp hd with hd | hd
    · obtain ⟨h1, h2, h3, h4, h5, h6⟩ := h.ok d (List.mem_append_left _ hd)
      have ne : d.l ≠ c.l := fun z => by
        have := h.nd
        rw [List.map_append, List.nodup_append] at this
        exact this.2.2 d.l (List.mem_map.mpr ⟨d, hd, rfl⟩) c.l (by simp) z
      exact ⟨by rw [upd_ne (nt h1)]; exact h1, by rw [upd_ne ne]; exact h2, h3, h4, h5, h6⟩
    · have : d = ⟨c.t, c.l, c.s, c.ws ++ [w]⟩ := by simpa using hd
      subst this
      exact ⟨by rw [upd_ne (nt k1)]; exact k1, by rw [upd_same]; simp, k3, k4, k5, k6⟩
  nd := by simpa using h.nd
  new := h.new
  hq := by
    have n := (h.ok c (by simp)).2.2.2.2.2
    rw [upd_ne (Ne.symm n)]; exact h.hq
  nq := h.nq
end
theorem str_sh {x : Str} (h : PyData.strOk x = true) : SeqAt.shaped (.str x) = true := by
  unfold SeqAt.shaped
  rw [show (PyData.str x).canLay0 = true from h]
  simp [PyData.depth]
end NW
namespace NW
open PySem PySem.Spec PyProof.Rows L2
theorem strOk_iff {x : Str} : PyData.strOk x = true ↔ ∀ c, c ∈ TL.tl x → c < 0x110000 := by
  unfold PyData.strOk TL.tl
  rw [← Array.all_toList, List.all_eq_true]
  exact ⟨fun h c hc => of_decide_eq_true (h c hc), fun h c hc => decide_eq_true (h c hc)⟩
end NW
namespace NW
open PySem PySem.Spec PyProof.Rows L2
def eOrT (a b : ME) : ME := fun l st => (a l st).bind fun u st => match truD st u with
  | some k => if k = true then .ok u st else b l st
  | none => .no
section
variable {X : Cx} {a b : Expr} {es : List Expr} {ta tb : TE} {ma mb : ME} {pos : Pos}
end
@[simp] theorem to_eOrT {a b : ME} {l : Loc} {st : Sto} {Q : U → Sto → Prop} : (eOrT a b l st).To Q ↔ (a l st).To fun u s => ∃ c, truD s u = some c ∧ if c = true then Q u s else (b l s).To Q := by
  unfold eOrT
  rw [to_bind]
  refine iff_of_eq (congrArg _ (funext fun u => funext fun s => propext ?_))
  cases truD s u with
  | none => simp
  | some c => cases c <;> simp
end NW
namespace NW
open PySem PySem.Spec PyProof.Rows L2
section
variable {X : Cx} {e : Expr} {es : List Expr} {tA : TA} {mA : MA} {x y f nm fld : Str} {cv : Value} {C : Addr} {np py p p2 p3 ap ap2 np2 pos pos' : Pos}
end
structure ExAt (K : PySem.W.Frag) (mg : Str → Option Value) (x fld : Str) : Prop where
  ex : ∃ C, mg x = some (.ref C) ∧ XfC K C ∧ PySem.W.findIn K (.ref C) fld = some none ∧ PySem.W.exmOne K (.ref C) (.ref C) = some true
section
variable {K : PySem.W.Frag} {mg : Str → Option Value} {x fld : Str}
theorem ExAt.names {X : Cx} {x fld : Str} (e : ExAt X.K X.mg x fld) (hg : Gl X x := by rfl) (hd : (x == ("__debug__" : Str)) = false := by decide) : Names X x (.ref (cA X.mg x)) := by
  obtain ⟨C, h, _⟩ := e.ex
  rw [cA_of h]
  exact ⟨hg, hd, .inl h⟩
theorem ExAt.T (e : ExAt K mg x fld) : XfC K (cA mg x) := by
  obtain ⟨C, h, t, _⟩ := e.ex
  rw [cA_of h]
  exact t
theorem ExAt.no (e : ExAt K mg x fld) : PySem.W.findIn K (.ref (cA mg x)) fld = some none := by
  obtain ⟨C, h, _, t, _⟩ := e.ex
  rw [cA_of h]
  exact t
theorem ExAt.sub (e : ExAt K mg x fld) : ∀ z D, (z == x) = true → clsOf mg z = some D → D = cA mg x ∧ PySem.W.exmOne K (.ref D) (.ref (cA mg x)) = some true := fun z D hz hD => by
  obtain ⟨C, h, _, _, t⟩ := e.ex
  rw [eq_of_beq hz, clsOf_of h] at hD
  cases hD
  rw [cA_of h]
  exact ⟨rfl, t⟩
end
end NW
namespace NW
open PySem PySem.Spec PyProof.Rows L2
section
variable {X : Cx} {CX : CXT} {k i : Nat} {f : Addr} {fd : FuncData} {ps : List Str} {sp : Sp} {E : L2.St → XK} {x : Str} {p pos : Pos} {e : Expr} {es : List Expr} {t : TA}
end
section
variable {X : Cx} {a : Addr} {cls : Value} {oe : Obj} {pn : List (Addr × Obj)} {d : Option Addr}
end
structure AskK (K : PySem.W.Frag) (mg : Str → Option Value) : Prop where
  ex : ∃ B N NN NR TG TW : Addr, mg "BadText" = some (.ref B) ∧ mg "NestError" = some (.ref N) ∧ mg "NoName" = some (.ref NN) ∧ mg "NoRow" = some (.ref NR) ∧ mg "TooGreat" = some (.ref TG) ∧ mg "Twice" = some (.ref TW) ∧
    ExcC K B ∧ XfC K B ∧ PySem.W.findIn K (.ref B) "at" = some none ∧ PySem.W.exmOne K (.ref B) (.ref N) = some true ∧ PySem.W.kitOne K (.ref B) (.type "ValueError") = some true ∧
    PySem.W.kitOne K (.ref B) (.ref NN) = some false ∧ PySem.W.kitOne K (.ref B) (.ref NR) = some false ∧ PySem.W.kitOne K (.ref B) (.ref TG) = some false ∧ PySem.W.kitOne K (.ref B) (.ref TW) = some false
theorem kit_ref {K : PySem.W.Frag} {C : Addr} {t : Value} {b : Bool} (hd : PySem.W.hasDictIn K C = true) (tc : PySem.W.typeIn K (.ref C) = some (.type "type")) (s : PySem.W.subIn K t (.ref C) = some b) (ne : t ≠ .ref C) : PySem.W.kitOne K t (.ref C) = some b := by
  obtain ⟨cd, hc, _⟩ := PySem.W.any_some hd
  have e2 : ((PySem.W.clsIn K C).isSome && PySem.W.typeIn K (.ref C) == some (.type "type")) = true := by rw [hc, tc] <;> rfl
  unfold PySem.W.kitOne
  rw [if_neg (by simpa using ne)]
  show (if ((PySem.W.clsIn K C).isSome && PySem.W.typeIn K (.ref C) == some (.type "type")) = true then PySem.W.subIn K t (.ref C) else none) = some b
  rw [if_pos e2]
  exact s
theorem kit_self {K : PySem.W.Frag} {t : Value} : PySem.W.kitOne K t t = some true := by
  unfold PySem.W.kitOne
  rw [if_pos (by simp)]
theorem kit_typ {K : PySem.W.Frag} {C : Addr} {b : Bool} (s : PySem.W.subIn K (.ref C) (.type "ValueError") = some b) : PySem.W.kitOne K (.ref C) (.type "ValueError") = some b := by
  unfold PySem.W.kitOne
  rw [if_neg (by simp)]
  show (if PySem.W.kitMeta "ValueError" = true then PySem.W.subIn K (.ref C) (.type "ValueError") else none) = some b
  rw [if_pos (by decide +kernel)]
  exact s
theorem xdAt_grow {d : Option Addr} {H H' : Hp} (k : ∀ b o, H b = some o → H' b = some o) (h : xdAt d H) : xdAt d H' := by
  cases d with
  | none => trivial
  | some dd => obtain ⟨fs, e⟩ := h; exact ⟨fs, k _ _ e⟩
theorem upd_grow {H : Hp} {p : Addr} {o : HO} (hp : H p = none) : ∀ b u, H b = some u → upd H p o b = some u := fun b u e => by rw [upd_ne (ne_of_none e hp)]; exact e
section
variable {X : Cx} {e : Expr} {es : List Expr} {tA : TA} {mA : MA} {p p2 pos : Pos}
end
theorem CalX.at {P : Program} {w : World} {K : PySem.W.Frag} {mg : Str → Option Value} {base : Heap} {k : Nat} {x : Str} {ps : List Str} {sp : Sp} (C : CalX P w K mg base k x ps sp) : mg x = some (.ref (cA mg x)) := by
  obtain ⟨f, fd, _, hm, _⟩ := C.ex
  rw [cA_of hm]
  exact hm
def lSplit (o a : ME) : ML := fun l st => (o l st).bind fun u st => if isStr u = true then (a l st).bind fun w st => (match u, w with
  | .d (.str x), .d (.str y) => if (y.length == 0) = false ∧ x.length + 2 ≤ 16777216 then .ok (splitD x y) st else .no
  | _, _ => .no) else .no
@[simp] theorem to_lSplit {o a : ME} {l : Loc} {st : Sto} {Q : List PyData → Sto → Prop} : (lSplit o a l st).To Q ↔ (o l st).To fun u s => isStr u = true ∧ (a l s).To fun w s => ∃ x y, u = .d (.str x) ∧ w = .d (.str y) ∧ ((y.length == 0) = false ∧ x.length + 2 ≤ 16777216) ∧ Q (splitD x y) s := by
  unfold lSplit
  rw [to_bind]
  refine iff_of_eq (congrArg _ (funext fun u => funext fun s => propext ?_))
  by_cases hu : isStr u = true
  · rw [if_pos hu, to_bind]
    refine Iff.trans ?_ ⟨fun h => ⟨hu, h⟩, fun h => h.2⟩
    refine iff_of_eq (congrArg _ (funext fun w => funext fun s => propext ?_))
    constructor
    · intro h
      split at h
      · split at h
        · rename_i hk
          exact ⟨_, _, rfl, rfl, hk, h⟩
        · exact h.elim
      · exact h.elim
    · rintro ⟨x, y, rfl, rfl, hk, h⟩
      show (if (y.length == 0) = false ∧ x.length + 2 ≤ 16777216 then Res.ok (splitD x y) s else .no).To Q
      rw [if_pos hk]
      exact h
  · rw [if_neg hu]
    exact ⟨fun h => h.elim, fun h => absurd h.1 hu⟩
end NW
namespace NW
open PySem PySem.Spec PyProof.Rows L2
def exV (cls : Value) (d : Option Addr) (a : Addr) : HO := .ext fun h => ∃ (oe : Obj) (vs : Array Value), h.get? a = some oe ∧ Zc cls d oe ∧ oe.data = .fields vs
theorem exV_ok {P : Program} {w : World} {H : Hp} {h : Heap} {a : Addr} {cls : Value} {d : Option Addr} {oe : Obj} {vs : Array Value} (e : h.get? a = some oe) (z : Zc cls d oe) (q : oe.data = .fields vs) : ObjOk P w H h a (exV cls d a) :=
  ⟨⟨oe, vs, e, z, q⟩, ⟨oe, e⟩, fun _ _ ⟨o, v, q, r⟩ k => ⟨o, v, k o q, r⟩⟩
def tMkV (t : L2.St → Hp → XK → Prop) : TE := fun σ H Q => t σ H fun cls d H' => ∀ a, H' a = none → Q (.ref a) (upd H' a (exV cls d a))
section
variable {X : Cx} {e : Expr} {t : L2.St → Hp → XK → Prop}
theorem pe_mkV (h : PMk X e t) : PE X e (tMkV t) := by
  refine ⟨fun pins s σ H Q I q => ?_⟩
  refine wpAny_mono (h pins s σ H _ I q) (fun u s' hu => ?_) fun _ _ x => x
  obtain ⟨a, oe, vs, sI, H', cls, d, rfl, J, k, hne, ha, hz, hd, h1, na, os, ag, r, q1⟩ := hu
  have I2 := J.laidN (h' := s'.heap) (t' := s'.toks) k hne na (exV_ok ha hz hd)
  refine ⟨.ref a, upd H' a (exV cls d a), ⟨I2.ok, by rw [os]; exact J.os, ag, I2.base, I2.loc, I2.cell, I2.free, I2.freeC, I2.pin, I2.hok, I2.len⟩, rfl, q1 a na⟩
theorem held_inst {pins : List (Addr × Obj)} {s : Shared} {σ : L2.St} {H : Hp} {a D : Addr} {d : Option Addr} (I : Inv X pins σ H s) (ha : H a = some (exV (.ref D) d a)) (hd : xdAt d H) : ∃ oe od, PySem.W.InstAt s.heap a oe D od := by
  obtain ⟨⟨oe, vs, hget, hz, hv⟩, _, _⟩ := (show ObjOk X.prog X.w H s.heap a (exV (.ref D) d a) from I.hok a _ ha)
  obtain ⟨oc, odt, oda, osl⟩ := oe
  obtain ⟨h1, h2⟩ := hz
  dsimp only at h1 h2 hv
  subst h1 h2 hv
  cases odt with
  | none => exact ⟨_, none, hget, rfl, rfl, trivial⟩
  | some dd =>
    obtain ⟨fs, hfs⟩ := hd
    obtain ⟨mA, hns, hr⟩ := (show ObjOk X.prog X.w H s.heap dd (.xd fs) from I.hok dd _ hfs)
    obtain ⟨od, ho, hl⟩ := lookIn_ns hns
    exact ⟨_, some od, hget, rfl, rfl, ho⟩
def rIsV (K : PySem.W.Frag) : List V → Hp → VK → Prop := fun xs H Q => ∃ (a D : Addr) (d : Option Addr) (c : V) (cv : Value) (b : Bool), xs = [.ref a, c] ∧ H a = some (exV (.ref D) d a) ∧ xdAt d H ∧ ExcC K D ∧ (∀ u, RelV c u → u = cv) ∧ PySem.W.kitOne K (.ref D) cv = some b ∧ Q (.bl b) H
theorem call_isV : CallR X (.builtin "isinstance") (rIsV X.K) := by
  intro pins s σ H xs us Q I r h
  obtain ⟨a, D, d, c, cv, b, rfl, ha, hd, C, hcv, e, q⟩ := h
  cases r with
  | cons rx rr =>
    cases rr with
    | cons rt rr =>
      cases rr
      cases rx
      have ec := hcv _ rt
      subst ec
      obtain ⟨oe, od, J⟩ := held_inst I ha hd
      obtain ⟨cd, hc, _⟩ := PySem.W.any_some C.hd
      exact PySem.W.kia_one (PySem.W.kitx_exc (od := od) (ox := oe) (by rw [hc]; rfl) C.hg C.hk C.hs C.ha C.hn C.ht C.hm) I.kIn J e (fun z => nomatch z) fun tk => ⟨.bl b, H, I.tok tk, rfl, q⟩
def tXV (K : PySem.W.Frag) (n : Str) (te : TE) : TE := fun σ H Q => te σ H fun x H1 => ∃ (a D dd : Addr) (fs : List (Str × V)) (v : V), x = .ref a ∧ H1 a = some (exV (.ref D) (some dd) a) ∧ H1 dd = some (.xd fs) ∧ XfC K D ∧ PySem.W.findIn K (.ref D) n = some none ∧ fs.lookup n = some v ∧ Q v H1
theorem pe_xV {te : TE} {pos : Pos} {n : Str} (he : PE X e te) (hb : attributeBase e n X.env (eval e X.env) = eval e X.env := by rfl) : PE X (.Attribute e n pos) (tXV X.K n te) := by
  refine ⟨fun pins s σ H Q I h => ?_⟩
  refine attr_of hb (thn (he.run pins s σ H _ I h) fun u s1 hh => ?_)
  obtain ⟨x, H1, I1, rx, a, D, dd, fs, v, ex, ha, ea, T, hno, l, q⟩ := hh
  subst ex
  obtain rfl : u = Value.ref a := rx
  obtain ⟨⟨oe, vs, hget, hz, hd⟩, _, _⟩ := (show ObjOk X.prog X.w H1 s1.heap a (exV (.ref D) (some dd) a) from I1.hok a _ ha)
  have hx : ObjOk X.prog X.w H1 s1.heap dd (.xd fs) := I1.hok dd _ ea
  obtain ⟨mA, hns, hr⟩ := hx
  obtain ⟨od, ho, hl⟩ := lookIn_ns hns
  obtain ⟨u, hu, ru⟩ := RelO.some_of (v := v) (o := mA n) (by rw [← l]; exact hr n)
  have J : PySem.W.InstAt s1.heap a oe D (some od) := ⟨hget, hz.1, by unfold PySem.W.notCls; rw [hd] <;> rfl, by rw [hz.2]; exact ho⟩
  exact HandSPX.exc_get I1.kIn J T.ga T.gg T.exC (PySem.W.findObj_own T.hdC hno rfl (by rw [hl, hu])) (handed_of ru) ⟨v, H1, I1.tok _, ru, q⟩
end
def isC (K : PySem.W.Frag) (C : Nat → Addr) (N : Addr) : Prop := ∀ i, i < 5 → ExcC K (C i) ∧ PySem.W.kitOne K (.ref (C i)) (.ref N) = some true ∧ PySem.W.kitOne K (.ref (C i)) (.type "ValueError") = some true ∧ ∀ j, j < 5 → PySem.W.kitOne K (.ref (C i)) (.ref (C j)) = some (decide (i = j))
def bls (i : Nat) : List V := [.bl (decide (i = 0)), .bl (decide (i = 1)), .bl (decide (i = 2)), .bl (decide (i = 3)), .bl (decide (i = 4))]
def blD (i : Nat) : List PyData := [.bool (decide (i = 0)), .bool (decide (i = 1)), .bool (decide (i = 2)), .bool (decide (i = 3)), .bool (decide (i = 4))]
def spKinds (C : Nat → Addr) : Sp := fun vs H Q _ => ∃ (a : Addr) (d : Option Addr) (i : Nat), i < 5 ∧ vs = [.ref a] ∧ H a = some (exV (.ref (C i)) d a) ∧ xdAt d H ∧ ∀ p H', (∀ b o, H b = some o → H' b = some o) → H' p = some (.lst (bls i)) → Q (.ref p) H'
def tI (K : PySem.W.Frag) (C : Nat → Addr) (j : Nat) : TE := tCB (rIsV K) (tCons (tVar 0) (tCons (tC (.ref (C j))) tNil))
def tKinds (K : PySem.W.Frag) (C : Nat → Addr) : TS := tSeq (tAsg (tLst (tCons (tI K C 0) (tCons (tI K C 1) (tCons (tI K C 2) tNil)))) (gName 1)) (tRet (tOp rCat (tVar 1) (tLst (tCons (tI K C 3) (tCons (tI K C 4) tNil)))))
theorem kinds_read {K : PySem.W.Frag} {C : Nat → Addr} {N : Addr} (T : isC K C N) {n0 n1 : Str} {vs : List V} {H : Hp} {Q : VK} {E : XK} (h : spKinds C vs H Q E) : tKinds K C { nx := fun _ H' => Q .non H', rt := Q } (L2.start [n0, n1] vs) H := by
  obtain ⟨a, d, i, hi, rfl, ha, hd, q⟩ := h
  obtain ⟨c1, _, _, c2⟩ := T i hi
  have one : ∀ {σ : L2.St} {H' : Hp} {R : VK} (j : Nat), j < 5 → σ[0]? = some (some (.ref a)) → (∀ b o, H b = some o → H' b = some o) → R (.bl (decide (i = j))) H' → tI K C j σ H' R := fun {σ H' R} j hj hσ k r =>
    ⟨.ref a, hσ, a, C i, d, .ref (C j), .ref (C j), _, rfl, k _ _ ha, xdAt_grow k hd, c1, fun u hu => hu, c2 j hj, r⟩
  refine one 0 (by omega) rfl (fun _ _ e => e) ?_
  refine one 1 (by omega) rfl (fun _ _ e => e) ?_
  refine one 2 (by omega) rfl (fun _ _ e => e) ?_
  refine ⟨by rw [sizeLine_eq]; exact (by decide : 3 ≤ 16777216), fun p hp => ?_⟩
  refine ⟨_, rfl, ?_⟩
  refine one 3 (by omega) rfl (upd_grow hp) ?_
  refine one 4 (by omega) rfl (upd_grow hp) ?_
  refine ⟨by rw [sizeLine_eq]; exact (by decide : 2 ≤ 16777216), fun p2 hp2 => ?_⟩
  refine ⟨p, p2, _, _, rfl, rfl, upd_grow hp2 _ _ upd_same, upd_same, by rw [sizeLine_eq]; exact (by decide : 5 ≤ 16777216), fun p3 hp3 => ?_⟩
  exact q p3 _ (fun b o e => upd_grow hp3 _ _ (upd_grow hp2 _ _ (upd_grow hp _ _ e))) upd_same
def isX (mg : Str → Option Value) (H : Hp) (a : Addr) (x f : Str) (v : V) : Prop := ∃ dd, H a = some (exV (.ref (cA mg x)) (some dd) a) ∧ H dd = some (.xd [(f, v)])
theorem isX.grow {mg : Str → Option Value} {H H' : Hp} {a : Addr} {x f : Str} {v : V} (k : ∀ b o, H b = some o → H' b = some o) (h : isX mg H a x f v) : isX mg H' a x f v := by
  obtain ⟨dd, h1, h2⟩ := h
  exact ⟨dd, k _ _ h1, k _ _ h2⟩
theorem mkV1 {K : PySem.W.Frag} {mg : Str → Option Value} {x f : Str} {σ : L2.St} {H : Hp} {i : Nat} {v : V} {R : VK} (hσ : σ[i]? = some (some v)) (hq : ∀ a H', (∀ b o, H b = some o → H' b = some o) → isX mg H' a x f v → R (.ref a) H') : tMkV (tMk1 K mg x f (tVar i)) σ H R := by
  refine ⟨v, hσ, ?_⟩
  show [v].length ≤ 1000 ∧ _
  refine ⟨by simp, fun a ha => ?_⟩
  refine ⟨a, v, rfl, upd_same, fun dx hd hn => ⟨rfl, dx, [(f, v)], upd_same, ?_, ?_, ?_⟩⟩
  · rw [upd_ne hn, upd_same]
  · rw [upd_ne hn] at hd; exact hd
  · rw [del_end ha hd hn]
    have hd' : H dx = none := by rw [upd_ne hn] at hd; exact hd
    intro b hb
    exact hq b _ (fun c o e => upd_grow hb _ _ (upd_grow hd' _ _ e)) ⟨dx, upd_same, upd_grow hb _ _ upd_same⟩
theorem mkV0 {mg : Str → Option Value} {x : Str} {σ : L2.St} {H : Hp} {R : VK} (hq : ∀ a H', (∀ b o, H b = some o → H' b = some o) → H' a = some (exV (.ref (cA mg x)) none a) → R (.ref a) H') : tMkV (fun _ H Q => Q (.ref (cA mg x)) none H) σ H R := fun a ha => hq a _ (upd_grow ha) upd_same
def c8 (mg : Str → Option Value) : Nat → Addr
  | 0 => cA mg "BadText" | 1 => cA mg "NoName" | 2 => cA mg "Twice" | 3 => cA mg "TooGreat" | _ => cA mg "NoRow"
def Five (mg : Str → Option Value) (v0 v1 : V) (L : Addr) (H : Hp) : Prop := ∃ a0 a1 a2 a3 a4 : Addr, H L = some (.lst [.ref a0, .ref a1, .ref a2, .ref a3, .ref a4]) ∧ isX mg H a0 "BadText" "at" v0 ∧ isX mg H a1 "NoName" "name" v1 ∧ isX mg H a2 "Twice" "name" v1 ∧ isX mg H a3 "TooGreat" "name" v1 ∧ H a4 = some (exV (.ref (cA mg "NoRow")) none a4)
theorem Five.grow {mg : Str → Option Value} {v0 v1 : V} {L : Addr} {H H' : Hp} (k : ∀ b o, H b = some o → H' b = some o) (h : Five mg v0 v1 L H) : Five mg v0 v1 L H' := by
  obtain ⟨a0, a1, a2, a3, a4, h1, h2, h3, h4, h5, h6⟩ := h
  exact ⟨a0, a1, a2, a3, a4, k _ _ h1, h2.grow k, h3.grow k, h4.grow k, h5.grow k, k _ _ h6⟩
theorem Five.at_ {mg : Str → Option Value} {v0 v1 : V} {L : Addr} {H : Hp} (h : Five mg v0 v1 L H) {K : PySem.W.Frag} {i : Nat} (hi : i < 5) : ∃ (a : Addr) (d : Option Addr), (∀ Q : VK, Q (.ref a) H → rIx K (.ref L) (.int i) H Q) ∧ H a = some (exV (.ref (c8 mg i)) d a) ∧ xdAt d H := by
  obtain ⟨a0, a1, a2, a3, a4, h1, ⟨d0, h2, e2⟩, ⟨d1, h3, e3⟩, ⟨d2, h4, e4⟩, ⟨d3, h5, e5⟩, h6⟩ := h
  have ix : ∀ (j : Nat) (a : Addr), [V.ref a0, .ref a1, .ref a2, .ref a3, .ref a4][j]? = some (.ref a) → ∀ Q : VK, Q (.ref a) H → rIx K (.ref L) (.int j) H Q := fun j a e Q q => by
    have hj : j < 5 := (List.getElem?_eq_some_iff.mp e).1
    refine .inl ⟨L, _, j, .ref a, rfl, rfl, .inl (.inl h1), ?_, q⟩
    unfold atI ixN
    rw [if_pos (by omega), if_pos (show (j : Int) < ([V.ref a0, .ref a1, .ref a2, .ref a3, .ref a4].length : Nat) from by show (j : Int) < ((5 : Nat) : Int); omega)]
    exact e
  match i, hi with
  | 0, _ => exact ⟨a0, some d0, ix 0 a0 rfl, h2, _, e2⟩
  | 1, _ => exact ⟨a1, some d1, ix 1 a1 rfl, h3, _, e3⟩
  | 2, _ => exact ⟨a2, some d2, ix 2 a2 rfl, h4, _, e4⟩
  | 3, _ => exact ⟨a3, some d3, ix 3 a3 rfl, h5, _, e5⟩
  | 4, _ => exact ⟨a4, none, ix 4 a4 rfl, h6, trivial⟩
def tIx2 (K : PySem.W.Frag) (te : TE) : TE := tOp (rIx K) (tVar 2) te
def tIsF (K : PySem.W.Frag) (te : TE) (c : V) : TT := fun σ H Q => tCB (rIsV K) (tCons te (tCons (tC c) tNil)) σ H fun x H' => ∃ k, TruV K x H' k ∧ Q k H'
def tFiveBody (K : PySem.W.Frag) (mg : Str → Option Value) (N : Addr) (teC : TE) : TS :=
  tSeq (tIfS (tOr (tNot (tIsF K (tIx2 K (tVar 3)) (.ref N))) (tNot (tIsF K (tIx2 K (tVar 3)) (.ty "ValueError")))) (tRet (tC (.bl false))) tNext)
    (tIfS (tTest (tOp (rNeD K) (tCall (spKinds (c8 mg)) [] E0 (tCons (tIx2 K (tVar 3)) tNil)) teC)) (tRet (tC (.bl false))) tNext)
def tFive (K : PySem.W.Frag) (mg : Str → Option Value) (N : Addr) (teC : TE) (m : List PyData → Rp) : TS :=
  tSeq (tAsg (tLst (tCons (tMkV (tMk1 K mg "BadText" "at" (tVar 0))) (tCons (tMkV (tMk1 K mg "NoName" "name" (tVar 1))) (tCons (tMkV (tMk1 K mg "Twice" "name" (tVar 1))) (tCons (tMkV (tMk1 K mg "TooGreat" "name" (tVar 1))) (tCons (tMkV (fun _ H Q => Q (.ref (cA mg "NoRow")) none H)) tNil)))))) (gName 2))
  (tSeq (tFor (iRng1 (tCons (tC (.int 5)) tNil)) (gName 3) (tFiveBody K mg N teC))
    (tRet (tCall (spP K 2 m) [] E0 (tCons (tLst (tCons (tXV K "at" (tIx2 K (tC (.int 0)))) (tCons (tXV K "name" (tIx2 K (tC (.int 1)))) (tCons (tXV K "name" (tIx2 K (tC (.int 2)))) (tCons (tXV K "name" (tIx2 K (tC (.int 3)))) tNil))))) (tCons (tLst (tCons (tVar 0) (tCons (tVar 1) (tCons (tVar 1) (tCons (tVar 1) tNil))))) tNil)))))
structure Fac8 (K : PySem.W.Frag) (mg : Str → Option Value) (N : Addr) : Prop where
  isc : isC K (c8 mg) N
  x0 : XfC K (cA mg "BadText") ∧ PySem.W.findIn K (.ref (cA mg "BadText")) "at" = some none
  x1 : XfC K (cA mg "NoName") ∧ PySem.W.findIn K (.ref (cA mg "NoName")) "name" = some none
  x2 : XfC K (cA mg "Twice") ∧ PySem.W.findIn K (.ref (cA mg "Twice")) "name" = some none
  x3 : XfC K (cA mg "TooGreat") ∧ PySem.W.findIn K (.ref (cA mg "TooGreat")) "name" = some none
noncomputable def meC : ME := eFrz (lLc (mR1 (aCons (eC (.int 5)) aNil)) [4] (gNameM 4) bYes (eOp (opEq false) (eVar 4) (eVar 3)))
theorem meC_run {i : Nat} {st : Sto} : ∃ r, meC [none, none, none, some (.d (.int i)), none] st = r ∧ r.To fun u s => u = .d (.list (blD i)) ∧ s = st := by
  refine ⟨_, rfl, ?_⟩
  unfold meC
  simp
  refine ⟨by decide, by decide, ?_⟩
  have e : rangeD 0 1 5 = (List.range 5).map fun j : Nat => PyData.int (j : Int) := rfl
  rw [e]
  refine lc_mapA (f := fun j : Nat => PyData.int (j : Int)) (g := fun j : Nat => PyData.bool (decide (i = j))) chk_nil (fun j hj => ?_) ⟨rfl, rfl⟩
  have hd : decide ((j : Int) = (i : Int)) = decide (i = j) := by
    rw [Bool.eq_iff_iff, decide_eq_true_iff, decide_eq_true_iff]
    omega
  simp [wipeL, hd]
def m_right8 (ds : List PyData) : Rp := match ds with
  | [.int _, .str s] => if PyData.strOk s = true then .ok (.bool true) false else .no
  | _ => .no
theorem five_body {K : PySem.W.Frag} {mg : Str → Option Value} {N : Addr} (F : Fac8 K mg N) {teC : TE} (hC : ∀ G : Gx, G.K = K → SimE G teC meC) {σ : L2.St} {H : Hp} {D : Ends} {L : Addr} {v0 v1 : V} {i : Nat} (hi : i < 5) (hl : σ.length = 5) (h2 : σ[2]? = some (some (.ref L))) (h3 : σ[3]? = some (some (.int i))) (h5 : Five mg v0 v1 L H) (q : ∀ H', (∀ b o, H b = some o → H' b = some o) → D.nx σ H') : tFiveBody K mg N teC D σ H := by
  obtain ⟨a, d, hix, ha, hd⟩ := h5.at_ (K := K) hi
  obtain ⟨c1, c2, c3, c4⟩ := F.isc i hi
  have is1 : ∀ {c : V} {cv : Value} {b : Bool} {Q : Bool → Hp → Prop}, (∀ u, RelV c u → u = cv) → PySem.W.kitOne K (.ref (c8 mg i)) cv = some b → Q b H → tIsF K (tIx2 K (tVar 3)) c σ H Q := fun {c cv b Q} h1 h4 q =>
    ⟨_, h2, _, h3, hix _ ⟨a, c8 mg i, d, c, cv, b, rfl, ha, hd, c1, h1, h4, b, rfl, q⟩⟩
  refine is1 (fun u hu => hu) c2 ?_
  refine is1 (fun u hu => hu) c3 ?_
  refine ⟨_, h2, _, h3, hix _ ?_⟩
  refine ⟨a, d, i, hi, rfl, ha, hd, fun p H1 k1 hp => ?_⟩
  have own0 : ∀ b, ¬ Own ⟨K, 0, 0, fun _ => False, fun _ => none, fun _ _ _ _ => False⟩ [] ⟨none, []⟩ b := fun b h => by
    rcases h with ⟨h, _⟩ | ⟨i, xs, h, _⟩
    · cases h
    · simp at h
  have re : Re ⟨K, 0, 0, fun _ => False, fun _ => none, fun _ _ _ _ => False⟩ [] H1 σ [none, none, none, some (.d (.int i)), none] ⟨none, []⟩ := by
    refine ⟨⟨rfl, .nil, fun p hp => by simp at hp, fun i xs h => by simp at h, fun f h => (by cases h), fun p hp => hp.elim⟩, ⟨hl, fun j u e => ?_⟩⟩
    match j, e with
    | 0, e => cases e
    | 1, e => cases e
    | 2, e => cases e
    | 3, e =>
      cases e
      exact ⟨_, h3, .int _⟩
    | 4, e => cases e
    | j + 5, e => simp at e
  refine hC ⟨K, 0, 0, fun _ => False, fun _ => none, fun _ _ _ _ => False⟩ rfl [] H1 σ _ _ re _ ?_
  obtain ⟨r, hr, hr2⟩ := meC_run (i := i) (st := ⟨none, []⟩)
  rw [hr]
  cases r with
  | no => exact hr2.elim
  | ex e s => exact hr2.elim
  | ok u s =>
    obtain ⟨rfl, rfl⟩ := hr2
    intro v H2 β2 f2 rl2 p2
    have k2 : ∀ b o, H1 b = some o → H2 b = some o := fun b o e => (f2.stay b o e (own0 b)).1
    have rb : ∀ {B : Addr → Prop} {H' : Hp} {bs : List Bool}, RTs K B H' (bs.map V.bl) (bs.map PyData.bool) := fun {B H' bs} => by
      induction bs with
      | nil => exact .nil
      | cons b bs ih => exact .cons (.bl b) ih
    have dp1 : Dp K H2 (.ref p) (.list (blD i)) := RT.dp _ _ (.lst (B := fun _ => False) ⟨k2 _ _ hp, fun z => z⟩ (rb (bs := [decide (i = 0), decide (i = 1), decide (i = 2), decide (i = 3), decide (i = 4)])))
    have dp2 : Dp K H2 v (.list (blD i)) := RT.dp _ _ p2
    have hsh : SeqAt.shaped (.list (blD i)) = true := by
      match i, hi with
      | 0, _ => decide +kernel
      | 1, _ => decide +kernel
      | 2, _ => decide +kernel
      | 3, _ => decide +kernel
      | 4, _ => decide +kernel
    refine ⟨_, _, dp1, dp2, hsh, hsh, _, rfl, ?_⟩
    have he : PyData.eqv (.list (blD i)) (.list (blD i)) = true := by
      match i, hi with
      | 0, _ => decide +kernel
      | 1, _ => decide +kernel
      | 2, _ => decide +kernel
      | 3, _ => decide +kernel
      | 4, _ => decide +kernel
    rw [he]
    exact q H2 fun b o e => k2 _ _ (k1 _ _ e)
theorem alike8 {d : PyData} {m : List PyData → Rp} (hm : (m [d, d]).To fun x => x = .bool true) : ∃ fr, m [d, d] = .ok (.bool true) fr := by
  cases e : m [d, d] with
  | ok x fr => rw [e] at hm; cases (show x = .bool true from hm); exact ⟨fr, rfl⟩
  | ex _ => rw [e] at hm; exact hm.elim
  | no => rw [e] at hm; exact hm.elim
theorem five_read {K : PySem.W.Frag} {mg : Str → Option Value} {N : Addr} (F : Fac8 K mg N) {teC : TE} (hC : ∀ G : Gx, G.K = K → SimE G teC meC) {m : List PyData → Rp} (hm : ∀ (i : Int) (s : Str), PyData.strOk s = true → (m [.list [.int i, .str s, .str s, .str s], .list [.int i, .str s, .str s, .str s]]).To fun x => x = .bool true)
    {n0 n1 n2 n3 n4 : Str} {vs : List V} {H : Hp} {Q : VK} {E : XK} (h : spP K 2 m_right8 vs H Q E) : tFive K mg N teC m { nx := fun _ H' => Q .non H', rt := Q } (L2.start [n0, n1, n2, n3, n4] vs) H := by
  obtain ⟨O0, ds, d, fr, hO, r, hl, e, q⟩ := h
  unfold m_right8 at e
  split at e
  · rename_i i s
    split at e
    · rename_i hs
      cases e
      cases r with
      | cons r1 r2 =>
      cases r2 with
      | cons r2 r3 =>
      cases r3
      cases r1
      cases r2
      unfold tFive tSeq tAsg tLst tCons
      dsimp only
      trace_state
      show tMkV (tMk1 K mg "BadText" "at" (tVar 0)) [some (V.int i), some (V.str s), none, none, none] H _
      refine mkV1 (v := .int i) rfl fun a0 H1 k1 x0 => ?_
      show tMkV (tMk1 K mg "NoName" "name" (tVar 1)) [some (V.int i), some (V.str s), none, none, none] H1 _
      refine mkV1 (v := .str s) rfl fun a1 H2 k2 x1 => ?_
      show tMkV (tMk1 K mg "Twice" "name" (tVar 1)) [some (V.int i), some (V.str s), none, none, none] H2 _
      refine mkV1 (v := .str s) rfl fun a2 H3 k3 x2 => ?_
      show tMkV (tMk1 K mg "TooGreat" "name" (tVar 1)) [some (V.int i), some (V.str s), none, none, none] H3 _
      refine mkV1 (v := .str s) rfl fun a3 H4 k4 x3 => ?_
      refine mkV0 fun a4 H5 k5 x4 => ?_
      refine ⟨by rw [sizeLine_eq]; exact (by decide : 5 ≤ 16777216), fun L hL => ?_⟩
      have k15 : ∀ b o, H b = some o → H5 b = some o := fun b o e => k5 _ _ (k4 _ _ (k3 _ _ (k2 _ _ (k1 _ _ e))))
      have five : Five mg (.int i) (.str s) L (upd H5 L (.lst [.ref a0, .ref a1, .ref a2, .ref a3, .ref a4])) := by
        refine ⟨a0, a1, a2, a3, a4, upd_same, ?_, ?_, ?_, ?_, upd_grow hL _ _ x4⟩
        · exact x0.grow fun b o e => upd_grow hL _ _ (k5 _ _ (k4 _ _ (k3 _ _ (k2 _ _ e))))
        · exact x1.grow fun b o e => upd_grow hL _ _ (k5 _ _ (k4 _ _ (k3 _ _ e)))
        · exact x2.grow fun b o e => upd_grow hL _ _ (k5 _ _ (k4 _ _ e))
        · exact x3.grow fun b o e => upd_grow hL _ _ (k5 _ _ e)
      have k0 : ∀ b o, H b = some o → upd H5 L (.lst [.ref a0, .ref a1, .ref a2, .ref a3, .ref a4]) b = some o := fun b o e => upd_grow hL _ _ (k15 _ _ e)
      generalize upd H5 L (.lst [.ref a0, .ref a1, .ref a2, .ref a3, .ref a4]) = H6 at five k0
      refine ⟨5, rfl, by decide, by decide, ?_⟩
      refine for_range (fun j σ H' => (∃ w u, σ = [some (.int i), some (.str s), some (.ref L), w, u]) ∧ (∀ b o, H6 b = some o → H' b = some o)) ⟨⟨none, none, rfl⟩, fun _ _ e => e⟩ ?_ ?_
      · rintro j σ H' hj ⟨⟨w, u, rfl⟩, k7⟩
        refine five_body F hC (i := j) hj rfl rfl (by show some (some (V.int (0 + (j : Int)))) = _; rw [Int.zero_add]) (five.grow k7) fun H8 k8 => ?_
        exact ⟨⟨_, _, rfl⟩, fun b o e => k8 _ _ (k7 _ _ e)⟩
      · rintro σ H' ⟨⟨w, u, rfl⟩, k7⟩
        have f7 := five.grow k7
        obtain ⟨b0, b1, b2, b3, b4, g, ⟨d0, y0, z0⟩, ⟨d1, y1, z1⟩, ⟨d2, y2, z2⟩, ⟨d3, y3, z3⟩, _⟩ := f7
        have ix : ∀ (j : Nat) (a : Addr), j < 5 → [V.ref b0, .ref b1, .ref b2, .ref b3, .ref b4][j]? = some (.ref a) → ∀ Q : VK, Q (.ref a) H' → rIx K (.ref L) (.int j) H' Q := fun j a hj e Q q => by
          refine .inl ⟨L, _, j, .ref a, rfl, rfl, .inl (.inl g), ?_, q⟩
          unfold atI ixN
          rw [if_pos (by omega), if_pos (show (j : Int) < ([V.ref b0, .ref b1, .ref b2, .ref b3, .ref b4].length : Nat) from by show (j : Int) < ((5 : Nat) : Int); omega)]
          exact e
        refine ⟨_, rfl, ix 0 b0 (by omega) rfl _ ⟨b0, _, d0, _, .int i, rfl, y0, z0, F.x0.1, F.x0.2, rfl, ?_⟩⟩
        refine ⟨_, rfl, ix 1 b1 (by omega) rfl _ ⟨b1, _, d1, _, .str s, rfl, y1, z1, F.x1.1, F.x1.2, rfl, ?_⟩⟩
        refine ⟨_, rfl, ix 2 b2 (by omega) rfl _ ⟨b2, _, d2, _, .str s, rfl, y2, z2, F.x2.1, F.x2.2, rfl, ?_⟩⟩
        refine ⟨_, rfl, ix 3 b3 (by omega) rfl _ ⟨b3, _, d3, _, .str s, rfl, y3, z3, F.x3.1, F.x3.2, rfl, ?_⟩⟩
        refine ⟨by rw [sizeLine_eq]; exact (by decide : 4 ≤ 16777216), fun p hp => ?_⟩
        refine ⟨_, rfl, _, rfl, _, rfl, _, rfl, ?_⟩
        refine ⟨by rw [sizeLine_eq]; exact (by decide : 4 ≤ 16777216), fun p2 hp2 => ?_⟩
        have rl : ∀ {H9 : Hp}, RTs K (fun _ => False) H9 [V.int i, .str s, .str s, .str s] [.int i, .str s, .str s, .str s] := .cons (.int i) (.cons (.str s) (.cons (.str s) (.cons (.str s) .nil)))
        obtain ⟨fr, he⟩ := alike8 (m := m) (d := .list [.int i, .str s, .str s, .str s]) (hm i s hs)
        refine ⟨fun _ => False, _, .bool true, fr, fun p h => h.elim, .cons (.lst ⟨upd_grow hp2 _ _ upd_same, fun z => z⟩ rl) (.cons (.lst ⟨upd_same, fun z => z⟩ rl) .nil), rfl, he, fun v H9 k9 r9 _ => ?_⟩
        cases r9
        exact q _ H9 (fun b o e => k9 _ _ (upd_grow hp2 _ _ (upd_grow hp _ _ (k7 _ _ (k0 _ _ e))))) (.bl true) (fun z => by cases z)
    · cases e
  · cases e
structure FacK (K : PySem.W.Frag) (mg : Str → Option Value) : Prop where
  ex : ∃ N, mg "NestError" = some (.ref N) ∧ Fac8 K mg N
  m0 : mg "BadText" = some (.ref (cA mg "BadText"))
  m1 : mg "NoName" = some (.ref (cA mg "NoName"))
  m2 : mg "Twice" = some (.ref (cA mg "Twice"))
  m3 : mg "TooGreat" = some (.ref (cA mg "TooGreat"))
  m4 : mg "NoRow" = some (.ref (cA mg "NoRow"))
def tTail8 (K : PySem.W.Frag) (mg : Str → Option Value) (i j : Nat) (te : TE) : TS :=
  tSeq (tPar i j (tCons (tMkV (tMk1 K mg "BadText" "at" te)) (tCons (tMkV (tMk1 K mg "BadText" "at" (tC (.int 9)))) tNil)))
    (tRet (tAndV (tOp (rEqD K) (tXV K "at" (tVar j)) (tC (.int 9))) (tOp (rI0 fun i j => .bl (decide (i < j))) (tXV K "at" (tVar i)) (tC (.int 9)))))
def sTail8 (i j : Nat) (me : ME) : MS := fun l st => if i < l.length ∧ j < l.length then (match me l st with
  | .ok (.d (.int n)) st' => if n < 9 then .rt (.d (.bool true)) st' else .no
  | _ => .no) else .no
theorem s_tail8 {G : Gx} {mg : Str → Option Value} {i j : Nat} {te : TE} {me : ME} (hij : i ≠ j) (T : XfC G.K (cA mg "BadText") ∧ PySem.W.findIn G.K (.ref (cA mg "BadText")) "at" = some none) (he : SimE G te me) : SimS G (tTail8 G.K mg i j te) (sTail8 i j me) := fun β H σ l st re D q => by
  have hl := re.lo.len
  unfold sTail8 at q
  split at q
  · rename_i hij2
    obtain ⟨hi, hj⟩ := hij2
    refine he β H σ l st re _ ?_
    cases e : me l st with
    | no => rw [e] at q; exact q.elim
    | ex x s => rw [e] at q; exact q.elim
    | ok u s =>
      rw [e] at q
      split at q
      · rename_i n st' he2
        cases he2
        split at q
        · rename_i hn9
          intro v H1 β1 f1 rl1 p1
          cases p1
          show [V.int n].length ≤ 1000 ∧ _
          refine ⟨by simp, fun a ha => ?_⟩
          refine ⟨a, .int n, rfl, upd_same, fun dx hd hn => ⟨rfl, dx, [("at", .int n)], upd_same, ?_, ?_, ?_⟩⟩
          · rw [upd_ne hn, upd_same]
          · rw [upd_ne hn] at hd; exact hd
          rw [del_end ha hd hn]
          have hd1 : H1 dx = none := by rw [upd_ne hn] at hd; exact hd
          intro a2 ha2
          show [V.int 9].length ≤ 1000 ∧ _
          refine ⟨by simp, fun b hb => ?_⟩
          refine ⟨b, .int 9, rfl, upd_same, fun dy hd2 hn2 => ⟨rfl, dy, [("at", .int 9)], upd_same, ?_, ?_, ?_⟩⟩
          · rw [upd_ne hn2, upd_same]
          · rw [upd_ne hn2] at hd2; exact hd2
          rw [del_end hb hd2 hn2]
          have hd3 : (upd (upd H1 dx (.xd [("at", .int n)])) a2 (exV (.ref (cA mg "BadText")) (some dx) a2)) dy = none := by rw [upd_ne hn2] at hd2; exact hd2
          intro b2 hb2
          refine ⟨_, _, rfl, ?_⟩
          have g1 : (upd (upd (upd (upd H1 dx (.xd [("at", .int n)])) a2 (exV (.ref (cA mg "BadText")) (some dx) a2)) dy (.xd [("at", .int 9)])) b2 (exV (.ref (cA mg "BadText")) (some dy) b2)) b2 = some (exV (.ref (cA mg "BadText")) (some dy) b2) := upd_same
          have g2 : (upd (upd (upd (upd H1 dx (.xd [("at", .int n)])) a2 (exV (.ref (cA mg "BadText")) (some dx) a2)) dy (.xd [("at", .int 9)])) b2 (exV (.ref (cA mg "BadText")) (some dy) b2)) dy = some (.xd [("at", .int 9)]) := upd_grow hb2 _ _ upd_same
          have g3 : (upd (upd (upd (upd H1 dx (.xd [("at", .int n)])) a2 (exV (.ref (cA mg "BadText")) (some dx) a2)) dy (.xd [("at", .int 9)])) b2 (exV (.ref (cA mg "BadText")) (some dy) b2)) a2 = some (exV (.ref (cA mg "BadText")) (some dx) a2) := upd_grow hb2 _ _ (upd_grow hd3 _ _ upd_same)
          have g4 : (upd (upd (upd (upd H1 dx (.xd [("at", .int n)])) a2 (exV (.ref (cA mg "BadText")) (some dx) a2)) dy (.xd [("at", .int 9)])) b2 (exV (.ref (cA mg "BadText")) (some dy) b2)) dx = some (.xd [("at", .int n)]) := upd_grow hb2 _ _ (upd_grow hd3 _ _ (upd_grow ha2 _ _ upd_same))
          have fu : Fut G β st H β1 s (upd (upd (upd (upd H1 dx (.xd [("at", .int n)])) a2 (exV (.ref (cA mg "BadText")) (some dx) a2)) dy (.xd [("at", .int 9)])) b2 (exV (.ref (cA mg "BadText")) (some dy) b2)) := (((f1.trans (Fut.new hd1)).trans (Fut.new ha2)).trans (Fut.new hd3)).trans (Fut.new hb2)
          have rl : Rl G β1 (upd (upd (upd (upd H1 dx (.xd [("at", .int n)])) a2 (exV (.ref (cA mg "BadText")) (some dx) a2)) dy (.xd [("at", .int 9)])) b2 (exV (.ref (cA mg "BadText")) (some dy) b2)) s := (((rl1.new hd1).new ha2).new hd3).new hb2
          have fin := q (.bl true) _ β1 fu rl (.bl true)
          generalize (upd (upd (upd (upd H1 dx (.xd [("at", .int n)])) a2 (exV (.ref (cA mg "BadText")) (some dx) a2)) dy (.xd [("at", .int 9)])) b2 (exV (.ref (cA mg "BadText")) (some dy) b2)) = H4 at g1 g2 g3 g4 fin
          have s1 : ((σ.set i (some (.ref a2))).set j (some (.ref b2)))[j]? = some (some (.ref b2)) := List.getElem?_set_self (by rw [List.length_set]; omega)
          have s2 : ((σ.set i (some (.ref a2))).set j (some (.ref b2)))[i]? = some (some (.ref a2)) := by
            rw [List.getElem?_set_ne (Ne.symm hij), List.getElem?_set_self (by omega)]
          refine ⟨_, s1, b2, _, dy, _, .int 9, rfl, g1, g2, T.1, T.2, rfl, ?_⟩
          refine ⟨.int 9, .int 9, .int 9, .int 9, rfl, rfl, ?_⟩
          refine ⟨true, by simp, ?_⟩
          rw [if_pos rfl]
          refine ⟨_, s2, a2, _, dx, _, .int n, rfl, g3, g4, T.1, T.2, rfl, ?_⟩
          refine ⟨n, 9, rfl, rfl, ?_⟩
          have e9 : decide (n < 9) = true := decide_eq_true hn9
          show D.rt (.bl (decide (n < 9))) H4
          rw [e9]
          exact fin
        · exact q.elim
      · exact q.elim
  · exact q.elim
end NW
namespace NW
open PySem PySem.Spec PyProof.Rows L2 LiI
noncomputable def b_L_flow : MS :=
    (sRet (eOwn (lDisp (aCons (eFrz (lCB cListOf (aCons (eVar 0) aNil))) (aCons (eC (.int 0)) (aCons (eC (.int 0)) (aCons (eC (.int 1)) (aCons (eC (.int 0)) aNil))))))))
noncomputable def b_L_pick : MS :=
    (sSeq (sIf (bAnd (bTest (eOp (opEq false) (eOp fIx (eVar 0) (eC (.int 2))) (eC (.int 0)))) (bTest (eOp fLt (eOp fIx (eVar 0) (eC (.int 1))) (eCB cLen (aCons (eOp fIx (eVar 0) (eC (.int 0))) aNil)))))
    (sSeq (sAsg 2 (eOp fIx (eOp fIx (eVar 0) (eC (.int 0))) (eOp fIx (eVar 0) (eC (.int 1)))))
    (sSeq (sAsgG (eOp fAddA (eOp fIx (eVar 0) (eC (.int 1))) (eC (.int 1))) (gSubM (eVar 0) (eC (.int 1))))
    (sIf (bTest (eOp fGe (eVar 2) (eOp fPow (eC (.int 10)) (eC (.int 18)))))
    (sAsgG (eVar 2) (gSubM (eVar 0) (eC (.int 2))))
    (sAsgG (eOp fMod (eOp fAddA (eOp fAddA (eOp fMulA (eOp fIx (eVar 0) (eC (.int 3))) (eC (.int 40013))) (eOp fMod (eVar 2) (eC (.int 1000003)))) (eC (.int 1))) (eC (.int 2147483647))) (gSubM (eVar 0) (eC (.int 3)))))))
    sNext)
    (sSeq (sIf (bTest (eOp fGt (eOp fIx (eVar 0) (eC (.int 2))) (eC (.int 0))))
    (sSeq (sAsg 3 (eOp fMod (eOp fIx (eVar 0) (eC (.int 2))) (eVar 1)))
    (sSeq (sAsgG (eOp fDiv (eOp fIx (eVar 0) (eC (.int 2))) (eVar 1)) (gSubM (eVar 0) (eC (.int 2))))
    (sRet (eVar 3))))
    sNext)
    (sSeq (sAsgG (eOp fAddA (eOp fIx (eVar 0) (eC (.int 4))) (eC (.int 1))) (gSubM (eVar 0) (eC (.int 4))))
    (sSeq (sAsgG (eOp fMod (eOp fAddA (eOp fAddA (eOp fMulA (eOp fIx (eVar 0) (eC (.int 3))) (eC (.int 48271))) (eC (.int 12820163))) (eOp fIx (eVar 0) (eC (.int 4)))) (eC (.int 2147483647))) (gSubM (eVar 0) (eC (.int 3))))
    (sRet (eOp fMod (eOp fDiv (eOp fMod (eOp fMulA (eOp fAddA (eOp fMod (eOp fIx (eVar 0) (eC (.int 3))) (eC (.int 65521))) (eC (.int 1))) (eOp fAddA (eOp fDiv (eOp fIx (eVar 0) (eC (.int 3))) (eC (.int 65521))) (eC (.int 7919)))) (eC (.int 1000003))) (eC (.int 7))) (eVar 1)))))))
@[irreducible] noncomputable def m_L_pick : List PyData → Fl → Rf := flowOf 4 b_L_pick
noncomputable def b_L_alike (mm : List PyData → Rp) : MS :=
    (sSeq (sIf (bTru (eIsiT (eVar 1) ["list", "tuple"]))
    (sSeq (sIf (bTest (eOp (opEq true) (eIsi (eVar 0) "list") (eIsi (eVar 1) "list")))
    (sRet (eC (.bool false)))
    sNext)
    (sSeq (sIf (bTest (eOp (opEq true) (eIsi (eVar 0) "tuple") (eIsi (eVar 1) "tuple")))
    (sRet (eC (.bool false)))
    sNext)
    (sRet (eAndV (eOp (opEq false) (eCB cLen (aCons (eVar 0) aNil)) (eCB cLen (aCons (eVar 1) aNil))) (eCB cAll (aCons (eFrz (lLc (mR1 (aCons (eCB cLen (aCons (eVar 1) aNil)) aNil)) (([(("_law_k" : Str), 2)] : List (Str × Nat)).map (·.2)) (gNameM 2) bYes (eCallP 2 mm (aCons (eOp fIx (eVar 0) (eVar 2)) (aCons (eOp fIx (eVar 1) (eVar 2)) aNil))))) aNil))))))
    sNext)
    (sRet (eAndV (eOp (opEq false) (eIsi (eVar 0) "bool") (eIsi (eVar 1) "bool")) (eOp (opEq false) (eVar 0) (eVar 1)))))
noncomputable def r_L_alike : Nat → List PyData → Rp
  | 0 => fun _ => .no
  | n + 1 => pureOf 3 (b_L_alike (r_L_alike n))
@[irreducible] noncomputable def m_L_alike (n : Nat) : List PyData → Rp := r_L_alike n
theorem z_L_alike : m_L_alike 0 = fun _ => .no := by unfold m_L_alike; rfl
theorem s_L_alike {n : Nat} : m_L_alike (n + 1) = pureOf 3 (b_L_alike (m_L_alike n)) := by unfold m_L_alike; rfl
end NW
namespace NW
open PySem PySem.Spec PyProof.Rows L2 LiI
noncomputable def b_law_k08 : MS :=
    (sSeq (sAsg 2 (eC (.str ("abcdefghijklmnopqrstuvwxyz" : Str))))
    (sSeq (sFor (mR1 (aCons (eC (.int 2)) aNil)) (gNameM 3)
    (sSeq (sAsg 4 (eMeth1 fJoin (eC (.str ("" : Str))) (eFrz (lLc (mR1 (aCons (eOp fAddA (eC (.int 1)) (eCallF 2 m_L_pick (aCons (eVar 1) (aCons (eC (.int 6)) aNil)))) aNil)) (([(("_law_j" : Str), 7)] : List (Str × Nat)).map Prod.snd) (gNameM 7) bYes (eOp fIx (eVar 2) (eCallF 2 m_L_pick (aCons (eVar 1) (aCons (eC (.int 26)) aNil))))))))
    (sIf (bNot (bTru (eCallP 2 m_right8 (aCons (eCallF 2 m_L_pick (aCons (eVar 1) (aCons (eC (.int 1000)) aNil))) (aCons (eVar 4) aNil)))))
    (sRet (eC (.bool false)))
    sNext)))
    (sTail8 5 6 (eCallF 2 m_L_pick (aCons (eVar 1) (aCons (eC (.int 9)) aNil))))))
section
variable {K K' : PySem.W.Frag} (m : More K K')
include m
theorem More.nsOk {N : Addr} (e : PySem.W.nsOkIn K N = true) : PySem.W.nsOkIn K' N = true := by
  unfold PySem.W.nsOkIn at e ⊢
  cases q : List.lookup N K with
  | none => simp [q] at e
  | some o => simp only [q] at e; simp only [m N o q]; exact e
theorem More.tail {bmB : List Value} : ∀ {l : List Value}, PySem.W.tailIn K bmB l = true → PySem.W.tailIn K' bmB l = true
  | [], e => e
  | v :: r, e => by
    unfold PySem.W.tailIn at e ⊢
    rcases Bool.or_eq_true_iff.mp e with q | q
    · rw [q]; rfl
    · refine Bool.or_eq_true_iff.mpr (.inr ?_)
      cases v with
      | ref A =>
        dsimp only at q ⊢
        cases ho : List.lookup A K with
        | none => simp [ho] at q
        | some o =>
          rw [ho] at q
          rw [m A o ho]
          obtain ⟨c, d, dat, sl⟩ := o
          cases dat with
          | cls cd =>
            simp only [Bool.and_eq_true, beq_iff_eq] at q ⊢
            exact ⟨⟨m.nsOk q.1.1, m.ns q.1.2⟩, More.tail q.2⟩
          | _ => cases q
      | _ => cases q
theorem More.exc {C : Addr} {bmB : List Value} {n : String} (e : PySem.W.excIn K C bmB n = true) : PySem.W.excIn K' C bmB n = true := by
  unfold PySem.W.excIn at e ⊢
  cases q : List.lookup C K with
  | none => simp [q] at e
  | some o =>
    rw [q] at e
    rw [m C o q]
    split at e
    · rename_i dd cd sl ho
      cases ho
      split at e
      · rename_i C' bm k0 k1 k2 k3 n' k5 hm hs
        simp only [Bool.and_eq_true, beq_iff_eq, Bool.not_eq_true'] at e
        obtain ⟨⟨⟨⟨⟨rfl, rfl⟩, hdel⟩, ht⟩, hok⟩, hni⟩ := e
        rw [m.tail ht, m.nsOk hok, m.ns hni, hdel]
        simp
      · cases e
    · cases e
end
theorem qs_tail8 {X : Cx} {s1 s2 : Stmt} {i j : Nat} {te : TE} {me : ME} (hij : i ≠ j) {e : Expr} (F : FacK X.K X.mg) (hp : PE X e te → PSs X [s1, s2] (tTail8 X.K X.mg i j te)) (he : QE X e te me) : QSs X [s1, s2] (tTail8 X.K X.mg i j te) (sTail8 i j me) :=
  ⟨hp he.pe, fun G hG => by
    obtain ⟨N, hN, F8⟩ := F.ex
    have h := he.sim G hG
    have T := F8.x0
    rw [← hG] at T ⊢
    exact s_tail8 hij T h⟩
theorem simC {G : Gx} : SimE G (tLc (iRng1 (tCons (tC (.int 5)) tNil)) (gName 4) tYes (tOp (rEqD G.K) (tVar 4) (tVar 3)) [4]) meC :=
  s_frz (n_lc (i_r1 (s_cons (s_int 5) s_nil)) (fun D => g_name 4) (by decide) (fun D => fun β H σ l st re Q h => wpR_b re.rl h) (fun D => s_op r_eq (s_var 4) (s_var 3)))
theorem fac_mk {K : PySem.W.Frag} {mg : Str → Option Value} {B M W T R N : Addr} (gB : mg "BadText" = some (.ref B)) (gM : mg "NoName" = some (.ref M)) (gW : mg "Twice" = some (.ref W)) (gT : mg "TooGreat" = some (.ref T)) (gR : mg "NoRow" = some (.ref R)) (gN : mg "NestError" = some (.ref N))
    (e : ExcC K B ∧ ExcC K M ∧ ExcC K W ∧ ExcC K T ∧ ExcC K R)
    (x : (XfC K B ∧ PySem.W.findIn K (.ref B) "at" = some none) ∧ (XfC K M ∧ PySem.W.findIn K (.ref M) "name" = some none) ∧ (XfC K W ∧ PySem.W.findIn K (.ref W) "name" = some none) ∧ (XfC K T ∧ PySem.W.findIn K (.ref T) "name" = some none))
    (n : PySem.W.kitOne K (.ref B) (.ref N) = some true ∧ PySem.W.kitOne K (.ref M) (.ref N) = some true ∧ PySem.W.kitOne K (.ref W) (.ref N) = some true ∧ PySem.W.kitOne K (.ref T) (.ref N) = some true ∧ PySem.W.kitOne K (.ref R) (.ref N) = some true)
    (v : PySem.W.kitOne K (.ref B) (.type "ValueError") = some true ∧ PySem.W.kitOne K (.ref M) (.type "ValueError") = some true ∧ PySem.W.kitOne K (.ref W) (.type "ValueError") = some true ∧ PySem.W.kitOne K (.ref T) (.type "ValueError") = some true ∧ PySem.W.kitOne K (.ref R) (.type "ValueError") = some true)
    (oB : PySem.W.kitOne K (.ref B) (.ref M) = some false ∧ PySem.W.kitOne K (.ref B) (.ref W) = some false ∧ PySem.W.kitOne K (.ref B) (.ref T) = some false ∧ PySem.W.kitOne K (.ref B) (.ref R) = some false)
    (oM : PySem.W.kitOne K (.ref M) (.ref B) = some false ∧ PySem.W.kitOne K (.ref M) (.ref W) = some false ∧ PySem.W.kitOne K (.ref M) (.ref T) = some false ∧ PySem.W.kitOne K (.ref M) (.ref R) = some false)
    (oW : PySem.W.kitOne K (.ref W) (.ref B) = some false ∧ PySem.W.kitOne K (.ref W) (.ref M) = some false ∧ PySem.W.kitOne K (.ref W) (.ref T) = some false ∧ PySem.W.kitOne K (.ref W) (.ref R) = some false)
    (oT : PySem.W.kitOne K (.ref T) (.ref B) = some false ∧ PySem.W.kitOne K (.ref T) (.ref M) = some false ∧ PySem.W.kitOne K (.ref T) (.ref W) = some false ∧ PySem.W.kitOne K (.ref T) (.ref R) = some false)
    (oR : PySem.W.kitOne K (.ref R) (.ref B) = some false ∧ PySem.W.kitOne K (.ref R) (.ref M) = some false ∧ PySem.W.kitOne K (.ref R) (.ref W) = some false ∧ PySem.W.kitOne K (.ref R) (.ref T) = some false) : FacK K mg := by
  have cB := cA_of gB
  have cM := cA_of gM
  have cW := cA_of gW
  have cT := cA_of gT
  have cR := cA_of gR
  have h0 : c8 mg 0 = B := cB
  have h1 : c8 mg 1 = M := cM
  have h2 : c8 mg 2 = W := cW
  have h3 : c8 mg 3 = T := cT
  have h4 : c8 mg 4 = R := cR
  refine ⟨⟨N, gN, ?_, by rw [cB]; exact x.1, by rw [cM]; exact x.2.1, by rw [cW]; exact x.2.2.1, by rw [cT]; exact x.2.2.2⟩, by rw [cB]; exact gB, by rw [cM]; exact gM, by rw [cW]; exact gW, by rw [cT]; exact gT, by rw [cR]; exact gR⟩
  intro i hi
  match i, hi with
  | 0, _ =>
    rw [h0]
    refine ⟨e.1, n.1, v.1, fun j hj => ?_⟩
    match j, hj with
    | 0, _ => rw [h0]; exact kit_self
    | 1, _ => rw [h1]; exact oB.1
    | 2, _ => rw [h2]; exact oB.2.1
    | 3, _ => rw [h3]; exact oB.2.2.1
    | 4, _ => rw [h4]; exact oB.2.2.2
  | 1, _ =>
    rw [h1]
    refine ⟨e.2.1, n.2.1, v.2.1, fun j hj => ?_⟩
    match j, hj with
    | 0, _ => rw [h0]; exact oM.1
    | 1, _ => rw [h1]; exact kit_self
    | 2, _ => rw [h2]; exact oM.2.1
    | 3, _ => rw [h3]; exact oM.2.2.1
    | 4, _ => rw [h4]; exact oM.2.2.2
  | 2, _ =>
    rw [h2]
    refine ⟨e.2.2.1, n.2.2.1, v.2.2.1, fun j hj => ?_⟩
    match j, hj with
    | 0, _ => rw [h0]; exact oW.1
    | 1, _ => rw [h1]; exact oW.2.1
    | 2, _ => rw [h2]; exact kit_self
    | 3, _ => rw [h3]; exact oW.2.2.1
    | 4, _ => rw [h4]; exact oW.2.2.2
  | 3, _ =>
    rw [h3]
    refine ⟨e.2.2.2.1, n.2.2.2.1, v.2.2.2.1, fun j hj => ?_⟩
    match j, hj with
    | 0, _ => rw [h0]; exact oT.1
    | 1, _ => rw [h1]; exact oT.2.1
    | 2, _ => rw [h2]; exact oT.2.2.1
    | 3, _ => rw [h3]; exact kit_self
    | 4, _ => rw [h4]; exact oT.2.2.2
  | 4, _ =>
    rw [h4]
    refine ⟨e.2.2.2.2, n.2.2.2.2, v.2.2.2.2, fun j hj => ?_⟩
    match j, hj with
    | 0, _ => rw [h0]; exact oR.1
    | 1, _ => rw [h1]; exact oR.2.1
    | 2, _ => rw [h2]; exact oR.2.2.1
    | 3, _ => rw [h3]; exact oR.2.2.2
    | 4, _ => rw [h4]; exact kit_self
end NW
namespace NW
open PySem PySem.Spec PyProof.Rows L2
def FlOk (f : Fl) : Prop := 0 ≤ f.held ∧ 0 ≤ f.seed ∧ f.seed < 2147483647 ∧ 0 ≤ f.place
theorem fl0_ok (ns : List Int) : FlOk (fl0 ns) := by unfold FlOk fl0; simp
theorem log2_lt {i : Int} {n : Nat} (h : i.natAbs < 2 ^ n) (h0 : 0 < n) : i.natAbs.log2 < n := by
  by_cases e : i.natAbs = 0
  · rw [e]; simp; exact h0
  · exact (Nat.log2_lt e).mpr h
theorem mulC_of {i j : Int} {a b : Nat} (ha : i.natAbs < 2 ^ a) (hb : j.natAbs < 2 ^ b) (h0 : 0 < a) (h1 : 0 < b) (h : a + b ≤ 1000000) : mulC i j = true := by
  have x := log2_lt ha h0
  have y := log2_lt hb h1
  unfold mulC
  exact decide_eq_true (by omega)
theorem divC_of {i j : Int} {b : Nat} (h : j ≠ 0) (hb : j.natAbs < 2 ^ b) (h0 : 0 < b) (h9 : b ≤ 9000) : divC i j = true := decide_eq_true h
theorem fmod_lt {a b : Int} (h : 0 < b) : 0 ≤ a.fmod b ∧ a.fmod b < b := by
  rw [Int.fmod_eq_emod_of_nonneg a (by omega)]
  exact ⟨Int.emod_nonneg a (by omega), Int.emod_lt_of_pos a h⟩
theorem fdiv_nn {a b : Int} (h0 : 0 ≤ a) (h : 0 < b) : 0 ≤ a.fdiv b := by
  rw [Int.fdiv_eq_ediv_of_nonneg a (by omega)]
  exact Int.ediv_nonneg h0 (by omega)
theorem fdiv_le {a b : Int} (h0 : 0 ≤ a) (h : 0 < b) : a.fdiv b ≤ a := by
  rw [Int.fdiv_eq_ediv_of_nonneg a (by omega)]
  exact Int.ediv_le_self b h0
theorem mulC_small {i j : Int} (h : -(2 ^ 64) < i ∧ i < 2 ^ 64) (h' : -(2 ^ 64) < j ∧ j < 2 ^ 64) : mulC i j = true := mulC_of (a := 64) (b := 64) (by omega) (by omega) (by omega) (by omega) (by omega)
theorem divC_small {i j : Int} (h : j ≠ 0) (h' : -(2 ^ 64) < j ∧ j < 2 ^ 64) : divC i j = true := divC_of (b := 64) h (by omega) (by omega) (by omega)
theorem pick_A {seed mny many : Int} {P : Int → Int → Prop} (h0 : 0 ≤ seed) (h1 : seed < 2147483647) (hm : 0 < many) (hP : ∀ i s, 0 ≤ i → i < many → 0 ≤ s → s < 2147483647 → P i s) : mulC seed 48271 = true ∧
    divC ((seed * 48271 + 12820163 + (mny + 1)).fmod 2147483647) 65521 = true ∧
    mulC (((seed * 48271 + 12820163 + (mny + 1)).fmod 2147483647).fmod 65521 + 1) (((seed * 48271 + 12820163 + (mny + 1)).fmod 2147483647).fdiv 65521 + 7919) = true ∧
    divC (((((seed * 48271 + 12820163 + (mny + 1)).fmod 2147483647).fmod 65521 + 1) * (((seed * 48271 + 12820163 + (mny + 1)).fmod 2147483647).fdiv 65521 + 7919)).fmod 1000003) 7 = true ∧ ¬many = 0 ∧
    P (((((((seed * 48271 + 12820163 + (mny + 1)).fmod 2147483647).fmod 65521 + 1) * (((seed * 48271 + 12820163 + (mny + 1)).fmod 2147483647).fdiv 65521 + 7919)).fmod 1000003).fdiv 7).fmod many) ((seed * 48271 + 12820163 + (mny + 1)).fmod 2147483647) := by
  have a := fmod_lt (a := seed * 48271 + 12820163 + (mny + 1)) (b := 2147483647) (by omega)
  generalize (seed * 48271 + 12820163 + (mny + 1)).fmod 2147483647 = s at a ⊢
  have b := fmod_lt (a := s) (b := 65521) (by omega)
  have c := fdiv_nn (a := s) (b := 65521) a.1 (by omega)
  have c' := fdiv_le (a := s) (b := 65521) a.1 (by omega)
  refine ⟨mulC_small (by omega) (by omega), divC_small (by omega) (by omega), mulC_small (by omega) (by omega), divC_small (by omega) (by omega), by omega, ?_⟩
  have d := fmod_lt (a := ((s.fmod 65521 + 1) * (s.fdiv 65521 + 7919)).fmod 1000003 |>.fdiv 7) (b := many) hm
  exact hP _ _ d.1 d.2 a.1 a.2
theorem pick_to {f : Fl} (hf : FlOk f) {many : Int} (h0 : 0 < many) (h1 : many.natAbs < 2 ^ 64) : (m_L_pick [.int many] f).To fun d f' => ∃ i, d = .int i ∧ 0 ≤ i ∧ i < many ∧ FlOk f' := by
  unfold m_L_pick
  rw [flow_to]
  obtain ⟨cells, place, held, seed, mny⟩ := f
  obtain ⟨a1, a2, a3, a4⟩ := hf
  simp only at a1 a2 a3 a4
  unfold b_L_pick
  simp only [startL, List.map_cons, List.map_nil, List.length_cons, List.length_nil, List.cons_append, List.nil_append, List.replicate]
  have tail : ∀ (cells : List Int) (place held seed mny : Int) (c : Option U), 0 ≤ held → 0 ≤ seed → seed < 2147483647 → 0 ≤ place →
      (held ≤ 0 ∧ mulC seed 48271 = true ∧ divC ((seed * 48271 + 12820163 + (mny + 1)).fmod 2147483647) 65521 = true ∧
    mulC (((seed * 48271 + 12820163 + (mny + 1)).fmod 2147483647).fmod 65521 + 1) (((seed * 48271 + 12820163 + (mny + 1)).fmod 2147483647).fdiv 65521 + 7919) = true ∧
    divC (((((seed * 48271 + 12820163 + (mny + 1)).fmod 2147483647).fmod 65521 + 1) * (((seed * 48271 + 12820163 + (mny + 1)).fmod 2147483647).fdiv 65521 + 7919)).fmod 1000003) 7 = true ∧ ¬many = 0 ∧
      0 ≤ (((((((seed * 48271 + 12820163 + (mny + 1)).fmod 2147483647).fmod 65521 + 1) * (((seed * 48271 + 12820163 + (mny + 1)).fmod 2147483647).fdiv 65521 + 7919)).fmod 1000003).fdiv 7).fmod many) ∧
      (((((((seed * 48271 + 12820163 + (mny + 1)).fmod 2147483647).fmod 65521 + 1) * (((seed * 48271 + 12820163 + (mny + 1)).fmod 2147483647).fdiv 65521 + 7919)).fmod 1000003).fdiv 7).fmod many) < many ∧
      FlOk { cells := cells, place := place, held := held, seed := (seed * 48271 + 12820163 + (mny + 1)).fmod 2147483647, many := mny + 1 }) ∨
      0 < held ∧ ¬many = 0 ∧ divC held many = true ∧ 0 ≤ held.fmod many ∧ held.fmod many < many ∧ FlOk { cells := cells, place := place, held := held.fdiv many, seed := seed, many := mny } := by
    intro cells place held seed mny c b1 b2 b3 b4
    by_cases hh : held ≤ 0
    · exact .inl ⟨hh, pick_A (P := fun i s => 0 ≤ i ∧ i < many ∧ FlOk ⟨cells, place, held, s, mny + 1⟩) b2 b3 h0 fun i s c1 c2 c3 c4 => ⟨c1, c2, b1, c3, c4, b4⟩⟩
    · have d := fmod_lt (a := held) h0
      exact .inr ⟨by omega, by omega, divC_of (b := 64) (by omega) h1 (by omega) (by omega), d.1, d.2, fdiv_nn b1 h0, b2, b3, b4⟩
  by_cases hh : held = 0
  · subst hh
    by_cases hp : place < cells.length
    · obtain ⟨n, rfl⟩ := Int.eq_ofNat_of_zero_le a4
      have hn : n < cells.length := by omega
      have hq : ¬ cells.length ≤ n := by omega
      have e1 : idxN cells.length ((n : Nat) : Int) = some n := idxN_nat hn
      have e2 : cells[n]? = some cells[n] := List.getElem?_eq_getElem hn
      by_cases hx : cells[n] < 1000000000000000000
      · have z := tail cells ((n : Int) + 1) 0 ((seed * 40013 + cells[n].fmod 1000003 + 1).fmod 2147483647) mny none a1 (fmod_lt (by omega)).1 (fmod_lt (by omega)).2 (by omega)
        have y := mulC_small (i := seed) (j := 40013) (by omega) (by omega)
        have hx1 : ¬ 1000000000000000000 ≤ cells[n] := by omega
        simp [hn, hq, e1, e2, hx, hx1, y] at z ⊢
        exact z
      · have hx' : ¬ cells[n] < 1000000000000000000 := hx
        have z := tail cells ((n : Int) + 1) cells[n] seed mny none (by omega) a2 a3 (by omega)
        have hx2 : 1000000000000000000 ≤ cells[n] := by omega
        have hx3 : 0 < cells[n] := by omega
        have hx4 : ¬ cells[n] ≤ 0 := by omega
        simp [hn, hq, e1, e2, hx, hx2, hx3, hx4] at z ⊢
        exact z
    · have hp' : (cells.length : Int) ≤ place := by omega
      have z := tail cells place 0 seed mny none a1 a2 a3 a4
      simp [hp, hp'] at z ⊢
      exact z
  · have z := tail cells place held seed mny none a1 a2 a3 a4
    simp [hh] at z ⊢
    exact z
end NW
namespace NW
open PySem PySem.Spec PyProof.Rows L2
def fracD (q : Rat) : PyData := .tuple [.int q.num, .int q.den]
@[simp] theorem idx_0 {n : Nat} : idxN (n + 1) 0 = some 0 := by unfold idxN; simp
@[simp] theorem idx_1 {n : Nat} : idxN (n + 2) 1 = some 1 := by
  unfold idxN
  rw [if_pos (by decide), if_pos (by omega)]; rfl
end NW
namespace NW
open PySem PySem.Spec PyProof.Rows L2
end NW
namespace NW
open PySem PySem.Spec PyProof.Rows L2
theorem num_le (t b : Int) (hb : b ≠ 0) : (Rat.divInt t b).num.natAbs ≤ t.natAbs := by
  rw [Rat.num_divInt]
  refine Nat.le_trans (Int.natAbs_ediv_le_natAbs _ _) ?_
  rw [Int.natAbs_mul, Int.natAbs_sign_of_ne_zero hb, Nat.one_mul]
  exact Nat.le_refl _
theorem den_le (t b : Int) (hb : b ≠ 0) : (Rat.divInt t b).den ≤ b.natAbs := by
  rw [Rat.den_divInt, if_neg hb]
  exact Nat.div_le_self _ _
theorem lc_map {its : List PyData} {vs : List Nat} {t : MT} {c : MB} {m : ME} {l : Loc} {st : Sto} {g : PyData → PyData} {P : List PyData → Sto → Prop} {xs : List PyData}
    (h : ∀ x, x ∈ xs → (t (.d x) (wipeL l vs) st).To fun l1 s => (c l1 s).To fun b s => b = true ∧ (m l1 s).To fun u s => u = .d (g x) ∧ s = st) (fin : P (xs.map g) st) : (lcM ⟨its, []⟩ vs t c m l xs st).To P := by
  refine (lc_to (I := fun ys acc s => s = st ∧ ∃ zs, xs = zs ++ ys ∧ acc = zs.map g) (P := fun ys s => ys = xs.map g ∧ s = st) (fun _ _ _ _ => chk_nil) ?_ ?_ xs [] st ⟨rfl, [], rfl, rfl⟩).mono ?_
  · rintro x ys acc s ⟨rfl, zs, rfl, rfl⟩
    refine (h x (by simp)).mono ?_
    rintro l1 s1 h1
    refine h1.mono ?_
    rintro b s2 ⟨rfl, h2⟩
    rw [if_pos rfl]
    refine h2.mono ?_
    rintro u s3 ⟨rfl, rfl⟩
    exact ⟨_, rfl, rfl, zs ++ [x], by simp, by simp⟩
  · rintro acc s ⟨rfl, zs, rfl, rfl⟩
    simp
  · rintro ys s ⟨rfl, rfl⟩
    exact fin
theorem cAll_yes {st : Sto} {Q : U → Sto → Prop} {xs : List PyData} (h : Q (.d (.bool true)) st) : (cAll [.d (.list (xs.map fun _ => .bool true))] st).To Q := by
  have e : (xs.map fun _ => PyData.bool true) = (xs.map fun _ => true).map .bool := by rw [List.map_map]; rfl
  rw [e, to_cAll]
  have : (xs.map fun _ => true).all id = true := by simp
  rw [this]; exact h
@[simp] theorem ty_int : tyOk "int" = true := rfl
@[simp] theorem ty_bool : tyOk "bool" = true := rfl
@[simp] theorem ty_str : tyOk "str" = true := rfl
@[simp] theorem ty_list : tyOk "list" = true := rfl
@[simp] theorem ty_tuple : tyOk "tuple" = true := rfl
@[simp] theorem isi_int_int {i : Int} : isiT (.int i) "int" = true := rfl
@[simp] theorem isi_int_bool {i : Int} : isiT (.int i) "bool" = false := rfl
@[simp] theorem isi_int_str {i : Int} : isiT (.int i) "str" = false := rfl
@[simp] theorem isi_int_list {i : Int} : isiT (.int i) "list" = false := rfl
@[simp] theorem isi_int_tuple {i : Int} : isiT (.int i) "tuple" = false := rfl
@[simp] theorem isi_int_dict {i : Int} : isiT (.int i) "dict" = false := rfl
@[simp] theorem isi_bool_int {i : Bool} : isiT (.bool i) "int" = true := rfl
@[simp] theorem isi_bool_bool {i : Bool} : isiT (.bool i) "bool" = true := rfl
@[simp] theorem isi_bool_str {i : Bool} : isiT (.bool i) "str" = false := rfl
@[simp] theorem isi_bool_list {i : Bool} : isiT (.bool i) "list" = false := rfl
@[simp] theorem isi_bool_tuple {i : Bool} : isiT (.bool i) "tuple" = false := rfl
@[simp] theorem isi_bool_dict {i : Bool} : isiT (.bool i) "dict" = false := rfl
@[simp] theorem isi_list_int {i : List PyData} : isiT (.list i) "int" = false := rfl
@[simp] theorem isi_list_bool {i : List PyData} : isiT (.list i) "bool" = false := rfl
@[simp] theorem isi_list_str {i : List PyData} : isiT (.list i) "str" = false := rfl
@[simp] theorem isi_list_list {i : List PyData} : isiT (.list i) "list" = true := rfl
@[simp] theorem isi_list_tuple {i : List PyData} : isiT (.list i) "tuple" = false := rfl
@[simp] theorem isi_list_dict {i : List PyData} : isiT (.list i) "dict" = false := rfl
@[simp] theorem isi_tuple_int {i : List PyData} : isiT (.tuple i) "int" = false := rfl
@[simp] theorem isi_tuple_bool {i : List PyData} : isiT (.tuple i) "bool" = false := rfl
@[simp] theorem isi_tuple_str {i : List PyData} : isiT (.tuple i) "str" = false := rfl
@[simp] theorem isi_tuple_list {i : List PyData} : isiT (.tuple i) "list" = false := rfl
@[simp] theorem isi_tuple_tuple {i : List PyData} : isiT (.tuple i) "tuple" = true := rfl
@[simp] theorem isi_tuple_dict {i : List PyData} : isiT (.tuple i) "dict" = false := rfl
@[simp] theorem isi_none_int  : isiT .none "int" = false := rfl
@[simp] theorem isi_none_bool  : isiT .none "bool" = false := rfl
@[simp] theorem isi_none_str  : isiT .none "str" = false := rfl
@[simp] theorem isi_none_list  : isiT .none "list" = false := rfl
@[simp] theorem isi_none_tuple  : isiT .none "tuple" = false := rfl
@[simp] theorem isi_none_dict  : isiT .none "dict" = false := rfl
@[simp] theorem isi_str_int {i : Str} : isiT (.str i) "int" = false := rfl
@[simp] theorem isi_str_bool {i : Str} : isiT (.str i) "bool" = false := rfl
@[simp] theorem isi_str_str {i : Str} : isiT (.str i) "str" = true := rfl
@[simp] theorem isi_str_list {i : Str} : isiT (.str i) "list" = false := rfl
@[simp] theorem isi_str_tuple {i : Str} : isiT (.str i) "tuple" = false := rfl
@[simp] theorem isi_str_dict {i : Str} : isiT (.str i) "dict" = false := rfl
end NW
namespace NW
open PySem PySem.Spec PyProof.Rows L2
@[simp] theorem shaped_frac {q : Rat} : SeqAt.shaped (fracD q) = true := by
  simp [fracD, SeqAt.shaped, PyData.canLay0, PyData.canLayAll0, PyData.depth, PyData.depthAll]
@[simp] theorem eqv_frac {p q : Rat} : PyData.eqv (fracD p) (fracD q) = decide (p = q) := by
  rw [Bool.eq_iff_iff]
  simp [fracD, PyData.eqv, PyData.eqvAll]
  constructor
  · rintro ⟨a, b⟩
    exact Rat.ext a (by omega)
  · rintro rfl; simp
theorem mul_lt {i j : Int} {a b c : Nat} (ha : i.natAbs < 2 ^ a) (hb : j.natAbs < 2 ^ b) (h : a + b ≤ c) : (i * j).natAbs < 2 ^ c := by
  rw [Int.natAbs_mul]
  refine Nat.lt_of_lt_of_le (Nat.mul_lt_mul'' ha hb) ?_
  rw [← Nat.pow_add]
  exact Nat.pow_le_pow_right (by omega) h
end NW
namespace NW
open PySem PySem.Spec PyProof.Rows L2
section
variable {l : Loc} {st : Sto} {Q : U → Sto → Prop}
@[simp] theorem to_isiT {m : ME} {Ts : List String} : (eIsiT m Ts l st).To Q ↔ (m l st).To fun u s => ∃ x, toTree s u = some x ∧ (Ts.all tyOk && decide (Ts.length ≤ 8)) = true ∧ Q (.d (.bool (Ts.any (isiT x)))) s := by
  unfold eIsiT
  rw [to_bind]
  cases m l st with
  | ok u s => simp only [to_ok]; cases toTree s u <;> simp
  | _ => exact Iff.rfl
end
def Lk : Nat → PyData → Prop
  | 0, _ => False
  | n + 1, .list xs => xs.length ≤ 16777216 ∧ ∀ x ∈ xs, Lk n x
  | n + 1, .tuple xs => xs.length ≤ 16777216 ∧ ∀ x ∈ xs, Lk n x
  | _ + 1, .dict _ => False
  | _ + 1, .str z => (PyData.str z).canLay0 = true
  | _ + 1, _ => True
theorem Lk.mono {n m : Nat} {d : PyData} (h : Lk n d) (k : n ≤ m) : Lk m d := by
  induction n generalizing m d with
  | zero => exact h.elim
  | succ n ih =>
    obtain ⟨m, rfl⟩ : ∃ j, m = j + 1 := ⟨m - 1, by omega⟩
    cases d with
    | list xs => exact ⟨h.1, fun x hx => ih (h.2 x hx) (by omega)⟩
    | tuple xs => exact ⟨h.1, fun x hx => ih (h.2 x hx) (by omega)⟩
    | _ => exact h
theorem range_mem {n : Nat} {x : PyData} (h : x ∈ rangeD 0 1 n) : ∃ i : Nat, i < n ∧ x = .int i := by
  unfold rangeD at h
  obtain ⟨i, hi, rfl⟩ := List.mem_map.mp h
  exact ⟨i, List.mem_range.mp hi, by simp⟩
@[simp] theorem range_len {a b : Int} {n : Nat} : (rangeD a b n).length = n := by simp [rangeD]
theorem alike_to : ∀ (n : Nat) (d : PyData), Lk n d → (m_L_alike n [d, d]).To fun x => x = .bool true := by
  intro n
  induction n with
  | zero => intro d h; exact h.elim
  | succ n ih =>
    intro d h
    rw [s_L_alike, pure_to]
    unfold b_L_alike
    cases d with
    | list xs =>
      have h1 := h.1
      simp [startL, h1]
      refine ⟨decide_eq_true (by omega), by omega, ?_⟩
      refine lc_map (g := fun _ => .bool true) ?_ ?_
      rotate_left
      · exact cAll_yes (by exact rfl)
      intro x hx
      obtain ⟨i, hi, rfl⟩ := range_mem hx
      simp [wipeL, idxN_nat hi, hi]
      exact (ih _ (h.2 _ (List.getElem_mem hi))).mono fun d hd => hd
    | tuple xs => 
      have h1 := h.1
      simp [startL, h1]
      refine ⟨decide_eq_true (by omega), by omega, ?_⟩
      refine lc_map (g := fun _ => .bool true) ?_ ?_
      rotate_left
      · exact cAll_yes (by exact rfl)
      intro x hx
      obtain ⟨i, hi, rfl⟩ := range_mem hx
      simp [wipeL, idxN_nat hi, hi]
      exact (ih _ (h.2 _ (List.getElem_mem hi))).mono fun d hd => hd
    | dict xs => exact h.elim
    | str z =>
      have hs : SeqAt.shaped (.str z) = true := by
        unfold SeqAt.shaped
        rw [show (PyData.str z).canLay0 = true from h]; simp [PyData.depth]
      simp [startL, hs, PySem.SeqAt.eqv_refl _ h]
    | int i => simp [startL]
    | bool i => simp [startL]
    | none => simp [startL]; rfl
end NW
namespace NW
open PySem PySem.Spec PyProof.Rows L2
def FB (n : Nat) (q : Rat) : Prop := q.num.natAbs < 2 ^ n ∧ q.den < 2 ^ n
theorem FB.mono {n m : Nat} {q : Rat} (h : FB n q) (k : n ≤ m) : FB m q := ⟨Nat.lt_of_lt_of_le h.1 (Nat.pow_le_pow_right (by omega) k), Nat.lt_of_lt_of_le h.2 (Nat.pow_le_pow_right (by omega) k)⟩
theorem FB.of_divInt {n : Nat} {t b : Int} (hb : b ≠ 0) (h1 : t.natAbs < 2 ^ n) (h2 : b.natAbs < 2 ^ n) : FB n (Rat.divInt t b) :=
  ⟨Nat.lt_of_le_of_lt (num_le t b hb) h1, Nat.lt_of_le_of_lt (den_le t b hb) h2⟩
theorem mk_div (a : Int) (m n : Nat) : Rat.divInt a ((m : Int) * (n : Int)) = mkRat a (m * n) := by
  rw [← Int.natCast_mul]; rfl
theorem add_divInt (p q : Rat) : Rat.divInt (p.num * q.den + q.num * p.den) (p.den * q.den) = p + q := by
  rw [Rat.add_def', mk_div]
theorem sub_divInt (p q : Rat) : Rat.divInt (p.num * q.den - q.num * p.den) (p.den * q.den) = p - q := by
  rw [Rat.sub_def', mk_div]
theorem mul_divInt (p q : Rat) : Rat.divInt (p.num * q.num) (p.den * q.den) = p * q := by
  rw [Rat.mul_def', mk_div]
theorem div_divInt (p q : Rat) : Rat.divInt (p.num * q.den) (p.den * q.num) = p / q := by
  rw [Rat.div_def, Rat.inv_def]
  conv => rhs; rw [← Rat.num_divInt_den p]
  rw [Rat.divInt_mul_divInt]
theorem den_ne (q : Rat) : (q.den : Int) ≠ 0 := by have := q.den_pos; omega
theorem FB.m {n : Nat} {i j : Int} (h1 : i.natAbs < 2 ^ n) (h2 : j.natAbs < 2 ^ n) (h0 : 0 < n) (h : n ≤ 499000) : mulC i j = true := mulC_of h1 h2 h0 h0 (by omega)
section
variable {p q : Rat} {n a' b' : Nat} {P : PyData → Prop}
end
theorem FB.add {p q : Rat} {n : Nat} (hp : FB n p) (hq : FB n q) : FB (2 * n + 1) (p + q) := by
  rw [← add_divInt]
  refine FB.of_divInt (Int.mul_ne_zero (den_ne p) (den_ne q)) ?_ (mul_lt hp.2 hq.2 (by omega))
  have e1 : (p.num * q.den).natAbs < 2 ^ (2 * n) := mul_lt hp.1 hq.2 (by omega)
  have e2 : (q.num * p.den).natAbs < 2 ^ (2 * n) := mul_lt hq.1 hp.2 (by omega)
  have : 2 ^ (2 * n + 1) = 2 * 2 ^ (2 * n) := by rw [Nat.pow_succ, Nat.mul_comm]
  omega
theorem FB.sub {p q : Rat} {n : Nat} (hp : FB n p) (hq : FB n q) : FB (2 * n + 1) (p - q) := by
  rw [← sub_divInt]
  refine FB.of_divInt (Int.mul_ne_zero (den_ne p) (den_ne q)) ?_ (mul_lt hp.2 hq.2 (by omega))
  have e1 : (p.num * q.den).natAbs < 2 ^ (2 * n) := mul_lt hp.1 hq.2 (by omega)
  have e2 : (q.num * p.den).natAbs < 2 ^ (2 * n) := mul_lt hq.1 hp.2 (by omega)
  have : 2 ^ (2 * n + 1) = 2 * 2 ^ (2 * n) := by rw [Nat.pow_succ, Nat.mul_comm]
  omega
theorem FB.mul {p q : Rat} {n : Nat} (hp : FB n p) (hq : FB n q) : FB (2 * n) (p * q) := by
  rw [← mul_divInt]
  exact FB.of_divInt (Int.mul_ne_zero (den_ne p) (den_ne q)) (mul_lt hp.1 hq.1 (by omega)) (mul_lt hp.2 hq.2 (by omega))
theorem FB.neg {p : Rat} {n : Nat} (hp : FB n p) : FB n (-p) := by
  unfold FB; rw [Rat.neg_num, Rat.neg_den, Int.natAbs_neg]; exact hp
theorem FB.zero {n : Nat} (h : 0 < n) : FB n 0 := ⟨Nat.two_pow_pos n, by have : 2 ≤ 2 ^ n := Nat.le_self_pow (by omega) 2; show 1 < 2 ^ n; omega⟩
theorem FB.one {n : Nat} (h : 0 < n) : FB n 1 := ⟨by have : 2 ≤ 2 ^ n := Nat.le_self_pow (by omega) 2; show 1 < 2 ^ n; omega, by have : 2 ≤ 2 ^ n := Nat.le_self_pow (by omega) 2; show 1 < 2 ^ n; omega⟩
end NW
namespace NW
open PySem PySem.Spec PyProof.Rows L2
section
variable {st : Sto} {Q : U → Sto → Prop} {q : Rat}
@[simp] theorem to_ixF0 : (fIx (.d (fracD q)) (.d (.int 0)) st).To Q ↔ Q (.d (.int q.num)) st := Iff.rfl
@[simp] theorem to_ixF1 : (fIx (.d (fracD q)) (.d (.int 1)) st).To Q ↔ Q (.d (.int q.den)) st := Iff.rfl
end
end NW
namespace NW
open PySem PySem.Spec PyProof.Rows L2
theorem lc_draw {its : List PyData} {vs : List Nat} {t : MT} {c : MB} {m : ME} {l : NW.Loc} {o : List Ob} {p : PyData → Prop} {P : List PyData → Sto → Prop} {xs : List PyData} {g : Fl}
    (h : ∀ x, x ∈ xs → ∀ g, FlOk g → (t (.d x) (wipeL l vs) ⟨some g, o⟩).To fun l1 s => (c l1 s).To fun b s => b = true ∧ (m l1 s).To fun u s => ∃ y, u = .d y ∧ ∃ g', s = ⟨some g', o⟩ ∧ FlOk g' ∧ p y) (hg : FlOk g)
    (fin : ∀ ys g', ys.length = xs.length → (∀ y, y ∈ ys → p y) → FlOk g' → P ys ⟨some g', o⟩) : (lcM ⟨its, []⟩ vs t c m l xs ⟨some g, o⟩).To P := by
  refine (lc_to (I := fun ys acc s => ∃ g, s = ⟨some g, o⟩ ∧ FlOk g ∧ (∃ zs, xs = zs ++ ys ∧ acc.length = zs.length) ∧ ∀ y, y ∈ acc → p y) (P := fun ys s => ∃ g, s = ⟨some g, o⟩ ∧ FlOk g ∧ ys.length = xs.length ∧ ∀ y, y ∈ ys → p y) (fun _ _ _ _ => chk_nil) ?_ ?_ xs [] _ ⟨g, rfl, hg, ⟨[], rfl, rfl⟩, by simp⟩).mono ?_
  · rintro x ys acc s ⟨g, rfl, og, ⟨zs, rfl, hz⟩, hp⟩
    refine (h x (by simp) g og).mono ?_
    rintro l1 s1 h1
    refine h1.mono ?_
    rintro b s2 ⟨rfl, h2⟩
    rw [if_pos rfl]
    refine h2.mono ?_
    rintro u s3 ⟨y, rfl, g', rfl, og', py⟩
    refine ⟨_, rfl, g', rfl, og', ⟨zs ++ [x], by simp, by simp [hz]⟩, fun w hw => ?_⟩
    rcases List.mem_append.mp hw with hw | hw
    · exact hp w hw
    · have : w = y := by simpa using hw
      subst this; exact py
  · rintro acc s ⟨g, rfl, og, ⟨zs, rfl, hz⟩, hp⟩
    exact ⟨g, rfl, og, by simp [hz], hp⟩
  · rintro ys s ⟨g, rfl, og, hl, hp⟩
    exact fin ys g hl hp og
end NW
namespace NW
def gs (g : Nat) : List Int → Nat
  | [] => g
  | t :: ts => gs (Int.gcd g t) ts
theorem gs_dvd {d : Nat} : ∀ {ts : List Int} {g : Nat}, d ∣ gs g ts ↔ d ∣ g ∧ ∀ t, t ∈ ts → (d : Int) ∣ t
  | [], g => by simp [gs]
  | t :: ts, g => by
    rw [gs, gs_dvd, Int.gcd]
    rw [Nat.dvd_gcd_iff]
    simp only [List.mem_cons, forall_eq_or_imp, Int.natAbs_natCast]
    rw [and_assoc, ← Int.ofNat_dvd_left]
theorem gs_mul {c : Nat} : ∀ {ts : List Int} {g : Nat}, gs (c * g) (ts.map fun t => (c : Int) * t) = c * gs g ts
  | [], g => rfl
  | t :: ts, g => by
    rw [List.map_cons, gs, gs]
    have : Int.gcd ((c * g : Nat) : Int) ((c : Int) * t) = c * Int.gcd g t := by
      rw [Int.natCast_mul, Int.gcd_mul_left, Int.natAbs_natCast]
    rw [this]; exact gs_mul
theorem gs_pos {ts : List Int} {g : Nat} (h : 0 < g) : 0 < gs g ts := by
  have := (gs_dvd (d := gs g ts)).mp (Nat.dvd_refl _)
  rcases Nat.eq_zero_or_pos (gs g ts) with e | e
  · rw [e] at this
    have := Nat.eq_zero_of_zero_dvd this.1
    omega
  · exact e
def Tr : List Int → Prop
  | [] => True
  | [t] => t ≠ 0
  | _ :: t :: ts => Tr (t :: ts)
theorem Tr.tail {t : Int} {ts : List Int} (h : Tr (t :: ts)) : Tr ts := by
  cases ts with
  | nil => trivial
  | cons u us => exact h
theorem tr_get {ts : List Int} (h : Tr ts) (hn : ts ≠ []) : ts.getD (ts.length - 1) 0 ≠ 0 := by
  induction ts with
  | nil => exact absurd rfl hn
  | cons t ts ih =>
    cases ts with
    | nil => simpa [Tr] using h
    | cons u us =>
      have := ih h (by simp)
      simpa using this
theorem tr_of {ts : List Int} (h : ts ≠ [] → ts.getD (ts.length - 1) 0 ≠ 0) : Tr ts := by
  induction ts with
  | nil => trivial
  | cons t ts ih =>
    cases ts with
    | nil => simpa [Tr] using h
    | cons u us => exact ih fun _ => by simpa using h (by simp)
theorem tr_ext {ts us : List Int} (h : Tr ts) (h' : Tr us) (e : ∀ k, ts.getD k 0 = us.getD k 0) : ts = us := by
  have len : ∀ {ts us : List Int}, Tr ts → (∀ k, ts.getD k 0 = us.getD k 0) → ts.length ≤ us.length := by
    intro ts us h e
    cases ts with
    | nil => simp
    | cons t ts =>
      have h1 := tr_get h (by simp)
      rw [e] at h1
      by_cases hl : (t :: ts).length ≤ us.length
      · exact hl
      · rw [List.getD_eq_getElem?_getD, List.getElem?_eq_none (by simp at hl ⊢; omega)] at h1
        simp at h1
  have l : ts.length = us.length := Nat.le_antisymm (len h e) (len h' fun k => (e k).symm)
  refine List.ext_getElem l fun i h1 h2 => ?_
  have := e i
  simpa [List.getD_eq_getElem?_getD, h1, h2] using this
structure Pol where
  ts : List Int
  b : Nat
  hb : 0 < b
  ht : Tr ts
  hg : gs b ts = 1
def Pol.co (p : Pol) (k : Nat) : Rat := Rat.divInt (p.ts.getD k 0) p.b
theorem Pol.ext_co {p q : Pol} (h : ∀ k, p.co k = q.co k) : p = q := by
  have hp := p.hb
  have hq := q.hb
  have key : ∀ k, (q.b : Int) * p.ts.getD k 0 = (p.b : Int) * q.ts.getD k 0 := fun k => by
    have := (Rat.divInt_eq_divInt_iff (by omega) (by omega)).mp (h k)
    rw [Int.mul_comm, this, Int.mul_comm]
  have dv : ∀ {p q : Pol}, (∀ k, (q.b : Int) * p.ts.getD k 0 = (p.b : Int) * q.ts.getD k 0) → p.b ∣ q.b := by
    intro p q key
    have e := gs_mul (c := q.b) (ts := p.ts) (g := p.b)
    rw [p.hg, Nat.mul_one] at e
    rw [← e]
    refine gs_dvd.mpr ⟨Nat.dvd_mul_left _ _, fun t ht => ?_⟩
    obtain ⟨u, hu, rfl⟩ := List.mem_map.mp ht
    obtain ⟨k, hk, rfl⟩ := List.getElem_of_mem hu
    have := key k
    rw [List.getD_eq_getElem?_getD, List.getElem?_eq_getElem hk] at this
    simp only [Option.getD_some] at this
    rw [this]
    exact Int.dvd_mul_right _ _
  have e : p.b = q.b := Nat.dvd_antisymm (dv key) (dv fun k => (key k).symm)
  have e2 : p.ts = q.ts := tr_ext p.ht q.ht fun k => by
    have := key k
    rw [e] at this
    exact Int.eq_of_mul_eq_mul_left (by omega) this
  cases p; cases q; cases e; cases e2; rfl
end NW
namespace NW
theorem getD_map {f : Int → Int} (h : f 0 = 0) (ts : List Int) (k : Nat) : (ts.map f).getD k 0 = f (ts.getD k 0) := by
  rw [List.getD_eq_getElem?_getD, List.getD_eq_getElem?_getD, List.getElem?_map]
  cases ts[k]? <;> simp [h]
theorem gs_mem {ts : List Int} {g : Nat} {k : Nat} : ((gs g ts : Nat) : Int) ∣ ts.getD k 0 := by
  rw [List.getD_eq_getElem?_getD]
  cases e : ts[k]? with
  | none => simp
  | some t => exact (gs_dvd.mp (Nat.dvd_refl _)).2 t (List.mem_of_getElem? e)
theorem gs_self {ts : List Int} {g : Nat} : gs g ts ∣ g := (gs_dvd.mp (Nat.dvd_refl _)).1
def mkT (ts : List Int) (h : Tr ts) (b : Nat) (hb : 0 < b) : Pol where
  ts := ts.map fun t => t / (gs b ts : Nat)
  b := b / gs b ts
  hb := Nat.div_pos (Nat.le_of_dvd hb gs_self) (gs_pos hb)
  ht := tr_of fun hn => by
    have hn' : ts ≠ [] := fun e => hn (by rw [e]; rfl)
    rw [List.length_map, getD_map (by simp)]
    intro e
    have z := tr_get h hn'
    have d := gs_mem (ts := ts) (g := b) (k := ts.length - 1)
    have c := Int.ediv_mul_cancel d
    rw [e, Int.zero_mul] at c
    exact z c.symm
  hg := by
    have hp := gs_pos (ts := ts) hb
    have e := gs_mul (c := gs b ts) (ts := ts.map fun t => t / (gs b ts : Nat)) (g := b / gs b ts)
    rw [Nat.mul_div_cancel' gs_self, List.map_map] at e
    have e2 : (ts.map ((fun t => ((gs b ts : Nat) : Int) * t) ∘ fun t => t / (gs b ts : Nat))) = ts := by
      conv => rhs; rw [← List.map_id ts]
      refine List.map_congr_left fun t ht => ?_
      exact Int.mul_ediv_cancel' ((gs_dvd.mp (Nat.dvd_refl _)).2 t ht)
    rw [e2] at e
    have : gs b ts * 1 = gs b ts * gs (b / gs b ts) (ts.map fun t => t / (gs b ts : Nat)) := by rw [Nat.mul_one]; exact e
    exact (Nat.eq_of_mul_eq_mul_left hp this).symm
theorem co_mkT {ts : List Int} {h : Tr ts} {b : Nat} {hb : 0 < b} {k : Nat} : (mkT ts h b hb).co k = Rat.divInt (ts.getD k 0) b := by
  have hp := gs_pos (ts := ts) hb
  unfold Pol.co mkT
  rw [getD_map (by simp)]
  show Rat.divInt (ts.getD k 0 / (gs b ts : Nat)) ((b / gs b ts : Nat) : Int) = _
  have e1 := Int.ediv_mul_cancel (gs_mem (ts := ts) (g := b) (k := k))
  have e2 := Nat.div_mul_cancel (gs_self (ts := ts) (g := b))
  have := Rat.divInt_mul_right (n := ts.getD k 0 / (gs b ts : Nat)) (d := ((b / gs b ts : Nat) : Int)) (a := ((gs b ts : Nat) : Int)) (by omega)
  rw [← this, e1, ← Int.natCast_mul, e2]
def tl : List Int → Nat
  | [] => 0
  | t :: ts => if tl ts = 0 then (if t = 0 then 0 else 1) else tl ts + 1
theorem tl_le : ∀ {ts : List Int}, tl ts ≤ ts.length
  | [] => by simp [tl]
  | t :: ts => by
    have := tl_le (ts := ts)
    rw [tl]; simp only [List.length_cons]
    split
    · split <;> omega
    · omega
theorem tl_get : ∀ {ts : List Int} {k : Nat}, (ts.take (tl ts)).getD k 0 = ts.getD k 0
  | [], k => by simp
  | t :: ts, 0 => by
    rw [tl]
    split
    · split
      · rename_i h; simp [h]
      · simp
    · simp
  | t :: ts, k + 1 => by
    have := tl_get (ts := ts) (k := k)
    rw [tl]
    split
    · rename_i h
      rw [h] at this
      split
      · simpa using this
      · simpa using this
    · simpa using this
theorem tl_tr : ∀ {ts : List Int}, Tr (ts.take (tl ts))
  | [] => trivial
  | t :: ts => by
    have := tl_tr (ts := ts)
    rw [tl]
    split
    · split
      · exact trivial
      · rename_i h; simpa [Tr] using h
    · rename_i h
      rw [List.take_succ_cons]
      cases e : ts.take (tl ts) with
      | nil =>
        have l := tl_le (ts := ts)
        have c : (ts.take (tl ts)).length = tl ts := by rw [List.length_take]; omega
        rw [e] at c
        exact absurd c.symm h
      | cons u us => rw [e] at this; exact this
def mk (ts : List Int) (b : Nat) : Pol := if h : 0 < b then mkT (ts.take (tl ts)) tl_tr b h else ⟨[], 1, by decide, trivial, rfl⟩
theorem co_mk {ts : List Int} {b : Nat} (h : 0 < b) (k : Nat) : (mk ts b).co k = Rat.divInt (ts.getD k 0) b := by
  unfold mk
  rw [dif_pos h, co_mkT, tl_get]
def evZ : List Int → Rat → Rat
  | [], _ => 0
  | t :: ts, x => t + x * evZ ts x
def evI : List Int → Int → Int
  | [], _ => 0
  | t :: ts, x => t + x * evI ts x
theorem evI_cast {n : Int} : ∀ {ts : List Int}, evZ ts (n : Rat) = ((evI ts n : Int) : Rat)
  | [] => by simp [evZ, evI]
  | t :: ts => by rw [evZ, evI, evI_cast, Rat.intCast_add, Rat.intCast_mul]
theorem evI_get : ∀ {ts us : List Int}, (∀ n : Int, 0 < n → evI ts n = evI us n) → ∀ k, ts.getD k 0 = us.getD k 0 := by
  have dvd : ∀ {t : Int} {f : Int → Int}, (∀ n : Int, 0 < n → t + n * f n = 0) → t = 0 ∧ ∀ n : Int, 0 < n → f n = 0 := by
    intro t f h
    have h0 : t = 0 := by
      have h1 := h (t.natAbs + 1) (by omega)
      have : ((t.natAbs : Int) + 1) ∣ t := ⟨-f (t.natAbs + 1), by rw [Int.mul_neg]; omega⟩
      have := Int.natAbs_dvd_natAbs.mpr this
      by_cases e : t = 0
      · exact e
      · have := Nat.le_of_dvd (by omega) this
        omega
    refine ⟨h0, fun n hn => ?_⟩
    have h1 := h n hn
    rw [h0, Int.zero_add] at h1
    rcases Int.mul_eq_zero.mp h1 with e | e
    · omega
    · exact e
  have zero : ∀ {ts : List Int}, (∀ n : Int, 0 < n → evI ts n = 0) → ∀ k, ts.getD k 0 = 0 := by
    intro ts
    induction ts with
    | nil => intro _ k; simp
    | cons t ts ih =>
      intro h k
      obtain ⟨a, b⟩ := dvd h
      cases k with
      | zero => simpa using a
      | succ k => simpa using ih b k
  intro ts
  induction ts with
  | nil =>
    intro us h k
    rw [zero (ts := us) fun n hn => (h n hn).symm]; simp
  | cons t ts ih =>
    intro us h k
    cases us with
    | nil => rw [zero h]; simp
    | cons u us =>
      have h' : ∀ n : Int, 0 < n → (t - u) + n * (evI ts n - evI us n) = 0 := fun n hn => by
        have := h n hn
        rw [evI, evI] at this
        rw [Int.mul_sub]; omega
      obtain ⟨a, b⟩ := dvd h'
      cases k with
      | zero => simp; omega
      | succ k => simpa using ih (fun n hn => by have := b n hn; omega) k
theorem evZ_get {x : Rat} : ∀ {ts us : List Int}, (∀ k, ts.getD k 0 = us.getD k 0) → evZ ts x = evZ us x := by
  have zero : ∀ {ts : List Int}, (∀ k, ts.getD k 0 = 0) → evZ ts x = 0 := by
    intro ts
    induction ts with
    | nil => intro _; rfl
    | cons t ts ih =>
      intro h
      have h0 := h 0
      rw [evZ, ih fun k => by simpa using h (k + 1)]
      simp at h0
      rw [h0]; grind
  intro ts
  induction ts with
  | nil => intro us h; rw [zero (ts := us) fun k => by rw [← h k]; simp]; rfl
  | cons t ts ih =>
    intro us h
    cases us with
    | nil => rw [zero (ts := t :: ts) fun k => by rw [h k]; simp]; rfl
    | cons u us =>
      have h0 := h 0
      simp at h0
      rw [evZ, evZ, h0, ih fun k => by simpa using h (k + 1)]
theorem evZ_mul {c : Int} {x : Rat} : ∀ {ts : List Int}, evZ (ts.map fun t => c * t) x = c * evZ ts x
  | [] => by simp [evZ]
  | t :: ts => by rw [List.map_cons, evZ, evZ, evZ_mul, Rat.intCast_mul]; grind
def Pol.ev (p : Pol) (x : Rat) : Rat := evZ p.ts x / (p.b : Int)
theorem Pol.ext_ev {p q : Pol} (h : ∀ x, p.ev x = q.ev x) : p = q := by
  have hp := p.hb
  have hq := q.hb
  have hp' : (((p.b : Int)) : Rat) ≠ 0 := by
    intro e; have := Rat.intCast_eq_zero_iff.mp e; omega
  have hq' : (((q.b : Int)) : Rat) ≠ 0 := by
    intro e; have := Rat.intCast_eq_zero_iff.mp e; omega
  refine Pol.ext_co fun k => ?_
  have key : ∀ n : Int, 0 < n → evI (p.ts.map fun t => (q.b : Int) * t) n = evI (q.ts.map fun t => (p.b : Int) * t) n := fun n _ => by
    refine Rat.intCast_inj.mp ?_
    rw [← evI_cast, ← evI_cast, evZ_mul, evZ_mul]
    have := h n
    unfold Pol.ev at this
    grind
  have := evI_get key k
  rw [getD_map (by simp), getD_map (by simp)] at this
  unfold Pol.co
  refine (Rat.divInt_eq_divInt_iff (by omega) (by omega)).mpr ?_
  rw [Int.mul_comm, this, Int.mul_comm]
theorem ev_mk {ts : List Int} {b : Nat} (h : 0 < b) (x : Rat) : (mk ts b).ev x = evZ ts x / (b : Int) := by
  have hm := (mk ts b).hb
  have h1 : (((b : Int)) : Rat) ≠ 0 := by
    intro e; have := Rat.intCast_eq_zero_iff.mp e; omega
  have h2 : ((((mk ts b).b : Int)) : Rat) ≠ 0 := by
    intro e; have := Rat.intCast_eq_zero_iff.mp e; omega
  have key : ∀ k, ((mk ts b).ts.map fun t => (b : Int) * t).getD k 0 = (ts.map fun t => ((mk ts b).b : Int) * t).getD k 0 := fun k => by
    rw [getD_map (by simp), getD_map (by simp)]
    have := co_mk (ts := ts) h k
    unfold Pol.co at this
    have := (Rat.divInt_eq_divInt_iff (by omega) (by omega)).mp this
    rw [Int.mul_comm, this, Int.mul_comm]
  have := evZ_get (x := x) key
  rw [evZ_mul, evZ_mul] at this
  unfold Pol.ev
  grind
end NW
namespace NW
open PySem PySem.Spec PyProof.Rows L2
def polyD (p : Pol) : PyData := .tuple [.tuple (p.ts.map .int), .int p.b]
def SeqD (S : PyData) (xs : List PyData) : Prop := S = .list xs ∨ S = .tuple xs
section
variable {S : PyData} {xs : List PyData} {st : Sto} {Q : U → Sto → Prop}
theorem SeqD.len (h : SeqD S xs) : (cLen [.d S] st).To Q ↔ Q (.d (.int xs.length)) st := by rcases h with rfl | rfl <;> exact Iff.rfl
theorem SeqD.ix (h : SeqD S xs) {i : Int} : (fIx (.d S) (.d (.int i)) st).To Q ↔ ∃ x, ((idxN xs.length i).bind fun j => xs[j]?) = some x ∧ Q (.d x) st := by rcases h with rfl | rfl <;> simp
theorem SeqD.sl (h : SeqD S xs) {a b : Option Int} : ∃ S', SeqD S' (cutD xs a b) ∧ ∀ (st : Sto) (Q : U → Sto → Prop), (fSl (.d S) a b st).To Q ↔ Q (.d S') st := by
  rcases h with rfl | rfl
  · exact ⟨_, .inl rfl, fun _ _ => Iff.rfl⟩
  · exact ⟨_, .inr rfl, fun _ _ => Iff.rfl⟩
end
@[simp] theorem to_tupL {st : Sto} {Q : U → Sto → Prop} {xs : List PyData} : (cTupOf [.d (.list xs)] st).To Q ↔ Q (.d (.tuple xs)) st := Iff.rfl
@[simp] theorem to_tupT {st : Sto} {Q : U → Sto → Prop} {xs : List PyData} : (cTupOf [.d (.tuple xs)] st).To Q ↔ Q (.d (.tuple xs)) st := Iff.rfl
end NW
namespace NW
open PySem PySem.Spec PyProof.Rows L2
def lcms (b : Nat) : List Rat → Nat
  | [] => b
  | q :: qs => lcms (Nat.lcm b q.den) qs
theorem lcms_dvd : ∀ {qs : List Rat} {b : Nat}, b ∣ lcms b qs ∧ ∀ q, q ∈ qs → q.den ∣ lcms b qs
  | [], b => ⟨Nat.dvd_refl _, fun q h => by cases h⟩
  | q :: qs, b => by
    obtain ⟨h1, h2⟩ := lcms_dvd (qs := qs) (b := Nat.lcm b q.den)
    rw [lcms]
    refine ⟨Nat.dvd_trans (Nat.dvd_lcm_left _ _) h1, fun r hr => ?_⟩
    rcases List.mem_cons.mp hr with rfl | hr
    · exact Nat.dvd_trans (Nat.dvd_lcm_right _ _) h1
    · exact h2 r hr
theorem lcms_pos : ∀ {qs : List Rat} {b : Nat}, 0 < b → 0 < lcms b qs
  | [], b, h => h
  | q :: qs, b, h => by rw [lcms]; exact lcms_pos (Nat.lcm_pos h q.den_pos)
def ofC (qs : List Rat) : Pol := mk (qs.map fun q => q.num * ((lcms 1 qs / q.den : Nat) : Int)) (lcms 1 qs)
theorem co_ofC {qs : List Rat} (k : Nat) : (ofC qs).co k = qs.getD k 0 := by
  unfold ofC
  have hb : 0 < lcms 1 qs := lcms_pos (by decide)
  rw [co_mk hb, List.getD_eq_getElem?_getD, List.getD_eq_getElem?_getD, List.getElem?_map]
  cases e : qs[k]? with
  | none => simp
  | some q =>
    have hd := (lcms_dvd (b := 1)).2 q (List.mem_of_getElem? e)
    simp only [Option.map_some, Option.getD_some]
    have e2 := Nat.div_mul_cancel hd
    have hn : ((lcms 1 qs / q.den : Nat) : Int) ≠ 0 := by
      intro h0
      have : lcms 1 qs / q.den = 0 := by omega
      rw [this] at e2; omega
    have := Rat.divInt_mul_right (n := q.num) (d := (q.den : Int)) (a := ((lcms 1 qs / q.den : Nat) : Int)) hn
    rw [Rat.num_divInt_den, ← Int.natCast_mul, Nat.mul_comm q.den, e2] at this
    exact this
theorem lcm_lt {a b m n : Nat} (h1 : a < 2 ^ m) (h2 : b < 2 ^ n) : Nat.lcm a b < 2 ^ (m + n) := by
  refine Nat.lt_of_le_of_lt (Nat.div_le_self _ _) ?_
  rw [Nat.pow_add]
  exact Nat.mul_lt_mul'' h1 h2
theorem len_of {p : Pol} {m : Nat} (h1 : ∀ k, m ≤ k → p.co k = 0) (h2 : m ≠ 0 → p.co (m - 1) ≠ 0) : p.ts.length = m := by
  have hp := p.hb
  have z : ∀ k, p.co k = 0 ↔ p.ts.getD k 0 = 0 := fun k => by
    unfold Pol.co
    constructor
    · intro h
      have e : Rat.divInt (p.ts.getD k 0) p.b = Rat.divInt 0 1 := by rw [h, Rat.zero_divInt]
      have := (Rat.divInt_eq_divInt_iff (by omega) (by omega)).mp e
      omega
    · intro h; rw [h]; simp
  rcases Nat.lt_trichotomy p.ts.length m with h | h | h
  · exfalso
    refine h2 (by omega) ((z _).mpr ?_)
    rw [List.getD_eq_getElem?_getD, List.getElem?_eq_none (by omega)]; rfl
  · exact h
  · exfalso
    have hn : p.ts ≠ [] := fun e => by rw [e] at h; simp at h
    exact tr_get p.ht hn ((z _).mp (h1 _ (by omega)))
end NW
namespace NW
open PySem PySem.Spec PyProof.Rows L2
def evC : Nat → (Nat → Rat) → Rat → Rat
  | 0, _, _ => 0
  | n + 1, f, x => f 0 + x * evC n (fun k => f (k + 1)) x
theorem evC_add {x : Rat} : ∀ {n : Nat} {f g : Nat → Rat}, evC n (fun k => f k + g k) x = evC n f x + evC n g x
  | 0, _, _ => by simp [evC]; grind
  | n + 1, f, g => by rw [evC, evC, evC, evC_add]; grind
theorem evC_mul {x c : Rat} : ∀ {n : Nat} {f : Nat → Rat}, evC n (fun k => c * f k) x = c * evC n f x
  | 0, _ => by simp [evC]
  | n + 1, f => by rw [evC, evC, evC_mul]; grind
theorem evC_evZ {x : Rat} : ∀ {ts : List Int} {n : Nat}, ts.length ≤ n → evC n (fun k => ((ts.getD k 0 : Int) : Rat)) x = evZ ts x
  | [], n, _ => by
    induction n with
    | zero => rfl
    | succ n ih =>
      have := ih (by simp)
      simp [evZ] at this
      rw [evC]
      simp [this, evZ]; grind
  | t :: ts, 0, h => by simp at h
  | t :: ts, n + 1, h => by
    rw [evC, evZ]
    have := evC_evZ (x := x) (ts := ts) (n := n) (by simpa using h)
    simp only [List.getD_cons_zero, List.getD_cons_succ]
    rw [this]
theorem divInt_div (a : Int) (b : Int) : Rat.divInt a b = (a : Rat) / (b : Rat) := by
  rw [Rat.divInt_eq_div]
theorem Pol.bne (p : Pol) : ((p.b : Int) : Rat) ≠ 0 := by
  have := p.hb
  intro e; have := Rat.intCast_eq_zero_iff.mp e; omega
theorem ev_co {p : Pol} {n : Nat} {x : Rat} (h : p.ts.length ≤ n) : p.ev x = evC n p.co x := by
  have e : p.co = fun k => (1 / ((p.b : Int) : Rat)) * ((p.ts.getD k 0 : Int) : Rat) := funext fun k => by
    unfold Pol.co
    rw [divInt_div]; grind
  rw [e, evC_mul, evC_evZ h]
  unfold Pol.ev
  grind
end NW
namespace NW
open PySem PySem.Spec PyProof.Rows L2
section
variable {l : Loc} {st : Sto} {P : List PyData → Sto → Prop}
@[simp] theorem to_lOp {f : U → U → Sto → Res (List PyData)} {a b : ME} : (lOp f a b l st).To P ↔ (a l st).To fun x s => (b l s).To fun y s => (f x y s).To P := by unfold lOp; simp
@[simp] theorem to_rep1 {x : PyData} {k : Int} : (fRep (.d (.list [x])) (.d (.int k)) st).To P ↔ (-(2 ^ 63) ≤ k ∧ k < 2 ^ 63 ∧ k.toNat ≤ 16777216) ∧ P (List.replicate k.toNat x) st := by
  have e : (List.replicate k.toNat [x]).flatten = List.replicate k.toNat x := by
    generalize k.toNat = n
    induction n with
    | zero => rfl
    | succ n ih => rw [List.replicate_succ, List.flatten_cons, ih, List.replicate_succ]; rfl
  show (if (decide (-(2 ^ 63) ≤ k ∧ k < 2 ^ 63) && lenOk ([x].length * k.toNat)) = true then Res.ok (List.replicate k.toNat [x]).flatten st else .no).To P ↔ _
  rw [to_ite, e]
  simp only [Bool.and_eq_true, decide_eq_true_eq, lenOk_small, List.length_singleton, Nat.one_mul]
  split
  · rename_i h; exact ⟨fun z => ⟨⟨h.1.1, h.1.2, h.2⟩, z⟩, fun z => z.2⟩
  · rename_i h; exact ⟨fun z => z.elim, fun z => (h ⟨⟨z.1.1, z.1.2.1⟩, z.1.2.2⟩).elim⟩
end
def PBt (n m : Nat) (p : Pol) : Prop := p.ts.length ≤ m ∧ p.b < 2 ^ n ∧ ∀ t, t ∈ p.ts → t.natAbs < 2 ^ n
theorem PBt.get {n m : Nat} {p : Pol} (h : PBt n m p) (k : Nat) : (p.ts.getD k 0).natAbs < 2 ^ n := by
  rw [List.getD_eq_getElem?_getD]
  cases e : p.ts[k]? with
  | none => simp [Nat.two_pow_pos]
  | some t => exact h.2.2 t (List.mem_of_getElem? e)
def sumL (p q : Pol) : List Int := (List.range (max p.ts.length q.ts.length)).map fun k => p.ts.getD k 0 * q.b + q.ts.getD k 0 * p.b
instance : Add Pol := ⟨fun p q => mk (sumL p q) (p.b * q.b)⟩
theorem sumL_get {p q : Pol} {k : Nat} : (sumL p q).getD k 0 = p.ts.getD k 0 * q.b + q.ts.getD k 0 * p.b := by
  unfold sumL
  rw [List.getD_eq_getElem?_getD, List.getElem?_map]
  by_cases h : k < max p.ts.length q.ts.length
  · rw [List.getElem?_range h]; rfl
  · rw [List.getElem?_eq_none (by simp; omega)]
    rw [List.getD_eq_getElem?_getD, List.getD_eq_getElem?_getD, List.getElem?_eq_none (by omega), List.getElem?_eq_none (by omega)]
    simp
theorem co_add {p q : Pol} {k : Nat} : (p + q).co k = p.co k + q.co k := by
  have hp := p.hb
  have hq := q.hb
  show (mk (sumL p q) (p.b * q.b)).co k = _
  rw [co_mk (Nat.mul_pos hp hq), sumL_get]
  unfold Pol.co
  rw [Rat.divInt_add_divInt _ _ (by omega) (by omega), Int.natCast_mul]
theorem ev_add {p q : Pol} {x : Rat} : (p + q).ev x = p.ev x + q.ev x := by
  have e : (p + q).co = fun k => p.co k + q.co k := funext fun k => co_add
  rw [ev_co (n := max (p + q).ts.length (max p.ts.length q.ts.length)) (by omega), e, evC_add, ← ev_co (by omega), ← ev_co (by omega)]
section
variable {st : Sto} {Q : U → Sto → Prop} {p : Pol}
@[simp] theorem to_ixP0 : (fIx (.d (polyD p)) (.d (.int 0)) st).To Q ↔ Q (.d (.tuple (p.ts.map .int))) st := Iff.rfl
@[simp] theorem to_ixP1 : (fIx (.d (polyD p)) (.d (.int 1)) st).To Q ↔ Q (.d (.int p.b)) st := Iff.rfl
end
theorem for_ix {d : ItD} {t : MT} {b : MS} {N : Loc → Sto → Prop} {R : U → Sto → Prop} (I : Nat → Loc → Sto → Prop) {xs : List PyData} {l : Loc} {st : Sto} (hk : ∀ k l st, I k l st → d.chk st) (start : I 0 l st)
    (step : ∀ k x l st, xs[k]? = some x → I k l st → (t (.d x) l st).To fun l s => (b l s).To (I (k + 1)) R) (fin : ∀ l st, I xs.length l st → N l st) : (forM d t b xs l st).To N R := by
  refine for_to (I := fun ys l s => ∃ k, I k l s ∧ ∃ zs, xs = zs ++ ys ∧ zs.length = k) (fun _ _ _ ⟨k, h, _⟩ => hk k _ _ h) ?_ ?_ xs l st ⟨0, start, [], rfl, rfl⟩
  · rintro x ys l s ⟨k, h, zs, rfl, rfl⟩
    refine (step zs.length x l s (by simp) h).mono ?_
    intro l1 s1 h1
    exact h1.mono (fun l2 s2 h2 => ⟨_, h2, zs ++ [x], by simp, by simp⟩) (fun _ _ z => z)
  · rintro l s ⟨k, h, zs, e, rfl⟩
    rw [List.append_nil] at e
    subst e
    exact fin l s h
end NW
namespace NW
open PySem PySem.Spec PyProof.Rows L2
def Pol.sc (p : Pol) (r : Rat) : Pol := NW.mk (p.ts.map fun t => t * r.num) (p.b * r.den)
theorem co_sc {p : Pol} {r : Rat} {k : Nat} : (p.sc r).co k = p.co k * r := by
  have hp := p.hb
  have hr := r.den_pos
  unfold Pol.sc
  rw [co_mk (Nat.mul_pos hp hr), getD_map (by simp)]
  unfold Pol.co
  conv => rhs; rw [← Rat.num_divInt_den r]
  rw [Rat.divInt_mul_divInt, Int.natCast_mul]
theorem evC_mulr {x c : Rat} : ∀ {n : Nat} {f : Nat → Rat}, evC n (fun k => f k * c) x = evC n f x * c
  | 0, _ => by simp [evC]
  | n + 1, f => by rw [evC, evC, evC_mulr]; grind
theorem ev_sc {p : Pol} {r x : Rat} : (p.sc r).ev x = p.ev x * r := by
  have e : (p.sc r).co = fun k => p.co k * r := funext fun k => co_sc
  rw [ev_co (n := max (p.sc r).ts.length p.ts.length) (by omega), e, evC_mulr, ← ev_co (by omega)]
end NW
namespace NW
open PySem PySem.Spec PyProof.Rows L2
@[simp] theorem shaped_poly {p : Pol} : SeqAt.shaped (polyD p) = true := by
  have c : ∀ ts : List Int, PyData.canLayAll0 (ts.map .int) = true ∧ PyData.depthAll (ts.map .int) ≤ 0 := by
    intro ts
    induction ts with
    | nil => exact ⟨rfl, by simp [PyData.depthAll]⟩
    | cons t ts ih => exact ⟨by simp [PyData.canLayAll0, PyData.canLay0, ih.1], by simpa [PyData.depthAll, PyData.depth] using ih.2⟩
  have := c p.ts
  simp [polyD, SeqAt.shaped, PyData.canLay0, PyData.canLayAll0, PyData.depth, PyData.depthAll, this.1]
  omega
theorem eqvAll_ints : ∀ {ts us : List Int}, PyData.eqvAll (ts.map .int) (us.map .int) = decide (ts = us)
  | [], [] => by simp [PyData.eqvAll]
  | [], _ :: _ => by simp [PyData.eqvAll]
  | _ :: _, [] => by simp [PyData.eqvAll]
  | t :: ts, u :: us => by
    rw [List.map_cons, List.map_cons, PyData.eqvAll, eqvAll_ints, eqv_int, ← Bool.decide_and]
    exact decide_eq_decide.mpr (by rw [List.cons.injEq])
@[simp] theorem eqv_poly {p q : Pol} : PyData.eqv (polyD p) (polyD q) = true ↔ p = q := by
  simp only [polyD, PyData.eqv, PyData.eqvAll, eqvAll_ints]
  simp
  constructor
  · rintro ⟨a, b⟩
    cases p; cases q
    simp at a b
    have b' := Int.ofNat.inj b
    subst a; subst b'; rfl
  · rintro rfl; simp
theorem mk_b_le {ts : List Int} {b : Nat} (hb : 0 < b) : (mk ts b).b ≤ b := by
  unfold mk
  rw [dif_pos hb]
  exact Nat.div_le_self _ _
theorem lcms_lt {n : Nat} : ∀ {qs : List Rat} {b m : Nat}, (∀ q, q ∈ qs → FB n q) → b < 2 ^ m → lcms b qs < 2 ^ (m + qs.length * n)
  | [], b, m, _, h => by simpa [lcms] using h
  | q :: qs, b, m, hq, h => by
    rw [lcms]
    have := lcms_lt (fun r hr => hq r (List.mem_cons_of_mem _ hr)) (lcm_lt h (hq q (by simp)).2)
    refine Nat.lt_of_lt_of_le this (Nat.pow_le_pow_right (by omega) ?_)
    simp [Nat.add_mul]; omega
end NW
namespace NW
open PySem PySem.Spec PyProof.Rows L2
def addZ : List Int → List Int → List Int
  | [], us => us
  | t :: ts, [] => t :: ts
  | t :: ts, u :: us => (t + u) :: addZ ts us
def mulZ : List Int → List Int → List Int
  | [], _ => []
  | t :: ts, us => addZ (us.map fun u => t * u) (0 :: mulZ ts us)
theorem evZ_addZ {x : Rat} : ∀ {ts us : List Int}, evZ (addZ ts us) x = evZ ts x + evZ us x
  | [], us => by rw [addZ]; simp [evZ]; grind
  | t :: ts, [] => by rw [addZ]; simp [evZ]; grind
  | t :: ts, u :: us => by rw [addZ, evZ, evZ, evZ, evZ_addZ, Rat.intCast_add]; grind
theorem evZ_mulZ {x : Rat} : ∀ {ts us : List Int}, evZ (mulZ ts us) x = evZ ts x * evZ us x
  | [], us => by rw [mulZ]; simp [evZ]
  | t :: ts, us => by rw [mulZ, evZ_addZ, evZ_mul, evZ, evZ, evZ_mulZ]; simp; grind
theorem addZ_len : ∀ {ts us : List Int} {m : Nat}, ts.length ≤ m → us.length ≤ m → (addZ ts us).length ≤ m
  | [], us, m, _, h => h
  | t :: ts, [], m, h, _ => h
  | t :: ts, u :: us, 0, h, _ => by simp at h
  | t :: ts, u :: us, m + 1, h, h' => by
    rw [addZ, List.length_cons]
    have := addZ_len (ts := ts) (us := us) (m := m) (by simpa using h) (by simpa using h')
    omega
theorem mulZ_len : ∀ {ts us : List Int}, (mulZ ts us).length ≤ ts.length + us.length
  | [], us => by simp [mulZ]
  | t :: ts, us => by
    rw [mulZ]
    refine addZ_len ?_ ?_
    · simp
    · have := mulZ_len (ts := ts) (us := us)
      simp; omega
def BZ (B : Nat) (ts : List Int) : Prop := ∀ t, t ∈ ts → t.natAbs ≤ B
theorem BZ.add {A B : Nat} : ∀ {ts us : List Int}, BZ A ts → BZ B us → BZ (A + B) (addZ ts us)
  | [], us, _, h => fun t ht => Nat.le_trans (h t ht) (by omega)
  | t :: ts, [], h, _ => fun u hu => Nat.le_trans (h u hu) (by omega)
  | t :: ts, u :: us, h, h' => fun w hw => by
    rw [addZ] at hw
    rcases List.mem_cons.mp hw with rfl | hw
    · have a := h t (by simp)
      have b := h' u (by simp)
      omega
    · exact BZ.add (fun x hx => h x (by simp [hx])) (fun x hx => h' x (by simp [hx])) w hw
theorem BZ.mul {A B : Nat} : ∀ {ts us : List Int}, BZ A ts → BZ B us → BZ (ts.length * (A * B)) (mulZ ts us)
  | [], us, _, _ => fun t ht => by rw [mulZ] at ht; cases ht
  | t :: ts, us, h, h' => by
    rw [mulZ]
    have ih := BZ.mul (ts := ts) (us := us) (fun x hx => h x (by simp [hx])) h'
    have := BZ.add (A := A * B) (B := ts.length * (A * B)) (ts := us.map fun u => t * u) (us := 0 :: mulZ ts us) (fun w hw => by
      obtain ⟨u, hu, rfl⟩ := List.mem_map.mp hw
      rw [Int.natAbs_mul]
      exact Nat.mul_le_mul (h t (by simp)) (h' u hu)) (fun w hw => by
      rcases List.mem_cons.mp hw with rfl | hw
      · simp
      · exact ih w hw)
    have e : A * B + ts.length * (A * B) = (t :: ts).length * (A * B) := by
      rw [List.length_cons, Nat.add_mul, Nat.one_mul, Nat.add_comm]
    rw [← e]; exact this
instance : Mul Pol := ⟨fun p q => mk (mulZ p.ts q.ts) (p.b * q.b)⟩
theorem ev_mul {p q : Pol} {x : Rat} : (p * q).ev x = p.ev x * q.ev x := by
  show (mk (mulZ p.ts q.ts) (p.b * q.b)).ev x = _
  rw [ev_mk (Nat.mul_pos p.hb q.hb), evZ_mulZ]
  unfold Pol.ev
  have a := p.bne
  have b := q.bne
  rw [Int.natCast_mul, Rat.intCast_mul]
  grind
theorem PBt.mk {ts : List Int} {b n m : Nat} (hb : 0 < b) (h1 : ts.length ≤ m) (h2 : b < 2 ^ n) (h3 : ∀ t, t ∈ ts → t.natAbs < 2 ^ n) : PBt n m (NW.mk ts b) := by
  have hbl := mk_b_le (ts := ts) hb
  refine ⟨?_, by omega, fun t ht => ?_⟩
  · unfold NW.mk
    rw [dif_pos hb]
    simp [mkT]; omega
  · unfold NW.mk at ht
    rw [dif_pos hb] at ht
    obtain ⟨u, hu, rfl⟩ := List.mem_map.mp ht
    refine Nat.lt_of_le_of_lt (Int.natAbs_ediv_le_natAbs _ _) (h3 u (List.mem_of_mem_take hu))
theorem PBt.mono {n m n' m' : Nat} {p : Pol} (h : PBt n m p) (hn : n ≤ n') (hm : m ≤ m') : PBt n' m' p :=
  ⟨Nat.le_trans h.1 hm, Nat.lt_of_lt_of_le h.2.1 (Nat.pow_le_pow_right (by omega) hn), fun t ht => Nat.lt_of_lt_of_le (h.2.2 t ht) (Nat.pow_le_pow_right (by omega) hn)⟩
theorem PBt.add {n1 n2 m : Nat} {p q : Pol} (hp : PBt n1 m p) (hq : PBt n2 m q) : PBt (n1 + n2 + 1) m (p + q) := by
  have hpw : 2 ^ (n1 + n2 + 1) = 2 ^ n1 * 2 ^ n2 + 2 ^ n1 * 2 ^ n2 := by rw [Nat.pow_succ, Nat.pow_add]; omega
  have hbb : p.b * q.b < 2 ^ n1 * 2 ^ n2 := Nat.mul_lt_mul'' hp.2.1 hq.2.1
  refine PBt.mk (Nat.mul_pos p.hb q.hb) ?_ (by omega) fun t ht => ?_
  · have := hp.1; have := hq.1
    simp [sumL]; omega
  · obtain ⟨k, hk, rfl⟩ := List.mem_map.mp ht
    have a : (p.ts.getD k 0 * q.b).natAbs < 2 ^ n1 * 2 ^ n2 := by
      rw [Int.natAbs_mul, Int.natAbs_natCast]; exact Nat.mul_lt_mul'' (hp.get k) hq.2.1
    have b : (q.ts.getD k 0 * p.b).natAbs < 2 ^ n1 * 2 ^ n2 := by
      rw [Int.natAbs_mul, Int.natAbs_natCast, Nat.mul_comm]; exact Nat.mul_lt_mul'' hp.2.1 (hq.get k)
    omega
theorem PBt.mul {n1 n2 m1 m2 : Nat} {p q : Pol} (hp : PBt n1 m1 p) (hq : PBt n2 m2 q) (hm : m1 ≤ 1000) : PBt (n1 + n2 + 10) (m1 + m2) (p * q) := by
  have hpw : 2 ^ (n1 + n2 + 10) = 1024 * (2 ^ n1 * 2 ^ n2) := by rw [Nat.pow_add, Nat.pow_add]; omega
  have hbb : p.b * q.b < 2 ^ n1 * 2 ^ n2 := Nat.mul_lt_mul'' hp.2.1 hq.2.1
  have h1 := hp.1
  have h2 := hq.1
  refine PBt.mk (Nat.mul_pos p.hb q.hb) ?_ (by omega) fun t ht => ?_
  · have := mulZ_len (ts := p.ts) (us := q.ts)
    omega
  · have z := BZ.mul (A := 2 ^ n1) (B := 2 ^ n2) (ts := p.ts) (us := q.ts) (fun t ht => Nat.le_of_lt (hp.2.2 t ht)) (fun t ht => Nat.le_of_lt (hq.2.2 t ht)) t ht
    have : p.ts.length * (2 ^ n1 * 2 ^ n2) ≤ 1000 * (2 ^ n1 * 2 ^ n2) := Nat.mul_le_mul_right _ (by omega)
    have : 0 < 2 ^ n1 * 2 ^ n2 := Nat.mul_pos (Nat.two_pow_pos _) (Nat.two_pow_pos _)
    omega
theorem PBt.sc {n1 n2 m : Nat} {p : Pol} {r : Rat} (hp : PBt n1 m p) (hr : FB n2 r) : PBt (n1 + n2) m (p.sc r) := by
  have hpw : 2 ^ (n1 + n2) = 2 ^ n1 * 2 ^ n2 := by rw [Nat.pow_add]
  refine PBt.mk (Nat.mul_pos p.hb r.den_pos) (by simpa using hp.1) (by rw [hpw]; exact Nat.mul_lt_mul'' hp.2.1 hr.2) fun t ht => ?_
  obtain ⟨u, hu, rfl⟩ := List.mem_map.mp ht
  rw [hpw, Int.natAbs_mul]
  exact Nat.mul_lt_mul'' (hp.2.2 u hu) hr.1
end NW
namespace NW
open PySem PySem.Spec PyProof.Rows L2
section
variable {st : Sto} {Q : U → Sto → Prop}
@[simp] theorem to_mPop {k : Nat} : (mPop (.ref k) [] st).To Q ↔ ∃ xs y, st.obs[k]? = some (.lst xs) ∧ xs[xs.length - 1]? = some y ∧ Q (.d y) (st.put k xs.dropLast) := by
  unfold mPop
  cases e : ownL st (.ref k) with
  | none =>
    refine ⟨fun w => w.elim, fun ⟨xs, y, h, _⟩ => ?_⟩
    rw [ownL_ref.mpr ⟨h, rfl⟩] at e; cases e
  | some p =>
    obtain ⟨j, ys⟩ := p
    obtain ⟨e1, rfl⟩ := ownL_ref.mp e
    show (match ys[ys.length - 1]? with
      | some y => Res.ok (U.d y) (st.put j ys.dropLast)
      | none => .no).To Q ↔ _
    cases e2 : ys[ys.length - 1]? with
    | none =>
      refine ⟨fun w => w.elim, fun ⟨xs, y, h, h2, _⟩ => ?_⟩
      rw [e1] at h; cases h; rw [e2] at h2; cases h2
    | some y =>
      refine ⟨fun w => ⟨ys, y, e1, e2, w⟩, fun ⟨xs, z, h, h2, w⟩ => ?_⟩
      rw [e1] at h; cases h; rw [e2] at h2; cases h2; exact w
theorem SeqD.lst {S : PyData} {xs : List PyData} (h : SeqD S xs) {P : List PyData → Sto → Prop} : (cListOf [.d S] st).To P ↔ P xs st := by rcases h with rfl | rfl <;> exact Iff.rfl
end
end NW
namespace NW
open PySem PySem.Spec PyProof.Rows L2
def Pol.one : Pol := ⟨[1], 1, by decide, by simp [Tr], rfl⟩
def Pol.zero : Pol := ⟨[], 1, by decide, trivial, rfl⟩
def Pol.X : Pol := ⟨[0, 1], 1, by decide, by simp [Tr], rfl⟩
theorem ev_X {x : Rat} : Pol.X.ev x = x := by simp [Pol.ev, Pol.X, evZ]; grind
theorem PBt.one : PBt 1 1 Pol.one := ⟨by simp [Pol.one], by decide, by simp [Pol.one]⟩
theorem PBt.zero : PBt 1 1 Pol.zero := ⟨by simp [Pol.zero], by decide, by simp [Pol.zero]⟩
theorem PBt.X : PBt 1 2 Pol.X := ⟨by simp [Pol.X], by decide, by simp [Pol.X]⟩
def Pol.pw (p : Pol) : Nat → Pol
  | 0 => Pol.one
  | k + 1 => p.pw k * p
theorem PBt.pw {n m : Nat} {p : Pol} (h : PBt n m p) : ∀ {k : Nat}, k * m + 1 ≤ 1000 → PBt (k * (n + 10) + 1) (k * m + 1) (p.pw k)
  | 0, _ => PBt.one.mono (by omega) (by omega)
  | k + 1, hk => by
    have e : (k + 1) * m = k * m + m := by rw [Nat.add_mul, Nat.one_mul]
    have e2 : (k + 1) * (n + 10) = k * (n + 10) + (n + 10) := by rw [Nat.add_mul, Nat.one_mul]
    exact ((PBt.pw h (k := k) (by omega)).mul h (by omega)).mono (by omega) (by omega)
def hz (b : Nat) (g : Pol) : List Int → Pol
  | [] => Pol.zero
  | t :: ts => hz b g ts * g + mk [t] b
def Pol.comp (f g : Pol) : Pol := hz f.b g f.ts
theorem hz_sz {b n n2 m : Nat} {g : Pol} (hb : 0 < b) (hbn : b < 2 ^ n) (hg : PBt n2 m g) : ∀ {ts : List Int}, (∀ t, t ∈ ts → t.natAbs < 2 ^ n) → ts.length * m + 1 ≤ 1000 → PBt (ts.length * (n + n2 + 11) + 1) (ts.length * m + 1) (hz b g ts)
  | [], _, _ => by simpa [hz] using PBt.zero
  | t :: ts, ht, hl => by
    rw [List.length_cons] at hl ⊢
    have e : (ts.length + 1) * m = ts.length * m + m := by rw [Nat.add_mul, Nat.one_mul]
    have e2 : (ts.length + 1) * (n + n2 + 11) = ts.length * (n + n2 + 11) + (n + n2 + 11) := by rw [Nat.add_mul, Nat.one_mul]
    have ih := hz_sz hb hbn hg (ts := ts) (fun u hu => ht u (by simp [hu])) (by omega)
    have h1 := ih.mul hg (by omega)
    have h2 : PBt n (ts.length * m + 1 + m) (mk [t] b) := PBt.mk hb (by simp; omega) hbn (by simpa using ht t (by simp))
    exact (h1.add h2).mono (by omega) (by omega)
theorem PBt.comp {n n2 m1 m : Nat} {f g : Pol} (hf : PBt n m1 f) (hg : PBt n2 m g) (hl : m1 * m + 1 ≤ 1000) : PBt (m1 * (n + n2 + 11) + 1) (m1 * m + 1) (f.comp g) := by
  have h1 : f.ts.length * m ≤ m1 * m := Nat.mul_le_mul_right _ hf.1
  have h2 : f.ts.length * (n + n2 + 11) ≤ m1 * (n + n2 + 11) := Nat.mul_le_mul_right _ hf.1
  exact (hz_sz f.hb hf.2.1 hg hf.2.2 (by omega)).mono (by omega) (by omega)
theorem FB.mul2 {p q : Rat} {a b : Nat} (hp : FB a p) (hq : FB b q) : FB (a + b) (p * q) := by
  rw [← mul_divInt]
  exact FB.of_divInt (Int.mul_ne_zero (den_ne p) (den_ne q)) (by rw [Int.natAbs_mul, Nat.pow_add]; exact Nat.mul_lt_mul'' hp.1 hq.1) (by rw [Int.natAbs_mul, Nat.pow_add]; exact Nat.mul_lt_mul'' hp.2 hq.2)
theorem FB.div2 {p q : Rat} {a b : Nat} (hp : FB a p) (hq : FB b q) (hz : q ≠ 0) : FB (a + b) (p / q) := by
  have hz' : q.num ≠ 0 := fun e => hz (Rat.num_eq_zero.mp e)
  rw [← div_divInt]
  exact FB.of_divInt (Int.mul_ne_zero (den_ne p) hz') (by rw [Int.natAbs_mul, Nat.pow_add]; exact Nat.mul_lt_mul'' hp.1 hq.2) (by rw [Int.natAbs_mul, Nat.pow_add]; exact Nat.mul_lt_mul'' hp.2 hq.1)
theorem FB.int {n : Nat} {t : Int} (h : t.natAbs < 2 ^ n) (h0 : 0 < n) : FB n (t : Rat) := ⟨h, by have : 2 ≤ 2 ^ n := Nat.le_self_pow (by omega) 2; show 1 < 2 ^ n; omega⟩
end NW
namespace NW
open PySem PySem.Spec PyProof.Rows L2
instance : Sub Pol := ⟨fun p q => p + q.sc (-1)⟩
theorem ev_sub {p q : Pol} {x : Rat} : (p - q).ev x = p.ev x - q.ev x := by
  show (p + q.sc (-1)).ev x = _
  rw [ev_add, ev_sc]; grind
theorem FB_m1 : FB 1 (-1) := ⟨by decide, by decide⟩
theorem PBt.sub {n1 n2 m : Nat} {p q : Pol} (hp : PBt n1 m p) (hq : PBt n2 m q) : PBt (n1 + n2 + 2) m (p - q) := (hp.add (hq.sc FB_m1)).mono (by omega) (by omega)
theorem co_zero_of {p : Pol} {k : Nat} (h : p.ts.length ≤ k) : p.co k = 0 := by
  unfold Pol.co
  rw [List.getD_eq_getElem?_getD, List.getElem?_eq_none h]; simp
@[simp] theorem ex_src {α β : Type} {A : α} {B : β} {C : α → β → Prop} : (∃ xs own, (A = xs ∧ own = B) ∧ C xs own) ↔ C A B := ⟨fun ⟨_, _, ⟨rfl, rfl⟩, h⟩ => h, fun h => ⟨_, _, ⟨rfl, rfl⟩, h⟩⟩
end NW
namespace NW
open PySem PySem.Spec PyProof.Rows L2
def smI : Nat → (Nat → Int) → Int
  | 0, _ => 0
  | n + 1, f => smI n f + f n
def sm : Nat → (Nat → Rat) → Rat
  | 0, _ => 0
  | n + 1, f => sm n f + f n
theorem smI_succ {f : Nat → Int} : ∀ {n : Nat}, smI (n + 1) f = f 0 + smI n fun k => f (k + 1)
  | 0 => by simp [smI]
  | n + 1 => by rw [smI, smI_succ, smI]; omega
theorem smI_cast {f : Nat → Int} : ∀ {n : Nat}, ((smI n f : Int) : Rat) = sm n fun k => (f k : Rat)
  | 0 => by simp [smI, sm]
  | n + 1 => by rw [smI, sm, Rat.intCast_add, smI_cast]
theorem sm_mul {c : Rat} {f : Nat → Rat} : ∀ {n : Nat}, sm n (fun k => c * f k) = c * sm n f
  | 0 => by simp [sm]
  | n + 1 => by rw [sm, sm_mul, sm]; grind
theorem sm_congr {f g : Nat → Rat} : ∀ {n : Nat}, (∀ k, k < n → f k = g k) → sm n f = sm n g
  | 0, _ => rfl
  | n + 1, h => by rw [sm, sm, sm_congr fun k hk => h k (by omega), h n (by omega)]
theorem sm_zero {f : Nat → Rat} {n : Nat} (h : ∀ k, k < n → f k = 0) : sm n f = 0 := by
  induction n with
  | zero => rfl
  | succ n ih => rw [sm, ih fun k hk => h k (by omega), h n (by omega)]; grind
theorem smI_zero {f : Nat → Int} {n : Nat} (h : ∀ k, k < n → f k = 0) : smI n f = 0 := by
  induction n with
  | zero => rfl
  | succ n ih => rw [smI, ih fun k hk => h k (by omega), h n (by omega)]; rfl
theorem addZ_get : ∀ {ts us : List Int} {k : Nat}, (addZ ts us).getD k 0 = ts.getD k 0 + us.getD k 0
  | [], us, k => by simp [addZ]
  | t :: ts, [], k => by simp [addZ]
  | t :: ts, u :: us, 0 => by simp [addZ]
  | t :: ts, u :: us, k + 1 => by
    have := addZ_get (ts := ts) (us := us) (k := k)
    simpa [addZ] using this
theorem mulZ_get : ∀ {ts us : List Int} {k : Nat}, (mulZ ts us).getD k 0 = smI (k + 1) fun j => ts.getD j 0 * us.getD (k - j) 0
  | [], us, k => by rw [mulZ, smI_zero fun j _ => by simp]; simp
  | t :: ts, us, 0 => by rw [mulZ, addZ_get, getD_map (by simp)]; simp [smI]
  | t :: ts, us, k + 1 => by
    rw [mulZ, addZ_get, getD_map (by simp), List.getD_cons_succ, mulZ_get]
    conv => rhs; rw [smI_succ]
    simp only [List.getD_cons_zero, List.getD_cons_succ, Nat.sub_zero, Nat.add_sub_add_right]
theorem co_mul {p q : Pol} {k : Nat} : (p * q).co k = sm (k + 1) fun j => p.co j * q.co (k - j) := by
  show (mk (mulZ p.ts q.ts) (p.b * q.b)).co k = _
  have a := p.bne
  have b := q.bne
  rw [co_mk (Nat.mul_pos p.hb q.hb), mulZ_get, divInt_div, smI_cast, Int.natCast_mul, Rat.intCast_mul]
  have : ∀ x : Rat, x / (((p.b : Int) : Rat) * ((q.b : Int) : Rat)) = (1 / (((p.b : Int) : Rat) * ((q.b : Int) : Rat))) * x := fun x => by grind
  rw [this, ← sm_mul]
  refine sm_congr fun j _ => ?_
  unfold Pol.co
  rw [divInt_div, divInt_div, Rat.intCast_mul]
  grind
theorem len_le {p : Pol} {m : Nat} (h : ∀ k, m ≤ k → p.co k = 0) : p.ts.length ≤ m := by
  by_cases hl : p.ts.length ≤ m
  · exact hl
  · exfalso
    have hn : p.ts ≠ [] := fun e => by rw [e] at hl; simp at hl
    have hb := p.hb
    have e := h (p.ts.length - 1) (by omega)
    unfold Pol.co at e
    have e2 : Rat.divInt (p.ts.getD (p.ts.length - 1) 0) p.b = Rat.divInt 0 1 := by rw [e, Rat.zero_divInt]
    have := (Rat.divInt_eq_divInt_iff (by omega) (by omega)).mp e2
    exact tr_get p.ht hn (by omega)
theorem co_lead {p : Pol} (h : p.ts ≠ []) : p.co (p.ts.length - 1) ≠ 0 := by
  have hb := p.hb
  intro e
  unfold Pol.co at e
  have e2 : Rat.divInt (p.ts.getD (p.ts.length - 1) 0) p.b = Rat.divInt 0 1 := by rw [e, Rat.zero_divInt]
  have := (Rat.divInt_eq_divInt_iff (by omega) (by omega)).mp e2
  exact tr_get p.ht h (by omega)
theorem mul_len {p q : Pol} : (p * q).ts.length ≤ p.ts.length + q.ts.length - 1 := len_le fun k hk => by
  rw [co_mul]
  refine sm_zero fun j hj => ?_
  by_cases h : p.ts.length ≤ j
  · rw [co_zero_of h]; simp
  · rw [co_zero_of (p := q) (k := k - j) (by omega)]; simp
end NW
namespace NW
open PySem PySem.Spec PyProof.Rows L2
theorem mk_len {ts : List Int} {b : Nat} : (mk ts b).ts.length ≤ ts.length := by
  unfold mk
  split
  · simp [mkT]; omega
  · simp
end NW
namespace NW
open PySem PySem.Spec PyProof.Rows L2
theorem PBt.ofC {qs : List Rat} {n : Nat} (hq : ∀ q, q ∈ qs → FB n q) (h0 : 0 < n) : PBt (n + 1 + qs.length * n) qs.length (NW.ofC qs) := by
  have hb : 0 < lcms 1 qs := lcms_pos (by decide)
  have hB : lcms 1 qs < 2 ^ (1 + qs.length * n) := lcms_lt hq (by decide)
  refine PBt.mk hb (by simp) (Nat.lt_of_lt_of_le hB (Nat.pow_le_pow_right (by omega) (by omega))) fun t ht => ?_
  obtain ⟨q, hq', rfl⟩ := List.mem_map.mp ht
  rw [Int.natAbs_mul, Int.natAbs_natCast, Nat.add_assoc, Nat.pow_add]
  exact Nat.mul_lt_mul'' (hq q hq').1 (Nat.lt_of_le_of_lt (Nat.div_le_self _ _) hB)
def Pol.lin (a b : Rat) : Pol := NW.ofC [b, a]
theorem PBt.lin {a b : Rat} {n : Nat} (ha : FB n a) (hb : FB n b) (h0 : 0 < n) : PBt (3 * n + 1) 2 (Pol.lin a b) :=
  (PBt.ofC (qs := [b, a]) (by simp [ha, hb]) h0).mono (by simp; omega) (by simp)
def Pol.inv (l : Pol) : Pol := Pol.lin (1 / l.co 1) (-(1 / l.co 1 * l.co 0))
theorem co_FB {p : Pol} {n m k : Nat} (h : PBt n m p) : FB n (p.co k) := by
  unfold Pol.co
  have := p.hb
  exact FB.of_divInt (by omega) (h.get k) (by simpa using h.2.1)
theorem inv_FB {l : Pol} {n m : Nat} (h : PBt n m l) (h0 : 0 < n) (hz : l.co 1 ≠ 0) : FB (n + 1) (1 / l.co 1) ∧ FB (2 * n + 1) (-(1 / l.co 1 * l.co 0)) := by
  have h1 : FB (n + 1) (1 / l.co 1) := ((FB.one (n := 1) (by omega)).div2 (co_FB h) hz).mono (by omega)
  exact ⟨h1, ((h1.mul2 (co_FB (k := 0) h)).neg).mono (by omega)⟩
theorem PBt.inv {l : Pol} {n m : Nat} (h : PBt n m l) (h0 : 0 < n) (hz : l.co 1 ≠ 0) : PBt (6 * n + 4) 2 l.inv := by
  obtain ⟨f1, f2⟩ := inv_FB h h0 hz
  exact (PBt.lin (f1.mono (by omega)) f2 (by omega)).mono (by omega) (by omega)
end NW
namespace NW
open PySem PySem.Spec PyProof.Rows L2
theorem pw_le {a b : Nat} (h : a ≤ b) : 2 ^ a ≤ 2 ^ b := Nat.pow_le_pow_right (by omega) h
def Pol.tu (A : Rat) : Nat → Pol
  | 0 => NW.mk [2] 1
  | 1 => Pol.X
  | n + 2 => Pol.X * Pol.tu A (n + 1) - (Pol.tu A n).sc A
theorem ev_tu0 {A x : Rat} : (Pol.tu A 0).ev x = 2 := by rw [Pol.tu, ev_mk (by decide)]; simp [evZ]; grind
theorem ev_tu1 {A x : Rat} : (Pol.tu A 1).ev x = x := ev_X
theorem ev_tu2 {A x : Rat} {n : Nat} : (Pol.tu A (n + 2)).ev x = x * (Pol.tu A (n + 1)).ev x - A * (Pol.tu A n).ev x := by rw [Pol.tu, ev_sub, ev_mul, ev_sc, ev_X]; grind
theorem BZ.scale {A B : Nat} {c : Int} {ts : List Int} (h : BZ A ts) (hc : c.natAbs ≤ B) : BZ (B * A) (ts.map fun t => c * t) := fun w hw => by
  obtain ⟨t, ht, rfl⟩ := List.mem_map.mp hw
  rw [Int.natAbs_mul]
  exact Nat.mul_le_mul hc (h t ht)
theorem tu_rep {A : Rat} {b : Nat} (hA : FB b A) : ∀ (n : Nat), ∃ ts : List Int, (∀ x, (Pol.tu A n).ev x = evZ ts x / (((A.den ^ n : Nat) : Int) : Rat)) ∧ ts.length ≤ n + 1 ∧ BZ (2 ^ ((b + 1) * n + 1)) ts
  | 0 => ⟨[2], fun x => by rw [ev_tu0]; simp [evZ]; grind, by simp, by simp [BZ]⟩
  | 1 => ⟨[0, (A.den : Int)], fun x => by
      rw [ev_tu1]
      have : ((A.den : Int) : Rat) ≠ 0 := fun e => den_ne A (Rat.intCast_eq_zero_iff.mp e)
      simp [evZ]
      grind, by simp, by
      have := hA.2
      have h2 : 2 ^ b ≤ 2 ^ ((b + 1) * 1 + 1) := pw_le (by omega)
      intro t ht
      simp at ht
      rcases ht with rfl | rfl
      · simp
      · simp; omega⟩
  | n + 2 => by
    obtain ⟨ts, e1, l1, s1⟩ := tu_rep hA n
    obtain ⟨us, e2, l2, s2⟩ := tu_rep hA (n + 1)
    refine ⟨addZ (0 :: us.map fun t => (A.den : Int) * t) (ts.map fun t => (-(A.num * A.den)) * t), fun x => ?_, addZ_len (by simp; omega) (by simp; omega), ?_⟩
    · rw [ev_tu2, e1, e2, evZ_addZ, evZ_mul, evZ, evZ_mul]
      have h1 : ((A.den : Int) : Rat) ≠ 0 := fun e => den_ne A (Rat.intCast_eq_zero_iff.mp e)
      have h2 : (((A.den ^ n : Nat) : Int) : Rat) ≠ 0 := fun e => by
        have := Rat.intCast_eq_zero_iff.mp e
        have := Nat.pow_pos (n := n) A.den_pos
        omega
      have h3 : (((A.den ^ (n + 1) : Nat) : Int) : Rat) = (((A.den ^ n : Nat) : Int) : Rat) * ((A.den : Int) : Rat) := by rw [Nat.pow_succ, Int.natCast_mul, Rat.intCast_mul]
      have h4 : (((A.den ^ (n + 2) : Nat) : Int) : Rat) = (((A.den ^ n : Nat) : Int) : Rat) * ((A.den : Int) : Rat) * ((A.den : Int) : Rat) := by rw [Nat.pow_succ, Int.natCast_mul, Rat.intCast_mul, h3]
      have eA := Rat.num_divInt_den A
      rw [divInt_div] at eA
      rw [h3, h4, Rat.intCast_neg, Rat.intCast_mul]
      generalize evZ ts x = u
      generalize evZ us x = v
      conv => lhs; rw [← eA]
      simp
      grind
    · have z0 : BZ (2 ^ b * 2 ^ ((b + 1) * (n + 1) + 1)) (0 :: us.map fun t => (A.den : Int) * t) := fun w hw => by
        rcases List.mem_cons.mp hw with rfl | hw
        · simp
        · exact s2.scale (by have := hA.2; omega) w hw
      have z1 := s1.scale (c := -(A.num * A.den)) (B := 2 ^ b * 2 ^ b) (by
        rw [Int.natAbs_neg, Int.natAbs_mul]
        exact Nat.mul_le_mul (Nat.le_of_lt hA.1) (Nat.le_of_lt hA.2))
      have z := z0.add z1
      refine fun w hw => Nat.le_trans (z w hw) ?_
      have q1 : (b + 1) * (n + 1) = (b + 1) * n + b + 1 := by rw [Nat.mul_add]; omega
      have q2 : (b + 1) * (n + 2) = (b + 1) * n + 2 * b + 2 := by rw [Nat.mul_add]; omega
      rw [← Nat.pow_add, ← Nat.pow_add, ← Nat.pow_add]
      have p1 : 2 ^ (b + ((b + 1) * (n + 1) + 1)) ≤ 2 ^ ((b + 1) * n + 2 * b + 2) := pw_le (by omega)
      have p2 : 2 ^ (b + b + ((b + 1) * n + 1)) ≤ 2 ^ ((b + 1) * n + 2 * b + 2) := pw_le (by omega)
      have p3 : 2 ^ ((b + 1) * (n + 2) + 1) = 2 * 2 ^ ((b + 1) * n + 2 * b + 2) := by
        rw [q2, Nat.pow_succ, Nat.mul_comm]
      omega
theorem PBt.tu {A : Rat} {b : Nat} (hA : FB b A) (n : Nat) : PBt ((b + 1) * n + 2) (n + 1) (Pol.tu A n) := by
  obtain ⟨ts, e, hl, hs⟩ := tu_rep hA n
  have hp := Nat.pow_pos (n := n) A.den_pos
  have : Pol.tu A n = NW.mk ts (A.den ^ n) := Pol.ext_ev fun x => by rw [e, ev_mk hp]
  rw [this]
  refine PBt.mk hp hl ?_ fun t ht => ?_
  · have h1 : A.den ^ n ≤ (2 ^ b) ^ n := Nat.pow_le_pow_left (Nat.le_of_lt hA.2) n
    rw [← Nat.pow_mul] at h1
    have h2 : 2 ^ (b * n) < 2 ^ ((b + 1) * n + 2) := Nat.pow_lt_pow_right (by omega) (by rw [Nat.add_mul]; omega)
    omega
  · refine Nat.lt_of_le_of_lt (hs t ht) (Nat.pow_lt_pow_right (by omega) (by omega))
@[simp] theorem idx_2 {n : Nat} : idxN (n + 3) 2 = some 2 := by
  unfold idxN
  rw [if_pos (by decide), if_pos (by omega)]; rfl
@[simp] theorem idx_3 {n : Nat} : idxN (n + 4) 3 = some 3 := by
  unfold idxN
  rw [if_pos (by decide), if_pos (by omega)]; rfl
end NW
namespace NW
open PySem PySem.Spec PyProof.Rows L2
def Pol.deg (p : Pol) : Nat := p.ts.length - 1
theorem co_mul_top {p q : Pol} : (p * q).co (p.deg + q.deg) = p.co p.deg * q.co q.deg := by
  rw [co_mul]
  have key : ∀ (n i : Nat) (f : Nat → Rat), i < n → (∀ j, j < n → j ≠ i → f j = 0) → sm n f = f i := by
    intro n
    induction n with
    | zero => intro i f h; omega
    | succ n ih =>
      intro i f hi hz
      rw [sm]
      by_cases e : i = n
      · subst e
        rw [sm_zero fun k hk => hz k (by omega) (by omega)]; grind
      · rw [ih i f (by omega) fun j hj => hz j (by omega), hz n (by omega) (Ne.symm e)]; grind
  rw [key (p.deg + q.deg + 1) p.deg _ (by omega) fun j hj hne => ?_]
  · congr 1
    congr 1
    omega
  · unfold Pol.deg at *
    by_cases h : p.ts.length ≤ j
    · rw [co_zero_of h]; simp
    · rw [co_zero_of (p := q) (k := p.ts.length - 1 + (q.ts.length - 1) - j) (by omega)]; simp
theorem len_mul {p q : Pol} (hp : p.ts ≠ []) (hq : q.ts ≠ []) : (p * q).ts.length = p.ts.length + q.ts.length - 1 := by
  have h1 := List.length_pos_iff.mpr hp
  have h2 := List.length_pos_iff.mpr hq
  refine Nat.le_antisymm mul_len ?_
  by_cases hl : p.ts.length + q.ts.length - 1 ≤ (p * q).ts.length
  · exact hl
  · exfalso
    have := co_mul_top (p := p) (q := q)
    rw [co_zero_of (by unfold Pol.deg; omega)] at this
    have a := co_lead hp
    have b := co_lead hq
    unfold Pol.deg at this
    grind
end NW
namespace NW
open PySem PySem.Spec PyProof.Rows L2
theorem mk_len_eq {ts : List Int} {t : Int} {b : Nat} (hb : 0 < b) (ht : t ≠ 0) : (mk (ts ++ [t]) b).ts.length = ts.length + 1 := len_of (fun k hk => by
  rw [co_mk hb, List.getD_eq_getElem?_getD, List.getElem?_eq_none (by simp; omega)]; simp) fun _ => by
  have e0 : (ts ++ [t])[ts.length + 1 - 1]? = some t := by simp
  rw [co_mk hb, List.getD_eq_getElem?_getD, e0]
  intro e
  have e2 : Rat.divInt t b = Rat.divInt 0 1 := by rw [Rat.zero_divInt]; exact e
  have := (Rat.divInt_eq_divInt_iff (by omega) (by omega)).mp e2
  omega
end NW
namespace NW
open PySem PySem.Spec PyProof.Rows L2
theorem PBt.rep {p : Pol} {n m D : Nat} {N : Nat → Int} (hD : 0 < D) (h1 : ∀ k, p.co k = Rat.divInt (N k) D) (h2 : D < 2 ^ n) (h3 : ∀ k, (N k).natAbs < 2 ^ n) (h4 : ∀ k, m ≤ k → p.co k = 0) : PBt n m p := by
  have : p = NW.mk ((List.range m).map N) D := Pol.ext_co fun k => by
    rw [co_mk hD, List.getD_eq_getElem?_getD, List.getElem?_map]
    by_cases hk : k < m
    · rw [List.getElem?_range hk]; exact h1 k
    · rw [List.getElem?_eq_none (by simp; omega), h4 k (by omega)]; simp
  rw [this]
  refine PBt.mk hD (by simp) h2 fun t ht => ?_
  obtain ⟨k, _, rfl⟩ := List.mem_map.mp ht
  exact h3 k
def Pol.mid (f : Pol) : Rat := f.co (f.deg - 1) / (((f.deg : Int) : Rat) * f.co f.deg)
def Pol.sh (f : Pol) : Pol := f.comp (Pol.lin 1 (-f.mid))
end NW
namespace NW
open PySem PySem.Spec PyProof.Rows L2
end NW
namespace NW
open PySem PySem.Spec PyProof.Rows L2
end NW
namespace NW
open PySem PySem.Spec PyProof.Rows L2
def Pol.nm (w : Pol) : Pol := (w - NW.ofC [w.co 0]).sc (1 / w.co w.deg)
end NW
namespace NW
open PySem PySem.Spec PyProof.Rows L2
theorem evC_snoc {x : Rat} : ∀ {n : Nat} {f : Nat → Rat}, evC (n + 1) f x = evC n f x + f n * x ^ n
  | 0, f => by simp [evC]; grind
  | n + 1, f => by
    rw [evC, evC_snoc (n := n) (f := fun k => f (k + 1)), evC]
    grind
theorem rpow_add {x : Rat} {a : Nat} : ∀ {b : Nat}, x ^ (a + b) = x ^ a * x ^ b
  | 0 => by simp
  | b + 1 => by rw [← Nat.add_assoc, Rat.pow_succ, rpow_add, Rat.pow_succ]; grind
theorem mul0 (t : Int) (us : List Int) : (us.map fun u => t * u).getD 0 0 = t * us.getD 0 0 := getD_map (by simp) us 0
theorem mulZ_zero {t : Int} {ts us : List Int} : (mulZ (t :: ts) us).getD 0 0 = t * us.getD 0 0 := by
  rw [mulZ, addZ_get, mul0]; simp
theorem mulZ_succ {t : Int} {ts us : List Int} {k : Nat} : (mulZ (t :: ts) us).getD (k + 1) 0 = t * us.getD (k + 1) 0 + (mulZ ts us).getD k 0 := by
  rw [mulZ, addZ_get, getD_map (by simp)]; simp
theorem addZ_length : ∀ {ts us : List Int}, (addZ ts us).length = max ts.length us.length
  | [], us => by simp [addZ]
  | t :: ts, [] => by simp [addZ]
  | t :: ts, u :: us => by rw [addZ, List.length_cons, addZ_length]; simp
theorem mulZ_length : ∀ {ts us : List Int}, us ≠ [] → ts ≠ [] → (mulZ ts us).length + 1 = ts.length + us.length
  | [], us, _, h => absurd rfl h
  | [t], us, h, _ => by
    have := List.length_pos_iff.mpr h
    simp [mulZ, addZ_length]; omega
  | t :: u :: ts, us, h, _ => by
    have ih := mulZ_length (ts := u :: ts) h (by simp)
    have := List.length_pos_iff.mpr h
    rw [mulZ, addZ_length]
    simp at ih ⊢
    omega
def WB (C E : Nat) (F : List Int) : Prop := ∀ k, (F.getD k 0).natAbs ≤ C * E ^ k
theorem WB.mul' : ∀ {F G : List Int} {C C' E : Nat}, WB C E F → WB C' E G → ∀ k, ((mulZ F G).getD k 0).natAbs ≤ (k + 1) * (C * C' * E ^ k)
  | [], G, C, C', E, _, _, k => by simp [mulZ]
  | t :: ts, G, C, C', E, hF, hG, 0 => by
    rw [mulZ_zero, Int.natAbs_mul]
    have a := hF 0
    have b := hG 0
    simp at a b ⊢
    exact Nat.mul_le_mul a (by simpa using b)
  | t :: ts, G, C, C', E, hF, hG, k + 1 => by
    rw [mulZ_succ]
    have ih := WB.mul' (F := ts) (G := G) (C := C * E) (C' := C') (E := E) (fun j => by
      have := hF (j + 1)
      rw [List.getD_cons_succ, Nat.pow_succ, Nat.mul_comm (E ^ j), ← Nat.mul_assoc] at this
      exact this) hG k
    have a := hF 0
    have b := hG (k + 1)
    simp at a
    have c := Nat.mul_le_mul a b
    rw [← Int.natAbs_mul] at c
    have e1 : C * (C' * E ^ (k + 1)) = C * C' * E ^ (k + 1) := by rw [Nat.mul_assoc]
    have e2 : C * E * C' * E ^ k = C * C' * E ^ (k + 1) := by rw [Nat.pow_succ]; ac_rfl
    rw [e1] at c
    rw [e2] at ih
    have := Int.natAbs_add_le (t * G.getD (k + 1) 0) ((mulZ ts G).getD k 0)
    have e3 : (k + 1 + 1) * (C * C' * E ^ (k + 1)) = (k + 1) * (C * C' * E ^ (k + 1)) + C * C' * E ^ (k + 1) := by rw [Nat.add_mul (k + 1) 1, Nat.one_mul]
    omega
theorem WB.mul {F G : List Int} {C C' E : Nat} (hF : WB C E F) (hG : WB C' E G) : WB (C * C') (2 * E) (mulZ F G) := fun k => by
  refine Nat.le_trans (WB.mul' hF hG k) ?_
  have h2 : k + 1 ≤ 2 ^ k := Nat.lt_two_pow_self
  rw [Nat.mul_pow]
  calc (k + 1) * (C * C' * E ^ k) ≤ 2 ^ k * (C * C' * E ^ k) := Nat.mul_le_mul_right _ h2
    _ = C * C' * (2 ^ k * E ^ k) := by ac_rfl
theorem WB.mono {F : List Int} {C C' E E' : Nat} (h : WB C E F) (hC : C ≤ C') (hE : E ≤ E') : WB C' E' F := fun k => Nat.le_trans (h k) (Nat.mul_le_mul hC (Nat.pow_le_pow_left hE k))
structure W (d D c : Nat) (F : List Int) (p : Pol) : Prop where
  len : F.length = d + 1
  D0 : 0 < D
  c0 : 0 < c
  co : ∀ k, k ≤ d → p.co (d - k) = (F.getD k 0 : Rat) / (((c * D ^ k : Nat) : Int) : Rat)
  out : ∀ j, d < j → p.co j = 0
theorem nat_ne {n : Nat} (h : 0 < n) : (((n : Nat) : Int) : Rat) ≠ 0 := fun e => by have := Rat.intCast_eq_zero_iff.mp e; omega
theorem W.plen {d D c : Nat} {F : List Int} {p : Pol} (h : W d D c F p) : p.ts.length ≤ d + 1 := by
  rcases Nat.lt_or_ge (d + 1) p.ts.length with g | g
  · have := h.out (p.ts.length - 1) (by omega)
    exact absurd this (co_lead fun e => by rw [e] at g; simp at g)
  · exact g
theorem evW {x : Rat} (hx : x ≠ 0) {D : Nat} (hD : 0 < D) : ∀ {F : List Int} {d c : Nat} {f : Nat → Rat}, 0 < c → F.length = d + 1 → (∀ k, k ≤ d → f (d - k) = (F.getD k 0 : Rat) / (((c * D ^ k : Nat) : Int) : Rat)) → evC (d + 1) f x * (((c : Nat) : Int) : Rat) = x ^ d * evZ F (1 / ((((D : Nat) : Int) : Rat) * x))
  | [], d, c, f, _, hl, _ => by simp at hl
  | [t], d, c, f, hc, hl, h => by
    have d0 : d = 0 := by simpa using hl.symm
    subst d0
    have h0 := h 0 (by omega)
    have nc := nat_ne hc
    simp at h0
    simp [evC, evZ]
    rw [h0]
    grind
  | t :: u :: F, d, c, f, hc, hl, h => by
    obtain ⟨e, rfl⟩ : ∃ e, d = e + 1 := ⟨d - 1, by simp at hl; omega⟩
    have nc := nat_ne hc
    have nD := nat_ne hD
    have ih := evW hx hD (F := u :: F) (d := e) (c := c * D) (f := f) (Nat.mul_pos hc hD) (by simpa using hl) fun k hk => by
      have := h (k + 1) (by omega)
      rw [show e + 1 - (k + 1) = e - k by omega, List.getD_cons_succ, Nat.pow_succ, Nat.mul_comm (D ^ k), ← Nat.mul_assoc] at this
      exact this
    have h0 := h 0 (by omega)
    simp at h0
    rw [evC_snoc, evZ, h0]
    rw [Int.natCast_mul, Rat.intCast_mul] at ih
    have e1 : evC (e + 1) f x * (((c : Nat) : Int) : Rat) = x ^ e * evZ (u :: F) (1 / ((((D : Nat) : Int) : Rat) * x)) / (((D : Nat) : Int) : Rat) := by grind
    rw [Rat.add_mul, e1]
    generalize evZ (u :: F) (1 / ((((D : Nat) : Int) : Rat) * x)) = Z
    grind
theorem W.ev {d D c : Nat} {F : List Int} {p : Pol} (h : W d D c F p) {x : Rat} (hx : x ≠ 0) : p.ev x * (((c : Nat) : Int) : Rat) = x ^ d * evZ F (1 / ((((D : Nat) : Int) : Rat) * x)) := by
  rw [ev_co h.plen]
  exact evW hx h.D0 h.c0 h.len h.co
theorem Pol.ext_pos {p q : Pol} (h : ∀ n : Int, 0 < n → p.ev (n : Rat) = q.ev (n : Rat)) : p = q := by
  have hp := p.hb
  have hq := q.hb
  have hp' := p.bne
  have hq' := q.bne
  refine Pol.ext_co fun k => ?_
  have key : ∀ n : Int, 0 < n → evI (p.ts.map fun t => (q.b : Int) * t) n = evI (q.ts.map fun t => (p.b : Int) * t) n := fun n hn => by
    refine Rat.intCast_inj.mp ?_
    rw [← evI_cast, ← evI_cast, evZ_mul, evZ_mul]
    have := h n hn
    unfold Pol.ev at this
    grind
  have := evI_get key k
  rw [getD_map (by simp), getD_map (by simp)] at this
  unfold Pol.co
  refine (Rat.divInt_eq_divInt_iff (by omega) (by omega)).mpr ?_
  rw [Int.mul_comm, this, Int.mul_comm]
def ofW (d D c : Nat) (F : List Int) : Pol := NW.mk ((List.range (d + 1)).map fun j => F.getD (d - j) 0 * ((D ^ j : Nat) : Int)) (c * D ^ d)
theorem ofW_W {d D c : Nat} {F : List Int} (hl : F.length = d + 1) (hD : 0 < D) (hc : 0 < c) : W d D c F (ofW d D c F) := by
  have hb : 0 < c * D ^ d := Nat.mul_pos hc (Nat.pow_pos hD)
  have g : ∀ j, (ofW d D c F).co j = if j ≤ d then Rat.divInt (F.getD (d - j) 0 * ((D ^ j : Nat) : Int)) ((c * D ^ d : Nat) : Int) else 0 := fun j => by
    unfold ofW
    rw [co_mk hb, List.getD_eq_getElem?_getD, List.getElem?_map]
    by_cases hj : j ≤ d
    · rw [List.getElem?_range (by omega), if_pos hj]; rfl
    · rw [List.getElem?_eq_none (by simp; omega), if_neg hj]; simp
  refine ⟨hl, hD, hc, fun k hk => ?_, fun j hj => by rw [g, if_neg (by omega)]⟩
  rw [g, if_pos (by omega), show d - (d - k) = k by omega, divInt_div]
  have e : D ^ d = D ^ k * D ^ (d - k) := by rw [← Nat.pow_add]; congr 1; omega
  rw [e, ← Nat.mul_assoc, Int.natCast_mul (c * D ^ k), Rat.intCast_mul, Rat.intCast_mul]
  have n1 := nat_ne (n := D ^ (d - k)) (Nat.pow_pos hD)
  have n2 := nat_ne (n := c * D ^ k) (Nat.mul_pos hc (Nat.pow_pos hD))
  grind
theorem W.of_ev {d D c : Nat} {F : List Int} {p : Pol} (hl : F.length = d + 1) (hD : 0 < D) (hc : 0 < c) (h : ∀ x : Rat, x ≠ 0 → p.ev x * (((c : Nat) : Int) : Rat) = x ^ d * evZ F (1 / ((((D : Nat) : Int) : Rat) * x))) : W d D c F p := by
  have w := ofW_W hl hD hc
  have : p = ofW d D c F := Pol.ext_pos fun n hn => by
    have nx : (n : Rat) ≠ 0 := fun e => by have := Rat.intCast_eq_zero_iff.mp e; omega
    have a := h n nx
    have b := w.ev nx
    have nc := nat_ne hc
    grind
  rw [this]; exact w
theorem W.mul {d d' D c c' : Nat} {F G : List Int} {p q : Pol} (hp : W d D c F p) (hq : W d' D c' G q) : W (d + d') D (c * c') (mulZ F G) (p * q) := by
  refine W.of_ev ?_ hp.D0 (Nat.mul_pos hp.c0 hq.c0) fun x hx => ?_
  · have := mulZ_length (ts := F) (us := G) (fun e => by have := hq.len; rw [e] at this; simp at this) (fun e => by have := hp.len; rw [e] at this; simp at this)
    have := hp.len
    have := hq.len
    omega
  · have a := hp.ev hx
    have b := hq.ev hx
    rw [ev_mul, evZ_mulZ, Int.natCast_mul, Rat.intCast_mul, rpow_add]
    grind
end NW
namespace NW
open PySem PySem.Spec PyProof.Rows L2
def pwZ (F : List Int) : Nat → List Int
  | 0 => [1]
  | i + 1 => mulZ (pwZ F i) F
theorem W.one {D : Nat} (hD : 0 < D) : W 0 D 1 [1] Pol.one := ⟨rfl, hD, by omega, fun k hk => by
  have : k = 0 := by omega
  subst this
  simp [Pol.co, Pol.one, divInt_div], fun j hj => by
  obtain ⟨i, rfl⟩ : ∃ i, j = i + 1 := ⟨j - 1, by omega⟩
  simp [Pol.co, Pol.one]⟩
theorem W.pw {d D : Nat} {F : List Int} {p : Pol} (h : W d D 1 F p) : ∀ {i : Nat}, W (i * d) D 1 (pwZ F i) (p.pw i)
  | 0 => by rw [Nat.zero_mul]; exact W.one h.D0
  | i + 1 => by
    rw [Nat.add_mul, Nat.one_mul]
    exact (W.pw h (i := i)).mul h
theorem WB.pw {E : Nat} {F : List Int} (h : WB 1 E F) : ∀ {i : Nat}, WB 1 (2 ^ i * E) (pwZ F i)
  | 0 => fun k => by
    cases k with
    | zero => simp [pwZ]
    | succ k => simp [pwZ]
  | i + 1 => by
    have a := (WB.pw h (i := i)).mul (h.mono (Nat.le_refl 1) (show E ≤ 2 ^ i * E from Nat.le_mul_of_pos_left _ (Nat.two_pow_pos i)))
    rw [show 2 ^ (i + 1) * E = 2 * (2 ^ i * E) by rw [Nat.pow_succ]; ac_rfl]
    exact a
def Dm (m : Int) (F : List Int) : Prop := F.getD 0 0 = 1 ∧ ∀ k, m ∣ F.getD (k + 1) 0
theorem mul_mod2 {m : Int} {G : List Int} (hG : Dm m G) : ∀ {ts : List Int}, (∀ k, m ∣ ts.getD k 0) → ∀ k, m * m ∣ (mulZ ts G).getD k 0 - ts.getD k 0
  | [], _, k => by simp [mulZ]
  | t :: ts, h, 0 => by
    rw [mulZ_zero, hG.1]; simp
  | t :: ts, h, k + 1 => by
    rw [mulZ_succ, List.getD_cons_succ]
    have ih := mul_mod2 hG (ts := ts) (fun j => by simpa using h (j + 1)) k
    have a : m * m ∣ t * G.getD (k + 1) 0 := Int.mul_dvd_mul (by simpa using h 0) (hG.2 k)
    have := Int.dvd_add a ih
    rwa [← Int.add_sub_assoc] at this
theorem cons_of {F : List Int} (h : F.getD 0 0 = 1) : ∃ ts, F = 1 :: ts := by
  cases F with
  | nil => simp at h
  | cons t ts => simp at h; exact ⟨ts, by rw [h]⟩
theorem Dm.mul {m : Int} {F G : List Int} (hF : Dm m F) (hG : Dm m G) : ∀ k, m * m ∣ (mulZ F G).getD (k + 1) 0 - (G.getD (k + 1) 0 + F.getD (k + 1) 0) := fun k => by
  obtain ⟨ts, rfl⟩ := cons_of hF.1
  have a := mul_mod2 hG (ts := ts) (fun j => by simpa using hF.2 j) k
  rw [mulZ_succ, Int.one_mul, List.getD_cons_succ]
  rwa [show G.getD (k + 1) 0 + (mulZ ts G).getD k 0 - (G.getD (k + 1) 0 + ts.getD k 0) = (mulZ ts G).getD k 0 - ts.getD k 0 by omega]
theorem Dm.prod {m : Int} {F G : List Int} (hF : Dm m F) (hG : Dm m G) : Dm m (mulZ F G) := by
  refine ⟨?_, fun k => ?_⟩
  · obtain ⟨ts, rfl⟩ := cons_of hF.1
    rw [mulZ_zero, hG.1]; rfl
  · have a := Int.dvd_trans (Int.dvd_mul_right m m) (hF.mul hG k)
    have b := Int.dvd_add (hG.2 k) (hF.2 k)
    have := Int.dvd_add a b
    rwa [show (mulZ F G).getD (k + 1) 0 - (G.getD (k + 1) 0 + F.getD (k + 1) 0) + (G.getD (k + 1) 0 + F.getD (k + 1) 0) = (mulZ F G).getD (k + 1) 0 by omega] at this
theorem Dm.one {m : Int} : Dm m [1] := ⟨rfl, fun k => by simp⟩
theorem Dm.pw {m : Int} {F : List Int} (h : Dm m F) : ∀ {i : Nat}, Dm m (pwZ F i)
  | 0 => Dm.one
  | i + 1 => (Dm.pw h (i := i)).prod h
theorem smI_congr {f g : Nat → Int} : ∀ {n : Nat}, (∀ j, j < n → f j = g j) → smI n f = smI n g
  | 0, _ => rfl
  | n + 1, h => by rw [smI, smI, smI_congr fun j hj => h j (by omega), h n (by omega)]
def Ag (k : Nat) (δ : Int) (A B : List Int) : Prop := (∀ j, j < k → A.getD j 0 = B.getD j 0) ∧ A.getD k 0 = B.getD k 0 + δ
theorem Ag.mul {k : Nat} {α β : Int} {A A' G G' : List Int} (hA : Ag (k + 1) α A A') (hG : Ag (k + 1) β G G') : Ag (k + 1) (α * G'.getD 0 0 + A'.getD 0 0 * β) (mulZ A G) (mulZ A' G') := by
  refine ⟨fun j hj => ?_, ?_⟩
  · rw [mulZ_get, mulZ_get]
    exact smI_congr fun i hi => by rw [hA.1 i (by omega), hG.1 (j - i) (by omega)]
  · rw [mulZ_get, mulZ_get, smI_succ, smI_succ (n := k + 1), smI, smI]
    rw [smI_congr (n := k) (g := fun i => A'.getD (i + 1) 0 * G'.getD (k + 1 - (i + 1)) 0) fun i hi => by rw [hA.1 (i + 1) (by omega), hG.1 (k + 1 - (i + 1)) (by omega)]]
    rw [hA.1 0 (by omega), Nat.sub_self, hG.1 0 (by omega), hA.2, show k + 1 - 0 = k + 1 by omega, hG.2]
    rw [Int.mul_add, Int.add_mul]
    omega
theorem Ag.pw {k : Nat} {δ : Int} {F G : List Int} (h : Ag (k + 1) δ F G) (h1 : G.getD 0 0 = 1) : ∀ {i : Nat}, Ag (k + 1) ((i : Int) * δ) (pwZ F i) (pwZ G i) ∧ (pwZ G i).getD 0 0 = 1
  | 0 => ⟨⟨fun j hj => rfl, by simp [pwZ]⟩, rfl⟩
  | i + 1 => by
    obtain ⟨a, b⟩ := Ag.pw h h1 (i := i)
    have := a.mul h
    rw [h1, b] at this
    refine ⟨?_, ?_⟩
    · rw [pwZ, pwZ, show ((i + 1 : Nat) : Int) * δ = (i : Int) * δ * 1 + 1 * δ by rw [Int.natCast_add, Int.add_mul]; omega]
      exact this
    · rw [pwZ]
      obtain ⟨ts, e⟩ := cons_of b
      rw [e, mulZ_zero, h1]; rfl
end NW
namespace NW
open PySem PySem.Spec PyProof.Rows L2
def mono (c : Rat) (e : Nat) : Pol := NW.ofC (List.replicate e 0 ++ [c])
theorem co_mono {c : Rat} {e j : Nat} : (mono c e).co j = if j = e then c else 0 := by
  unfold mono
  rw [co_ofC, List.getD_eq_getElem?_getD]
  rcases Nat.lt_trichotomy j e with h | h | h
  · rw [List.getElem?_append_left (by simpa using h), if_neg (by omega), List.getElem?_replicate, if_pos h]; rfl
  · rw [List.getElem?_append_right (by simp; omega), if_pos h]
    simp [h]
  · rw [List.getElem?_eq_none (by simp; omega), if_neg (by omega)]; rfl
theorem mono_sz {c : Rat} {e n : Nat} (h : FB n c) : PBt n (e + 1) (mono c e) := by
  refine PBt.rep (D := c.den) (N := fun j => if j = e then c.num else 0) c.den_pos (fun j => ?_) h.2 (fun j => ?_) fun j hj => by rw [co_mono, if_neg (by omega)]
  · rw [co_mono]
    split
    · exact (Rat.num_divInt_den c).symm
    · simp
  · show (if j = e then c.num else 0).natAbs < _
    split
    · exact h.1
    · simp [Nat.two_pow_pos]
end NW
namespace NW
open PySem PySem.Spec PyProof.Rows L2
theorem cut {a b : MS} {l : NW.Loc} {st : Sto} {N : NW.Loc → Sto → Prop} {R : U → Sto → Prop} (M : NW.Loc → Sto → Prop) (h1 : (a l st).To M R) (h2 : ∀ l s, M l s → (b l s).To N R) : (sSeq a b l st).To N R := by
  rw [to_sSeq]
  exact h1.mono h2 fun _ _ h => h
end NW
namespace NW
open PySem PySem.Spec PyProof.Rows L2
def S (l : List Nat) : Str := ⟨l.toArray⟩
@[simp] theorem tl_S (l : List Nat) : TL.tl (S l) = l := TL.tl_mk l
theorem S_tl (x : Str) : S (TL.tl x) = x := TL.mk_tl x
theorem S_inj {a b : List Nat} : S a = S b ↔ a = b := ⟨fun h => by have := congrArg TL.tl h; simpa using this, fun h => by rw [h]⟩
@[simp] theorem S_add {a b : List Nat} : S a ++ S b = S (a ++ b) := TL.ext_tl (by rw [TL.tl_append]; simp)
theorem S_of {x : Str} {l : List Nat} (h : TL.tl x = l) : x = S l := by rw [← h, S_tl]
@[simp] theorem S_len {l : List Nat} : (S l).length = l.length := by show (S l).cps.size = _; unfold S; simp
theorem S_cps {l : List Nat} : (S l).cps.toList = l := by unfold S; simp
@[simp] theorem c_empty : ("" : Str) = S [] := S_of (by decide +kernel)
@[simp] theorem c_Empty : Str.empty = S [] := S_of (by decide +kernel)
@[simp] theorem c_minus : ("-" : Str) = S [45] := S_of (by decide +kernel)
@[simp] theorem c_plus : ("+" : Str) = S [43] := S_of (by decide +kernel)
@[simp] theorem c_slash : ("/" : Str) = S [47] := S_of (by decide +kernel)
@[simp] theorem c_blank : (" " : Str) = S [32] := S_of (by decide +kernel)
@[simp] theorem c_x : ("x" : Str) = S [120] := S_of (by decide +kernel)
@[simp] theorem c_xh : ("x^" : Str) = S [120, 94] := S_of (by decide +kernel)
@[simp] theorem c_0 : ("0" : Str) = S [48] := S_of (by decide +kernel)
@[simp] theorem c_1 : ("1" : Str) = S [49] := S_of (by decide +kernel)
@[simp] theorem c_9 : ("9" : Str) = S [57] := S_of (by decide +kernel)
@[simp] theorem c_bp : (" + " : Str) = S [32, 43, 32] := S_of (by decide +kernel)
@[simp] theorem c_bm : (" - " : Str) = S [32, 45, 32] := S_of (by decide +kernel)
@[simp] theorem c_figs : ("0123456789" : Str) = S [48, 49, 50, 51, 52, 53, 54, 55, 56, 57] := S_of (by decide +kernel)
@[simp] theorem c_of : (" of " : Str) = S [32, 111, 102, 32] := S_of (by decide +kernel)
def Asc (l : List Nat) : Prop := ∀ c, c ∈ l → c < 128
theorem Asc.ok {l : List Nat} (h : Asc l) : PyData.strOk (S l) = true := by
  rw [strOk_iff, tl_S]
  intro c hc
  have := h c hc
  omega
theorem Asc.sh {l : List Nat} (h : Asc l) : SeqAt.shaped (.str (S l)) = true := str_sh h.ok
theorem Asc.append {a b : List Nat} (h : Asc a) (h' : Asc b) : Asc (a ++ b) := fun c hc => (List.mem_append.mp hc).elim (h c) (h' c)
section
variable {st : Sto} {Q : U → Sto → Prop}
end
def intL (i : Int) : List Nat := if i < 0 then 45 :: TL.numL i.natAbs else TL.numL i.natAbs
theorem numL_len600 {n : Nat} (h : n < 2 ^ 1900) : (TL.numL n).length ≤ 600 := TL.numL_len (by omega) (Nat.lt_of_lt_of_le h (by decide +kernel))
theorem intL_len {i : Int} (h : i.natAbs < 2 ^ 1900) : (intL i).length ≤ 601 := by
  have := numL_len600 h
  unfold intL
  split
  · simp; omega
  · omega
def frL (q : Rat) : List Nat := if q.den = 1 then intL q.num else intL q.num ++ 47 :: TL.numL q.den
theorem frL_len {q : Rat} (h : FB 1900 q) : (frL q).length ≤ 1300 := by
  have h1 := intL_len h.1
  have h2 := numL_len600 h.2
  unfold frL
  split
  · omega
  · simp; omega
def leL (k : Nat) : List Nat := if k = 1 then [120] else 120 :: 94 :: TL.numL k
theorem numL_len4 {k : Nat} (h : k ≤ 1000) : (TL.numL k).length ≤ 4 := TL.numL_len (by omega) (by omega)
theorem leL_len {k : Nat} (h : k ≤ 1000) : (leL k).length ≤ 6 := by
  have := numL_len4 h
  unfold leL
  split
  · simp
  · simp; omega
def woL (r : Rat) (k : Nat) : List Nat := if k = 0 then frL r else if r = 1 then leL k else frL r ++ 32 :: leL k
theorem woL_len {r : Rat} {k : Nat} (h : FB 1900 r) (hk : k ≤ 1000) : (woL r k).length ≤ 1310 := by
  have h1 := frL_len h
  have h2 := leL_len hk
  unfold woL
  split
  · omega
  · split
    · omega
    · simp; omega
def teL (p : Pol) (n : Nat) : List (Nat × Rat) := ((List.range n).reverse.filter fun k => !decide (p.co k = 0)).map fun k => (k, p.co k)
def moreL (k : Nat) (r : Rat) : List Nat := (if r < 0 then [32, 45, 32] else [32, 43, 32]) ++ woL (if r < 0 then -r else r) k
def firstL (k : Nat) (r : Rat) : List Nat := (if r < 0 then [45] else []) ++ woL (if r < 0 then -r else r) k
def accL : List (Nat × Rat) → List Nat
  | [] => []
  | (k, r) :: ts => firstL k r ++ ts.flatMap fun t => moreL t.1 t.2
def poL (p : Pol) : List Nat := match teL p p.ts.length with
  | [] => [48]
  | ts => accL ts
theorem leL_ne (k : Nat) : leL k ≠ [] := by unfold leL; split <;> simp
theorem FB.abs {n : Nat} {r : Rat} (h : FB n r) : FB n (if r < 0 then -r else r) := by
  split
  · exact ⟨by simpa using h.1, by simpa using h.2⟩
  · exact h
theorem accL_len {ts : List (Nat × Rat)} (h : ∀ t, t ∈ ts → FB 1900 t.2 ∧ t.1 ≤ 1000) : (accL ts).length ≤ ts.length * 1313 := by
  cases ts with
  | nil => simp [accL]
  | cons t ts =>
    obtain ⟨k, r⟩ := t
    have h0 := h (k, r) (by simp)
    have l0 : (firstL k r).length ≤ 1313 := by
      have := woL_len h0.1.abs h0.2
      dsimp only at this
      have h1 : (if r < 0 then [45] else [] : List Nat).length ≤ 1 := by split <;> simp
      simp only [firstL, List.length_append]
      omega
    have l1 : ∀ us : List (Nat × Rat), (∀ t, t ∈ us → FB 1900 t.2 ∧ t.1 ≤ 1000) → (us.flatMap fun t => moreL t.1 t.2).length ≤ us.length * 1313 := by
      intro us
      induction us with
      | nil => intro _; simp
      | cons u us ih =>
        intro hu
        have h1 := hu u (by simp)
        have := woL_len h1.1.abs h1.2
        have h2 : (moreL u.1 u.2).length ≤ 1313 := by
          have h3 : (if u.2 < 0 then [32, 45, 32] else [32, 43, 32] : List Nat).length ≤ 3 := by split <;> simp
          simp only [moreL, List.length_append]
          omega
        have h3 := ih fun t ht => hu t (by simp [ht])
        rw [List.flatMap_cons, List.length_append, List.length_cons, Nat.add_mul]
        omega
    have h4 := l1 ts fun t ht => h t (by simp [ht])
    rw [accL, List.length_append, List.length_cons, Nat.add_mul]
    omega
end NW
namespace NW
open PySem PySem.Spec PyProof.Rows L2
theorem PBt.co_FB {n m : Nat} {p : Pol} (h : PBt n m p) (k : Nat) : FB n (p.co k) := by
  have hb := p.hb
  exact FB.of_divInt (by omega) (h.get k) (by simpa using h.2.1)
end NW
namespace NW
open PySem PySem.Spec PyProof.Rows L2
theorem starts_S {a b : List Nat} (hb : b ≠ []) : Txt.startswith (S a) (S b) = TL.pre b a := by
  have h := TL.at_iff (x := S a) (y := S b) (by simpa using hb) 0
  simp only [tl_S, List.drop_zero] at h
  rw [Bool.eq_iff_iff, ← h]
  unfold Txt.startswith
  rw [Bool.and_eq_true, decide_eq_true_iff]
  exact Iff.rfl
theorem cut_from {a : List Nat} {i : Int} (h : 0 ≤ i) : cutS (S a) (some i) none = S (a.drop i.toNat) := by
  rw [C8.cutS_slice]
  exact SX.slice_from h
def isNum (l : List Nat) : Prop := l ≠ [] ∧ l.length ≤ 40 ∧ (∀ c, c ∈ l → 48 ≤ c ∧ c ≤ 57) ∧ (l = [48] ∨ l.head? ≠ some 48)
section
variable {st : Sto} {Q : U → Sto → Prop}
@[simp] theorem to_lenStr {z : Str} : (cLen [.d (.str z)] st).To Q ↔ z.length ≤ 16777216 ∧ Q (.d (.int (z.length : Nat))) st := by
  show (if lenOk z.length = true then Res.ok (U.d (.int (z.length : Nat))) st else .no).To Q ↔ _
  by_cases h : lenOk z.length = true
  · rw [if_pos h]
    have := of_decide_eq_true h
    rw [sizeLine_eq] at this
    simp [this]
  · rw [if_neg h]
    have : ¬ z.length ≤ 16777216 := fun z => h (decide_eq_true (by rw [sizeLine_eq]; exact z))
    simp [this]
end
def absL (q : Rat) : List Nat := if q.den = 1 then TL.numL q.num.natAbs else TL.numL q.num.natAbs ++ 47 :: TL.numL q.den
theorem frL_abs (q : Rat) : frL q = (if q.num < 0 then [45] else []) ++ absL q := by
  unfold frL absL intL
  by_cases h : q.num < 0 <;> by_cases h2 : q.den = 1 <;> simp [h, h2]
theorem absL_head (q : Rat) : ∃ c r, absL q = c :: r ∧ 48 ≤ c := by
  have : ∃ c r, TL.numL q.num.natAbs = c :: r ∧ 48 ≤ c := by
    cases e : TL.numL q.num.natAbs with
    | nil => exact absurd e (TL.numL_ne _)
    | cons c r => exact ⟨c, r, rfl, (TL.numL_digits q.num.natAbs c (by rw [e]; simp)).1⟩
  obtain ⟨c, r, e, h⟩ := this
  unfold absL
  rw [e]
  split
  · exact ⟨c, r, rfl, h⟩
  · exact ⟨c, _, rfl, h⟩
def F40 (q : Rat) : Prop := q.num.natAbs < 10 ^ 40 ∧ q.den < 10 ^ 40
theorem F40.fb {q : Rat} (h : F40 q) : FB 1900 q := ⟨Nat.lt_of_lt_of_le h.1 (by decide +kernel), Nat.lt_of_lt_of_le h.2 (by decide +kernel)⟩
@[simp] theorem callX_1 {m : List PyData → Rp} {x : PyData} {st : Sto} {Q : U → Sto → Prop} : (fCallX 1 m [.d x] st).To Q ↔ (m [x]).To fun d => Q (.d d) st := by
  show (if [x].length = 1 ∧ [U.d x].any isRef = false then (match m [x] with | .ok d _ => Res.ok (U.d d) st | .ex e => .ex e st | .no => .no) else .no).To Q ↔ _
  rw [if_pos ⟨rfl, rfl⟩]
  cases m [x] <;> exact Iff.rfl
@[simp] theorem callX0_1 {m : List PyData → Rp} {x : PyData} {st : Sto} {Q : U → Sto → Prop} : (fCallX0 1 m [.d x] st).To Q ↔ (m [x]).To fun d => Q (.d d) st := by
  show (if [x].length = 1 ∧ [U.d x].any isRef = false then (match m [x] with | .ok d _ => Res.ok (U.d d) st | _ => .no) else .no).To Q ↔ _
  rw [if_pos ⟨rfl, rfl⟩]
  cases m [x] <;> exact Iff.rfl
@[simp] theorem to_eCallX {k : Nat} {m : List PyData → Rp} {a : MA} {l : Loc} {st : Sto} {Q : U → Sto → Prop} : (eCallX k m a l st).To Q ↔ (a l st).To fun us s => (fCallX k m us s).To Q := by unfold eCallX; simp
@[simp] theorem to_eCallX0 {k : Nat} {m : List PyData → Rp} {a : MA} {l : Loc} {st : Sto} {Q : U → Sto → Prop} : (eCallX0 k m a l st).To Q ↔ (a l st).To fun us s => (fCallX0 k m us s).To Q := by unfold eCallX0; simp
def wordsL (r : Rat) (k : Nat) : List (List Nat) := if k = 0 then [frL r] else if r = 1 then [leL k] else [frL r, leL k]
theorem woL_join (r : Rat) (k : Nat) : woL r k = TL.joinL [32] (wordsL r k) := by
  unfold woL wordsL
  split
  · rfl
  · split <;> rfl
end NW
namespace NW
open PySem PySem.Spec PyProof.Rows L2
theorem num_pos' {r : Rat} (h : 0 < r) : 0 < r.num := by
  have h1 : 0 ≤ r.num := Rat.num_nonneg.mpr (Rat.le_of_lt h)
  have h2 : r.num ≠ 0 := fun z => by
    have : r = 0 := Rat.num_eq_zero.mp z
    rw [this] at h
    exact absurd h (by decide)
  omega
def sgn (r : Rat) : Int := if r < 0 then -1 else 1
def ab (r : Rat) : Rat := if r < 0 then -r else r
def tailL (ts : List (Nat × Rat)) : List (List Nat) := ts.flatMap fun t => [if t.2 < 0 then 45 else 43] :: wordsL (ab t.2) t.1
theorem wordsL_ne (r : Rat) (k : Nat) : wordsL r k ≠ [] := by
  unfold wordsL
  split
  · simp
  · split <;> simp
theorem joinL_app : ∀ {a b : List (List Nat)}, a ≠ [] → b ≠ [] → TL.joinL [32] (a ++ b) = TL.joinL [32] a ++ [32] ++ TL.joinL [32] b
  | [], _, h, _ => absurd rfl h
  | [x], [], _, h => absurd rfl h
  | [x], y :: b, _, _ => by
    simp [TL.joinL]
  | x :: y :: a, b, _, hb => by
    have := joinL_app (a := y :: a) (b := b) (by simp) hb
    have e1 : TL.joinL [32] (x :: y :: a ++ b) = x ++ ([32] ++ TL.joinL [32] (y :: a ++ b)) := by simp [TL.joinL]
    have e2 : TL.joinL [32] (x :: y :: a) = x ++ ([32] ++ TL.joinL [32] (y :: a)) := by simp [TL.joinL]
    rw [e1, e2, this]
    simp
theorem tail_join {a : List (List Nat)} (ha : a ≠ []) : ∀ {ts : List (Nat × Rat)}, TL.joinL [32] (a ++ tailL ts) = TL.joinL [32] a ++ ts.flatMap fun t => moreL t.1 t.2 := by
  intro ts
  induction ts generalizing a with
  | nil => simp [tailL]
  | cons t ts ih =>
    have e : a ++ tailL (t :: ts) = (a ++ ([if t.2 < 0 then 45 else 43] :: wordsL (ab t.2) t.1)) ++ tailL ts := by simp [tailL]
    rw [e, ih (by simp), joinL_app ha (by simp)]
    have e2 : TL.joinL [32] ([if t.2 < 0 then 45 else 43] :: wordsL (ab t.2) t.1) = [if t.2 < 0 then 45 else 43] ++ [32] ++ woL (ab t.2) t.1 := by
      rw [show ([if t.2 < 0 then 45 else 43] :: wordsL (ab t.2) t.1) = [[if t.2 < 0 then 45 else 43]] ++ wordsL (ab t.2) t.1 from rfl, joinL_app (by simp) (wordsL_ne _ _), woL_join]
      rfl
    rw [e2, List.flatMap_cons]
    unfold moreL ab
    by_cases h : t.2 < 0 <;> simp [h]
theorem frL_in {q : Rat} : ∀ c, c ∈ frL q → 45 ≤ c ∧ c ≤ 57 := fun c hc => by
  have d : ∀ n c, c ∈ TL.numL n → 48 ≤ c ∧ c ≤ 57 := fun n c h => TL.numL_digits n c h
  rw [frL_abs] at hc
  rcases List.mem_append.mp hc with h | h
  · split at h
    · have : c = 45 := by simpa using h
      omega
    · simp at h
  · unfold absL at h
    split at h
    · have := d _ c h; omega
    · rcases List.mem_append.mp h with h | h
      · have := d _ c h; omega
      · rcases List.mem_cons.mp h with rfl | h
        · omega
        · have := d _ c h; omega
theorem leL_in {k : Nat} : ∀ c, c ∈ leL k → 48 ≤ c := fun c hc => by
  unfold leL at hc
  split at hc
  · have : c = 120 := by simpa using hc
    omega
  · rcases List.mem_cons.mp hc with rfl | hc
    · omega
    rcases List.mem_cons.mp hc with rfl | hc
    · omega
    exact (TL.numL_digits _ c hc).1
theorem wordsL_free {r : Rat} {k : Nat} : ∀ w, w ∈ wordsL r k → (32 : Nat) ∉ w := fun w hw h => by
  have f : w = frL r ∨ w = leL k := by
    unfold wordsL at hw
    split at hw
    · simp at hw; exact .inl hw
    · split at hw
      · simp at hw; exact .inr hw
      · simp at hw; exact hw
  rcases f with rfl | rfl
  · have := frL_in 32 h; omega
  · have := leL_in 32 h; omega
theorem tailL_free {ts : List (Nat × Rat)} : ∀ w, w ∈ tailL ts → (32 : Nat) ∉ w := fun w hw h => by
  obtain ⟨t, ht, hw⟩ := List.mem_flatMap.mp hw
  rcases List.mem_cons.mp hw with rfl | hw
  · split at h <;> simp at h
  · exact wordsL_free w hw h
theorem split_words {a : List (List Nat)} (ha : a ≠ []) (hf : ∀ w, w ∈ a → (32 : Nat) ∉ w) : Txt.split (S (TL.joinL [32] a)) " " = a.map S := by
  rw [c_blank]
  have := SX.split_S (a := TL.joinL [32] a) (b := [32]) (by simp) (by decide)
  rw [SX.spl_join ha hf] at this
  exact this
theorem words_no {r : Rat} {k : Nat} (hr : 0 < r) : ∀ w, w ∈ wordsL r k → ¬ (S w = "+" ∨ S w = "-") := fun w hw h => by
  have e : w = [43] ∨ w = [45] := by
    rw [c_plus, c_minus] at h
    exact h.imp S_inj.mp S_inj.mp
  have hp : 0 < r.num := num_pos' hr
  have hd : ∀ c s, frL r = c :: s → 48 ≤ c := fun c s he => by
    rw [frL_abs, if_neg (by omega)] at he
    obtain ⟨c', s', e', h'⟩ := absL_head r
    rw [List.nil_append, e'] at he
    injection he with e1 e2
    omega
  have f : w = frL r ∨ w = leL k := by
    unfold wordsL at hw
    split at hw
    · simp at hw; exact .inl hw
    · split at hw
      · simp at hw; exact .inr hw
      · simp at hw; exact hw
  rcases f with f | f
  · rcases e with e | e
    · have := hd 43 [] (f ▸ e); omega
    · have := hd 45 [] (f ▸ e); omega
  · rcases e with e | e
    · have := leL_in (k := k) 43 (by rw [← f, e]; simp); omega
    · have := leL_in (k := k) 45 (by rw [← f, e]; simp); omega
theorem pLoop_words {xs : List (Int × List Str)} {s : Int} {rest : List Str} : ∀ {a : List Str} {ws : List Str}, (∀ w, w ∈ a → ¬ (w = "+" ∨ w = "-")) → pLoop xs s ws (a ++ rest) = pLoop xs s (ws ++ a) rest
  | [], ws, _ => by simp
  | w :: a, ws, h => by
    rw [List.cons_append, pLoop, if_neg (h w (by simp)), pLoop_words fun v hv => h v (by simp [hv])]
    simp
def termD (t : Nat × Rat) : Int × List Str := (sgn t.2, (wordsL (ab t.2) t.1).map S)
theorem ab_pos {r : Rat} (h : r ≠ 0) : 0 < ab r := by
  unfold ab
  split
  · grind
  · grind
theorem pLoop_tail : ∀ {ts : List (Nat × Rat)} {xs : List (Int × List Str)} {s : Int} {ws : List Str}, (∀ t, t ∈ ts → t.2 ≠ 0) → pLoop xs s ws ((tailL ts).map S) = xs ++ (s, ws) :: ts.map termD
  | [], xs, s, ws, _ => by simp [tailL, pLoop]
  | t :: ts, xs, s, ws, h => by
    have e : (tailL (t :: ts)).map S = S [if t.2 < 0 then 45 else 43] :: ((wordsL (ab t.2) t.1).map S ++ (tailL ts).map S) := by simp [tailL]
    have hs : S [if t.2 < 0 then 45 else 43] = "+" ∨ S [if t.2 < 0 then 45 else 43] = "-" := by
      rw [c_plus, c_minus]
      split
      · exact .inr rfl
      · exact .inl rfl
    have hm : (if S [if t.2 < 0 then 45 else 43] = "-" then (-1 : Int) else 1) = sgn t.2 := by
      rw [c_minus]
      unfold sgn
      by_cases h : t.2 < 0
      · simp [h]
      · simp [h, S_inj]
    rw [e, pLoop, if_pos hs, hm, pLoop_words (fun w hw => by
      obtain ⟨v, hv, rfl⟩ := List.mem_map.mp hw
      exact words_no (ab_pos (h t (by simp))) v hv), pLoop_tail fun u hu => h u (by simp [hu])]
    simp [termD]
theorem parts_acc {k : Nat} {r : Rat} {ts : List (Nat × Rat)} (h : ∀ t, t ∈ (k, r) :: ts → t.2 ≠ 0) : partsOf (S (accL ((k, r) :: ts))) = ((k, r) :: ts).map termD := by
  have ht : ∀ t, t ∈ ts → t.2 ≠ 0 := fun t m => h t (by simp [m])
  have hr : r ≠ 0 := h (k, r) (by simp)
  have body : Txt.split (S (woL (ab r) k ++ ts.flatMap fun t => moreL t.1 t.2)) " " = (wordsL (ab r) k).map S ++ (tailL ts).map S := by
    rw [woL_join, ← tail_join (wordsL_ne _ _), split_words (by have := wordsL_ne (ab r) k; simp [this]) (fun w hw => (List.mem_append.mp hw).elim (wordsL_free w) (tailL_free w)), List.map_append]
  have fin : ∀ s : Int, pLoop [] s [] ((wordsL (ab r) k).map S ++ (tailL ts).map S) = (s, (wordsL (ab r) k).map S) :: ts.map termD := fun s => by
    rw [pLoop_words (fun w hw => by
      obtain ⟨v, hv, rfl⟩ := List.mem_map.mp hw
      exact words_no (ab_pos hr) v hv), pLoop_tail ht]
    simp
  unfold partsOf
  by_cases h0 : r < 0
  · have e : accL ((k, r) :: ts) = 45 :: (woL (ab r) k ++ ts.flatMap fun t => moreL t.1 t.2) := by
      simp [accL, firstL, h0, ab]
    have hs : Txt.startswith (S (accL ((k, r) :: ts))) "-" = true := by
      rw [c_minus, starts_S (by simp), e]; simp [TL.pre]
    rw [if_pos hs, e, cut_from (by omega)]
    show pLoop [] (-1) [] (Txt.split (S (woL (ab r) k ++ ts.flatMap fun t => moreL t.1 t.2)) " ") = _
    rw [body, fin]
    simp [termD, sgn, h0]
  · have e : accL ((k, r) :: ts) = woL (ab r) k ++ ts.flatMap fun t => moreL t.1 t.2 := by
      simp [accL, firstL, h0, ab]
    have hw : ∃ c s, woL (ab r) k = c :: s ∧ 48 ≤ c := by
      have hf : ∃ c s, frL (ab r) = c :: s ∧ 48 ≤ c := by
        have hp : 0 < (ab r).num := num_pos' (ab_pos hr)
        obtain ⟨c', s', e', h'⟩ := absL_head (ab r)
        exact ⟨c', s', by rw [frL_abs, if_neg (by omega)]; exact e', h'⟩
      obtain ⟨c, s, ef, hc⟩ := hf
      unfold woL
      split
      · exact ⟨c, s, ef, hc⟩
      · split
        · cases el : leL k with
          | nil => exact absurd el (leL_ne k)
          | cons d u => exact ⟨d, u, rfl, leL_in (k := k) d (by rw [el]; simp)⟩
        · rw [ef]; exact ⟨c, _, rfl, hc⟩
    obtain ⟨c, s, ew, hc⟩ := hw
    have hs : ¬ Txt.startswith (S (accL ((k, r) :: ts))) "-" = true := by
      rw [c_minus, starts_S (by simp), e, ew, List.cons_append, TL.pre_of_head _ _ (by omega)]
      simp
    rw [if_neg hs, e, body, fin]
    simp [termD, sgn, h0]
end NW
namespace NW
open PySem PySem.Spec PyProof.Rows L2
def Fw (p : Pol) : Prop := p.ts.length ≤ 25 ∧ p.ts ≠ [] ∧ ∀ k, F40 (p.co k)
theorem F40.ab {q : Rat} (h : F40 q) : F40 (ab q) := by
  unfold NW.ab
  split
  · exact ⟨by simpa using h.1, by simpa using h.2⟩
  · exact h
theorem teL_mem {p : Pol} {n : Nat} {t : Nat × Rat} : t ∈ teL p n ↔ t.1 < n ∧ t.2 = p.co t.1 ∧ t.2 ≠ 0 := by
  unfold teL
  rw [List.mem_map]
  constructor
  · rintro ⟨k, hk, rfl⟩
    rw [List.mem_filter] at hk
    exact ⟨List.mem_range.mp (List.mem_reverse.mp hk.1), rfl, by simpa using hk.2⟩
  · rintro ⟨h1, h2, h3⟩
    refine ⟨t.1, ?_, ?_⟩
    · rw [List.mem_filter]
      exact ⟨List.mem_reverse.mpr (List.mem_range.mpr h1), by rw [← h2]; simpa using h3⟩
    · rw [← h2]
theorem Fw.teL_ne {p : Pol} (h : Fw p) : teL p p.ts.length ≠ [] := by
  have hl := List.length_pos_iff.mpr h.2.1
  have hc : p.co (p.ts.length - 1) ≠ 0 := co_lead h.2.1
  intro z
  have : (p.ts.length - 1, p.co (p.ts.length - 1)) ∈ teL p p.ts.length := teL_mem.mpr ⟨by dsimp only; omega, rfl, hc⟩
  rw [z] at this
  simp at this
theorem Fw.poL {p : Pol} (h : Fw p) : poL p = accL (teL p p.ts.length) := by
  have := h.teL_ne
  unfold NW.poL
  split
  · rename_i e; exact absurd e this
  · rfl
theorem Fw.parts {p : Pol} (h : Fw p) : partsOf (S (NW.poL p)) = (teL p p.ts.length).map termD := by
  rw [h.poL]
  have hn := h.teL_ne
  have hm : ∀ t, t ∈ teL p p.ts.length → t.2 ≠ 0 := fun t ht => (teL_mem.mp ht).2.2
  cases e : teL p p.ts.length with
  | nil => exact absurd e hn
  | cons t ts =>
    obtain ⟨k, r⟩ := t
    rw [e] at hm
    exact parts_acc hm
theorem Fw.len {p : Pol} (h : Fw p) : (NW.poL p).length ≤ 40000 := by
  rw [h.poL]
  have := accL_len (ts := teL p p.ts.length) fun t ht => by
    obtain ⟨h1, h2, _⟩ := teL_mem.mp ht
    have := h.1
    rw [h2]
    exact ⟨(h.2.2 _).fb, by omega⟩
  have h2 : (teL p p.ts.length).length ≤ p.ts.length := by
    unfold teL
    rw [List.length_map]
    exact Nat.le_trans (List.length_filter_le _ _) (by simp)
  have := h.1
  have h3 : (teL p p.ts.length).length * 1313 ≤ 25 * 1313 := Nat.mul_le_mul_right _ (by omega)
  omega
def Few (p : Pol) : Prop := p.ts.length ≤ 25 ∧ p.ts ≠ [] ∧ (∀ k, F40 (p.co k)) ∧ PBt 1900 1000 p
theorem Few.fw {p : Pol} (h : Few p) : Fw p := ⟨h.1, h.2.1, h.2.2.1⟩
theorem Few.teL_ne {p : Pol} (h : Few p) : teL p p.ts.length ≠ [] := h.fw.teL_ne
theorem Few.poL {p : Pol} (h : Few p) : NW.poL p = accL (teL p p.ts.length) := h.fw.poL
theorem Few.parts {p : Pol} (h : Few p) : partsOf (S (NW.poL p)) = (teL p p.ts.length).map termD := h.fw.parts
theorem Few.len {p : Pol} (h : Few p) : (NW.poL p).length ≤ 40000 := h.fw.len
end NW
namespace NW
open PySem PySem.Spec PyProof.Rows L2
theorem strs_of {ls : List (List Nat)} : strsOf (ls.map fun l => PyData.str (S l)) = some (ls.map S) := by
  induction ls with
  | nil => rfl
  | cons l ls ih =>
    show (strsOf (ls.map fun l => PyData.str (S l))).map _ = _
    rw [ih]
    rfl
end NW
namespace NW
open PySem PySem.Spec PyProof.Rows L2
theorem co_F40 {ts : List Int} {b : Nat} (hb : 0 < b) (hb2 : b < 10 ^ 40) (ht : ∀ t, t ∈ ts → t.natAbs < 10 ^ 40) (k : Nat) : F40 ((mk ts b).co k) := by
  rw [co_mk hb]
  have hg : (ts.getD k 0).natAbs < 10 ^ 40 := by
    rw [List.getD_eq_getElem?_getD]
    cases e : ts[k]? with
    | none => simp
    | some t => exact ht t (List.mem_of_getElem? e)
  have h1 := num_le (ts.getD k 0) b (by omega)
  have h2 := den_le (ts.getD k 0) b (by omega)
  exact ⟨by omega, by omega⟩
theorem Few.mk {ts : List Int} {b : Nat} (hb : 0 < b) (hb2 : b < 10 ^ 40) (ht : ∀ t, t ∈ ts → t.natAbs < 10 ^ 40) (hl : ts.length ≤ 25) (h0 : (NW.mk ts b).ts ≠ []) : Few (NW.mk ts b) :=
  ⟨Nat.le_trans mk_len hl, h0, co_F40 hb hb2 ht, PBt.mk hb (by omega) (Nat.lt_of_lt_of_le hb2 (by decide +kernel)) fun t h => Nat.lt_of_lt_of_le (ht t h) (by decide +kernel)⟩
end NW
namespace NW
open PySem PySem.Spec PyProof.Rows L2
end NW
namespace NW
open PySem PySem.Spec PyProof.Rows L2
structure ChW (ps : List Pol) : Prop where
  few : ∀ p, p ∈ ps → Few p ∧ 3 ≤ p.ts.length
  len : ps.length ≤ 3
  ne : ps ≠ []
theorem ChW.rev {ps : List Pol} (h : ChW ps) : ChW ps.reverse := ⟨fun p hp => h.few p (List.mem_reverse.mp hp), by simpa using h.len, by simpa using h.ne⟩
end NW
namespace NW
open PySem PySem.Spec PyProof.Rows L2
section
variable {a b : MS} {l : NW.Loc} {st : Sto} {e : Exc}
end
instance {l : List Nat} : Decidable (isNum l) := by unfold isNum; exact inferInstance
end NW
namespace NW
open PySem PySem.Spec PyProof.Rows L2
theorem Asc.tail {c : Nat} {p : List Nat} (h : Asc (c :: p)) : Asc p := fun d hd => h d (by simp [hd])
end NW
namespace NW
open PySem PySem.Spec PyProof.Rows L2
end NW
namespace NW
open PySem PySem.Spec PyProof.Rows L2
end NW
namespace NW
open PySem PySem.Spec PyProof.Rows L2
end NW
namespace NW
open PySem PySem.Spec PyProof.Rows L2
end NW
namespace NW
open PySem PySem.Spec PyProof.Rows L2
end NW
namespace NW
open PySem PySem.Spec PyProof.Rows L2
@[simp] theorem c_hat : ("^" : Str) = S [94] := S_of (by decide +kernel)
end NW
namespace NW
open PySem PySem.Spec PyProof.Rows L2
theorem FB.ab {n : Nat} {r : Rat} (h : FB n r) : FB n (ab r) := h.abs
end NW
namespace NW
open PySem PySem.Spec PyProof.Rows L2
end NW
namespace NW
open PySem PySem.Spec PyProof.Rows L2
end NW
namespace NW
open PySem PySem.Spec PyProof.Rows L2
def Lg (p : Pol) : Prop := PBt 140 5 p ∧ p.ts ≠ []
theorem Lg.mk {ts : List Int} {b : Nat} (hb : 1 ≤ b) (hb2 : b ≤ 9) (h1 : 1 ≤ ts.length) (h2 : ts.length ≤ 5) (ht : ∀ t, t ∈ ts → t.natAbs < 10 ^ 40 ∧ t ≠ 0) : Lg (NW.mk ts b) := by
  have e : (10 : Nat) ^ 40 ≤ 2 ^ 140 := by decide +kernel
  refine ⟨PBt.mk (by omega) h2 (by omega) fun t h => by have := (ht t h).1; omega, ?_⟩
  have hne : ts ≠ [] := by intro z; rw [z] at h1; simp at h1
  have := mk_len_eq (ts := ts.dropLast) (t := ts.getLast hne) (b := b) (by omega) (ht _ (List.getLast_mem hne)).2
  rw [List.dropLast_concat_getLast hne] at this
  intro z
  rw [z] at this
  simp at this
theorem Lg.mul {p q : Pol} (hp : Lg p) (hq : Lg q) : PBt 290 10 (p * q) ∧ (p * q).ts ≠ [] := by
  refine ⟨PBt.mul hp.1 hq.1 (by omega), ?_⟩
  have h1 := List.length_pos_iff.mpr hp.2
  have h2 := List.length_pos_iff.mpr hq.2
  have := len_mul hp.2 hq.2
  intro z
  rw [z] at this
  simp at this
  omega
end NW
namespace NW
open PySem PySem.Spec PyProof.Rows L2
theorem pieces (c : Nat) : ∀ p : List Nat, ∃ ps : List (List Nat), ps ≠ [] ∧ (∀ x, x ∈ ps → c ∉ x) ∧ p = TL.joinL [c] ps
  | [] => ⟨[[]], by simp, by simp, rfl⟩
  | d :: r => by
    obtain ⟨ps, h1, h2, h3⟩ := pieces c r
    match ps, h1 with
    | a :: rest, _ =>
      by_cases hd : d = c
      · refine ⟨[] :: a :: rest, by simp, fun x hx => ?_, ?_⟩
        · rcases List.mem_cons.mp hx with rfl | hx
          · simp
          · exact h2 x hx
        · rw [h3, hd]
          rfl
      · refine ⟨(d :: a) :: rest, by simp, fun x hx => ?_, ?_⟩
        · rcases List.mem_cons.mp hx with rfl | hx
          · intro z
            rcases List.mem_cons.mp z with z | z
            · exact hd z.symm
            · exact h2 a (by simp) z
          · exact h2 x (by simp [hx])
        · rw [h3]
          cases rest with
          | nil => rfl
          | cons b rs => rfl
theorem joinL_len {c : Nat} : ∀ {ps : List (List Nat)}, ps ≠ [] → (∀ x, x ∈ ps → x.length ≤ (TL.joinL [c] ps).length) ∧ ps.length ≤ (TL.joinL [c] ps).length + 1 ∧ ∀ x, x ∈ ps → ∀ d, d ∈ x → d ∈ TL.joinL [c] ps
  | [], h => absurd rfl h
  | [p], _ => ⟨fun x hx => by simp at hx; rw [hx]; exact Nat.le_refl _, by simp, fun x hx d hd => by simp at hx; rw [hx] at hd; exact hd⟩
  | p :: q :: r, _ => by
    obtain ⟨h1, h2, h3⟩ := joinL_len (c := c) (ps := q :: r) (by simp)
    have e : TL.joinL [c] (p :: q :: r) = p ++ ([c] ++ TL.joinL [c] (q :: r)) := rfl
    rw [e]
    refine ⟨fun x hx => ?_, by simp at h2 ⊢; omega, fun x hx d hd => ?_⟩
    · rcases List.mem_cons.mp hx with rfl | hx
      · simp
      · have := h1 x hx
        simp
        omega
    · rcases List.mem_cons.mp hx with rfl | hx
      · simp [hd]
      · have := h3 x hx d hd
        simp [this]
end NW
namespace NW
open PySem PySem.Spec PyProof.Rows L2
end NW
namespace NW
open PySem PySem.Spec PyProof.Rows L2
end NW
namespace NW
open PySem PySem.Spec PyProof.Rows L2
theorem to_ixSn {l : List Nat} {i : Int} {st : Sto} {Q : U → Sto → Prop} (h0 : 0 ≤ i) (h1 : i < l.length) (hl : l.length ≤ 16777216) (h : ∀ c, c ∈ l → Q (.d (.str (S [c]))) st) : (fIx (.d (.str (S l))) (.d (.int i)) st).To Q := by
  obtain ⟨n, rfl⟩ := Int.eq_ofNat_of_zero_le h0
  have hn : n < l.length := by omega
  have e : strAt (S l) (n : Int) = some (S [l[n]]) := by
    unfold strAt
    rw [if_pos (decide_eq_true (by rw [S_len, sizeLine_eq]; omega)), S_cps]
    have : atI l (n : Int) = some l[n] := by
      simp [atI, ixN, hn]
    rw [this]
    rfl
  show (match strAt (S l) (n : Int) with | some y => Res.ok (U.d (.str y)) st | none => .no).To Q
  rw [e]
  exact h _ (List.getElem_mem hn)
def TxN (n : Nat) (d : PyData) : Prop := ∃ l, d = .str (S l) ∧ Asc l ∧ l.length ≤ n
theorem TxN.mono {n m : Nat} {d : PyData} (h : TxN n d) (k : n ≤ m) : TxN m d := by
  obtain ⟨l, e, a, b⟩ := h
  exact ⟨l, e, a, by omega⟩
theorem TxN.of {l : List Nat} (h : Asc l) : TxN l.length (.str (S l)) := ⟨l, rfl, h, Nat.le_refl _⟩
section
variable {st : Sto} {Q : U → Sto → Prop}
end
end NW
namespace NW
open PySem PySem.Spec PyProof.Rows L2
end NW
namespace NW
open PySem PySem.Spec PyProof.Rows L2
def nsg (w : List Nat) : Bool := !(w == [43] || w == [45])
def sgP (t : Nat × Rat) : List Nat := [if t.2 < 0 then 45 else 43]
def wT : List (Nat × Rat) → List (List Nat)
  | [] => []
  | t :: ts => wordsL (ab t.2) t.1 ++ tailL ts
def Dec (T : List (Nat × Rat)) : Prop := T.Pairwise fun a b => b.1 < a.1
def cs (T : List (Nat × Rat)) (j : Nat) : Rat := T.foldr (fun t a => (if t.1 = j then t.2 else 0) + a) 0
theorem cs_snoc {T : List (Nat × Rat)} {t : Nat × Rat} {j : Nat} : cs (T ++ [t]) j = cs T j + if t.1 = j then t.2 else 0 := by
  induction T with
  | nil => simp [cs]; grind
  | cons u T ih =>
    have e1 : cs (u :: T ++ [t]) j = (if u.1 = j then u.2 else 0) + cs (T ++ [t]) j := rfl
    have e2 : cs (u :: T) j = (if u.1 = j then u.2 else 0) + cs T j := rfl
    rw [e1, e2, ih, Rat.add_assoc]
end NW
namespace NW
open PySem PySem.Spec PyProof.Rows L2
def HdS (s : Int) (T : List (Nat × Rat)) : Prop := ∃ t V, T = t :: V ∧ ((s = -1 ∧ t.2 < 0) ∨ (s = 1 ∧ ¬ t.2 < 0))
def TmOk (t : Nat × Rat) : Prop := t.2 ≠ 0 ∧ F40 t.2 ∧ t.1 ≤ 24
end NW
namespace NW
open PySem PySem.Spec PyProof.Rows L2
structure RdI (s0 : Int) (ps0 : List (List Nat)) (T : List (Nat × Rat)) (s : Int) (R : List (List Nat)) (p : Pol) (h : Nat) : Prop where
  dec : Dec T
  ok : ∀ t, t ∈ T → TmOk t
  co : ∀ j, p.co j = cs T j
  size : PBt (150 * T.length + 1) 25 p
  len : T.length + h ≤ 25
  low : ∀ t, t ∈ T → h ≤ t.1
  last : T ≠ [] → ∃ t, t ∈ T ∧ t.1 = h
  first : T = [] → h = 25
  sg : s = 1 ∨ s = -1
  form : (T = [] ∧ R = ps0 ∧ s = s0) ∨ (T ≠ [] ∧ HdS s0 T ∧ ((R ≠ [] ∧ ps0 = wT T ++ (if s = -1 then [45] else [43]) :: R) ∨ (R = [] ∧ ps0 = wT T)))
theorem RdI.step {s0 s : Int} {ps0 R : List (List Nat)} {T : List (Nat × Rat)} {p : Pol} {h k : Nat} {r : Rat} (I : RdI s0 ps0 T s R p h) (hR : R ≠ []) (r0 : 0 < r) (rf : F40 r) (kh : k < h) (k24 : k ≤ 24) (hs0 : s0 = 1 ∨ s0 = -1) (hw : wordsL r k = R.takeWhile nsg) {s' : Int} {R' : List (List Nat)} (hs' : s' = 1 ∨ s' = -1)
    (hR' : (R.dropWhile nsg = [] ∧ R' = []) ∨ (R' ≠ [] ∧ R.dropWhile nsg = (if s' = -1 then [45] else [43]) :: R')) : RdI s0 ps0 (T ++ [(k, if s = -1 then -r else r)]) s' R' (p + mono (if s = -1 then -r else r) k) k := by
  obtain ⟨v, hv⟩ : ∃ v : Rat, v = if s = -1 then -r else r := ⟨_, rfl⟩
  rw [← hv]
  have v0 : v ≠ 0 := by
    rw [hv]
    split
    · grind
    · grind
  have va : ab v = r := by
    unfold ab
    rw [hv]
    split <;> split <;> grind
  have vf : F40 v := by
    rw [hv]
    split
    · exact ⟨by rw [Rat.neg_num, Int.natAbs_neg]; exact rf.1, by rw [Rat.neg_den]; exact rf.2⟩
    · exact rf
  have vs : (s = -1 ∧ v < 0) ∨ (s = 1 ∧ ¬ v < 0) := by
    rcases I.sg with q | q
    · right
      refine ⟨q, ?_⟩
      rw [hv, if_neg (by omega)]
      grind
    · left
      refine ⟨q, ?_⟩
      rw [hv, if_pos q]
      grind
  have all : R = wordsL (ab v) k ++ R.dropWhile nsg := by
    rw [va, hw]
    exact (List.takeWhile_append_dropWhile).symm
  have sp : sgP (k, v) = if s = -1 then [45] else [43] := by
    unfold sgP
    rcases vs with ⟨a, b⟩ | ⟨a, b⟩
    · rw [if_pos a]; simp [b]
    · rw [if_neg (show ¬ s = -1 by omega)]; simp [b]
  have w1 : wT (T ++ [(k, v)]) = if T = [] then wordsL (ab v) k else wT T ++ (if s = -1 then [45] else [43]) :: wordsL (ab v) k := by
    cases T with
    | nil => simp [wT, tailL]
    | cons t T =>
      rw [if_neg (by simp), ← sp]
      simp [wT, tailL, sgP]
  have fb : FB 140 v := ⟨Nat.lt_of_lt_of_le vf.1 (by decide +kernel), Nat.lt_of_lt_of_le vf.2 (by decide +kernel)⟩
  refine ⟨?_, ?_, ?_, ?_, ?_, ?_, ?_, ?_, hs', ?_⟩
  · unfold Dec
    rw [List.pairwise_append]
    refine ⟨I.dec, by simp, fun t ht u hu => ?_⟩
    simp at hu
    rw [hu]
    have := I.low t ht
    dsimp only
    omega
  · intro t ht
    rcases List.mem_append.mp ht with ht | ht
    · exact I.ok t ht
    · simp at ht
      rw [ht]
      exact ⟨v0, vf, k24⟩
  · intro j
    rw [co_add, I.co j, cs_snoc, co_mono]
    congr 1
    by_cases e : j = k
    · rw [if_pos e, if_pos e.symm]
    · rw [if_neg e, if_neg (fun z => e z.symm)]
  · have := (I.size.add ((mono_sz fb (e := k)).mono (Nat.le_refl _) (m' := 25) (by omega)))
    refine this.mono ?_ (Nat.le_refl _)
    rw [List.length_append]
    simp
    omega
  · have := I.len
    rw [List.length_append]
    simp
    omega
  · intro t ht
    rcases List.mem_append.mp ht with ht | ht
    · have := I.low t ht; omega
    · simp at ht; rw [ht]; exact Nat.le_refl _
  · intro _
    exact ⟨(k, v), by simp, rfl⟩
  · intro z
    simp at z
  · right
    have hd : HdS s0 (T ++ [(k, v)]) := by
      rcases I.form with ⟨h1, h2, h3⟩ | ⟨h1, ⟨t, V, e1, e2⟩, _⟩
      · rw [h1]
        exact ⟨(k, v), [], rfl, by rw [← h3]; exact vs⟩
      · exact ⟨t, V ++ [(k, v)], by rw [e1]; rfl, e2⟩
    refine ⟨by simp, hd, ?_⟩
    have base : ps0 = wT (T ++ [(k, v)]) ++ R.dropWhile nsg := by
      rw [w1]
      rcases I.form with ⟨h1, h2, h3⟩ | ⟨h1, _, ⟨_, h2⟩ | ⟨h2, _⟩⟩
      · rw [if_pos h1, ← h2]
        exact all
      · rw [if_neg h1, h2, List.append_assoc]
        rw [List.cons_append, ← all]
      · exact absurd h2 hR
    rcases hR' with ⟨a, b⟩ | ⟨a, b⟩
    · exact .inr ⟨b, by rw [base, a, List.append_nil]⟩
    · exact .inl ⟨a, by rw [base, b]⟩
end NW
namespace NW
open PySem PySem.Spec PyProof.Rows L2
theorem RdI.sub {s0 s : Int} {ps0 R : List (List Nat)} {T : List (Nat × Rat)} {p : Pol} {h : Nat} (I : RdI s0 ps0 T s R p h) : ∀ x, x ∈ R → x ∈ ps0 := fun x hx => by
  rcases I.form with ⟨h1, h2, _⟩ | ⟨h1, _, ⟨_, h2⟩ | ⟨h2, _⟩⟩
  · rw [← h2]; exact hx
  · rw [h2]; simp [hx]
  · rw [h2] at hx; simp at hx
end NW
namespace NW
open PySem PySem.Spec PyProof.Rows L2
end NW
namespace NW
open PySem PySem.Spec PyProof.Rows L2
end NW
namespace NW
open PySem PySem.Spec PyProof.Rows L2
section
variable {st : Sto} {Q : U → Sto → Prop} {l : NW.Loc}
@[simp] theorem to_gSubS {o i : ME} {y : Str} {P : NW.Loc → Sto → Prop} : (gSubM o i (.d (.str y)) l st).To P ↔ (o l st).To fun ou s => (i l s).To fun iu s => (match ou, iu with
  | .ref k, .d (.int j) => ∃ xs n, s.obs[k]? = some (.lst xs) ∧ idxN xs.length j = some n ∧ P l (s.put k (xs.set n (.str y)))
  | _, _ => False) := to_gSubG (fun x h => by cases h)
end
def tot (ls : List (List Nat)) : Nat := (ls.map fun x => x.length + 1).sum
theorem tot_app {a b : List (List Nat)} : tot (a ++ b) = tot a + tot b := by simp [tot]
theorem tot_cons {a : List Nat} {b : List (List Nat)} : tot (a :: b) = a.length + 1 + tot b := by simp [tot]
theorem tot_take {a : List (List Nat)} {n : Nat} : tot (a.take n) ≤ tot a := by
  have := tot_app (a := a.take n) (b := a.drop n)
  rw [List.take_append_drop] at this
  omega
theorem tot_drop {a : List (List Nat)} {n : Nat} : tot (a.drop n) ≤ tot a := by
  have := tot_app (a := a.take n) (b := a.drop n)
  rw [List.take_append_drop] at this
  omega
theorem tot_set : ∀ {a : List (List Nat)} {n : Nat} {x : List Nat}, tot (a.set n x) ≤ tot a + x.length + 1
  | [], _, _ => by simp [tot]
  | y :: a, 0, x => by rw [List.set_cons_zero, tot_cons, tot_cons]; omega
  | y :: a, n + 1, x => by
    have := tot_set (a := a) (n := n) (x := x)
    rw [List.set_cons_succ, tot_cons, tot_cons]; omega
theorem tot_join {c : Nat} : ∀ {a : List (List Nat)}, (TL.joinL [c] a).length ≤ tot a ∧ (a ≠ [] → tot a = (TL.joinL [c] a).length + 1)
  | [] => by simp [tot, TL.joinL]
  | [x] => by simp [tot, TL.joinL]
  | x :: y :: a => by
    obtain ⟨h1, h2⟩ := tot_join (c := c) (a := y :: a)
    have e : TL.joinL [c] (x :: y :: a) = x ++ ([c] ++ TL.joinL [c] (y :: a)) := rfl
    have := h2 (by simp)
    rw [e, tot_cons]
    simp
    omega
def Wd (N : Nat) (ls : List (List Nat)) : Prop := (∀ x, x ∈ ls → Asc x) ∧ tot ls ≤ N
theorem Wd.take {N : Nat} {a : List (List Nat)} (ha : Wd N a) (n : Nat) : Wd N (a.take n) := ⟨fun x hx => ha.1 x (List.mem_of_mem_take hx), Nat.le_trans tot_take ha.2⟩
theorem Wd.drop {N : Nat} {a : List (List Nat)} (ha : Wd N a) (n : Nat) : Wd N (a.drop n) := ⟨fun x hx => ha.1 x (List.mem_of_mem_drop hx), Nat.le_trans tot_drop ha.2⟩
theorem Wd.set {N M : Nat} {a : List (List Nat)} (ha : Wd N a) (n : Nat) {x : List Nat} (hx : Asc x) (hl : x.length + 1 ≤ M) : Wd (N + M) (a.set n x) := ⟨fun y hy => by
  rcases List.mem_or_eq_of_mem_set hy with h | h
  · exact ha.1 y h
  · rw [h]; exact hx, by have := tot_set (a := a) (n := n) (x := x); have := ha.2; omega⟩
theorem Wd.mono {N M : Nat} {a : List (List Nat)} (ha : Wd N a) (h : N ≤ M) : Wd M a := ⟨ha.1, by have := ha.2; omega⟩
theorem Wd.of {N : Nat} {l : List Nat} (ha : Asc l) (hl : l.length ≤ N) : ∃ ls, ls ≠ [] ∧ (∀ x, x ∈ ls → 32 ∉ x) ∧ l = TL.joinL [32] ls ∧ Wd (N + 1) ls := by
  obtain ⟨ls, n1, n2, n3⟩ := pieces 32 l
  obtain ⟨_, _, j3⟩ := joinL_len (c := 32) n1
  refine ⟨ls, n1, n2, n3, fun x hx c hc => ha c (by rw [n3]; exact j3 x hx c hc), ?_⟩
  have := (tot_join (c := 32) (a := ls)).2 n1
  rw [this, ← n3]
  omega
end NW
namespace K08
open PySem PySem.Spec PyProof.Rows L2 NW
theorem hal : ∀ (i : Int) (s : Str), PyData.strOk s = true → (m_L_alike 8 [.list [.int i, .str s, .str s, .str s], .list [.int i, .str s, .str s, .str s]]).To fun x => x = .bool true := by
  intro i s hs
  refine alike_to 8 _ ⟨by simp, fun x hx => ?_⟩
  simp only [List.mem_cons, List.not_mem_nil, or_false] at hx
  rcases hx with rfl | rfl | rfl | rfl
  · exact trivial
  · exact hs
  · exact hs
  · exact hs
theorem one_signs : ∀ {ys : List PyData}, (∀ y, y ∈ ys → ∃ c : Nat, y = .str (S [c]) ∧ c < 128) → ∃ ws : List (List Nat), ys = (ws.map fun l => PyData.str (S l)) ∧ (∀ w, w ∈ ws → Asc w ∧ w.length = 1)
  | [], _ => ⟨[], rfl, by simp⟩
  | y :: ys, h => by
    obtain ⟨c, rfl, hc⟩ := h y (by simp)
    obtain ⟨ws, rfl, hw⟩ := one_signs (ys := ys) fun z hz => h z (by simp [hz])
    refine ⟨[c] :: ws, rfl, fun w hq => ?_⟩
    rcases List.mem_cons.mp hq with rfl | hq
    · exact ⟨fun x hx => by simp at hx; omega, rfl⟩
    · exact hw w hq
theorem join_asc0 : ∀ {ws : List (List Nat)}, (∀ w, w ∈ ws → Asc w) → Asc (TL.joinL [] ws)
  | [], _ => fun c hc => by cases hc
  | [w], h => h w (by simp)
  | w :: v :: ws, h => by
    have ih := join_asc0 (ws := v :: ws) fun z hz => h z (by simp [hz])
    intro c hc
    have e : TL.joinL [] (w :: v :: ws) = w ++ ([] ++ TL.joinL [] (v :: ws)) := rfl
    rw [e] at hc
    rcases List.mem_append.mp hc with hc | hc
    · exact h w (by simp) c hc
    · exact ih c hc
theorem join_ok0 : ∀ {ws : List (List Nat)}, (∀ w, w ∈ ws → w.length = 1) → ((ws.map S).map (·.length)).sum = ws.length
  | [], _ => rfl
  | w :: ws, h => by
    have ih := join_ok0 (ws := ws) fun z hz => h z (by simp [hz])
    have := h w (by simp)
    simp at ih ⊢
    omega
theorem hsem : ∀ ns : List Int, ns.length ≤ 63 → ∃ st', b_law_k08 ((startL 8 [.scr ns]).set 1 (some .flow)) ⟨some (fl0 ns), []⟩ = .rt (.d (.bool true)) st' := by
  intro ns _
  refine rt_true ?_
  unfold b_law_k08
  have cl : ("abcdefghijklmnopqrstuvwxyz" : Str) = S (TL.tl "abcdefghijklmnopqrstuvwxyz") := (S_tl _).symm
  obtain ⟨L, hL, hL1, hL2⟩ : ∃ L : List Nat, ("abcdefghijklmnopqrstuvwxyz" : Str) = S L ∧ L.length = 26 ∧ Asc L := ⟨_, cl, by decide +kernel, fun c hc => of_decide_eq_true (List.all_eq_true.mp (show (TL.tl "abcdefghijklmnopqrstuvwxyz").all (fun c => decide (c < 128)) = true by decide +kernel) c hc)⟩
  rw [hL]
  refine cut (fun l s => l = [some (.scr ns), some .flow, some (.d (.str (S L))), none, none, none, none, none] ∧ s = ⟨some (fl0 ns), []⟩) ?_ fun l s g1 => ?_
  · simp [startL]
  obtain ⟨I, hI⟩ : ∃ I : Nat → NW.Loc → Sto → Prop, ∀ j l s, I j l s ↔ ∃ (a b : Option U) (g : Fl), FlOk g ∧ l = [some (.scr ns), some .flow, some (.d (.str (S L))), a, b, none, none, none] ∧ s = ⟨some g, []⟩ := ⟨_, fun _ _ _ => Iff.rfl⟩
  have start : I 0 l s := (hI _ _ _).mpr ⟨_, _, _, fl0_ok ns, g1.1, g1.2⟩
  refine cut (fun L s => ∃ j, I j L s) ?_ fun l s g5 => ?_
  · simp
    refine ⟨by decide, ?_⟩
    refine for_ix I (fun _ _ _ _ => chk_nil) start ?_ ?_
    · rintro j x l s hx h'
      obtain ⟨a, b, g, og, e1, e2⟩ := (hI _ _ _).mp h'
      rw [e2]
      rw [e1, to_gName]
      refine cut (fun l s => ∃ (w : List Nat) (g : Fl), Asc w ∧ FlOk g ∧ l = [some (.scr ns), some .flow, some (.d (.str (S L))), some (.d x), some (.d (.str (S w))), none, none, none] ∧ s = ⟨some g, []⟩) ?_ fun l s g6 => ?_
      · simp
        refine (pick_to og (by omega) (by omega)).mono ?_
        rintro _ f1 ⟨i, rfl, i1, i2, o1⟩
        simp
        refine ⟨decide_eq_true (by omega), by omega, ?_⟩
        refine lc_draw (p := fun y => ∃ c : Nat, y = .str (S [c]) ∧ c < 128) ?_ o1 ?_
        · intro x hx g og
          simp [wipeL]
          refine (pick_to og (by omega) (by omega)).mono ?_
          rintro _ f2 ⟨k, rfl, k1, k2, o2⟩
          refine to_ixSn k1 (by omega) (by omega) fun c hc => ?_
          exact ⟨_, rfl, f2, rfl, o2, c, rfl, hL2 c hc⟩
        · intro ys g3 hl hy o3
          obtain ⟨ws, rfl, hw⟩ := one_signs hy
          have hlen : ws.length ≤ 1000 := by
            rw [List.length_map] at hl
            simp at hl
            omega
          refine ⟨_, strs_of, decide_eq_true (by rw [join_ok0 fun w h => (hw w h).2]; simp; omega), ?_⟩
          rw [show Txt.join (S []) (ws.map S) = S (TL.joinL [] ws) from SX.join_S [] ws]
          exact ⟨_, join_asc0 fun w h => (hw w h).1, _, o3, rfl, rfl⟩
      obtain ⟨w, g, hw, og, g7, g8⟩ := g6
      rw [g7, g8]
      simp
      refine (pick_to og (by omega) (by omega)).mono ?_
      rintro _ f1 ⟨i, rfl, i1, i2, o1⟩
      simp [m_right8, hw.ok]
      refine ⟨rfl, ?_⟩
      exact (hI _ _ _).mpr ⟨_, _, _, o1, rfl, rfl⟩
    · rintro l s h'
      exact ⟨_, h'⟩
  obtain ⟨j, h'⟩ := g5
  obtain ⟨a, b, g, og, e1, e2⟩ := (hI _ _ _).mp h'
  rw [e1, e2]
  unfold sTail8
  have hp : (eCallF 2 m_L_pick (aCons (eVar 1) (aCons (eC (.int 9)) aNil)) [some (.scr ns), some .flow, some (.d (.str (S L))), a, b, none, none, none] ⟨some g, []⟩).To fun u st => ∃ i : Int, u = .d (.int i) ∧ i < 9 := by
    simp
    refine (pick_to og (by omega) (by omega)).mono ?_
    rintro _ f1 ⟨i, rfl, i1, i2, o1⟩
    exact ⟨i, rfl, i2⟩
  rw [if_pos (by simp)]
  cases e : eCallF 2 m_L_pick (aCons (eVar 1) (aCons (eC (.int 9)) aNil)) [some (.scr ns), some .flow, some (.d (.str (S L))), a, b, none, none, none] ⟨some g, []⟩ with
  | no => rw [e] at hp; exact hp.elim
  | ex _ _ => rw [e] at hp; exact hp.elim
  | ok u st =>
    rw [e] at hp
    obtain ⟨i, rfl, hi⟩ := hp
    dsimp only
    rw [if_pos hi]
    exact rfl
end K08
namespace K08
open PySem PySem.Spec PyProof.Rows L2 LiI NW
def topS (i : Nat) : Stmt := PySem.Challenge.pw_nestwright_k08_refusals.main.body.getD i (.Pass ⟨0, 0, 0, 0⟩)
abbrev s_L_flow : Stmt := topS 8
theorem sc_L_flow : FnScope [("_law_script" : Str)] [("_law_script" : Str)] (defScope s_L_flow) := ⟨rfl, rfl, rfl, by decide +kernel, rfl, by decide +kernel, by decide +kernel⟩
theorem k_L_flow {P : Program} {w : World} {K : PySem.W.Frag} {mg : Str → Option Value} {base : Heap} (hNT : base.NoSeer ∧ P.given.tree = none) (z_list : mg "list" = none) (D : DefIn K mg "_law_flow" s_L_flow [("_law_script" : Str)]) : Cal P w K mg base 33 "_law_flow" [("_law_script" : Str)] (spFl K) := by
  exact calFl (b := b_L_flow) D sc_L_flow rfl (by decide) (fun ns => rfl) (fun f cdv A outer s H E hr => ⟨_, ((qss_one (qs_ret (q_own (qn_disp (qa_cons (q_frz (qn_list z_list (qa_cons (q_var 0) qa_nil))) (qa_cons q_int (qa_cons q_int (qa_cons q_int (qa_cons q_int qa_nil))))))))))⟩)
abbrev s_L_pick : Stmt := topS 9
theorem sc_L_pick : FnScope [("_law_flow_here" : Str), ("_law_many" : Str), ("_law_cell" : Str), ("_law_digit" : Str)] [("_law_flow_here" : Str), ("_law_many" : Str)] (defScope s_L_pick) := ⟨rfl, rfl, rfl, by decide +kernel, rfl, by decide +kernel, by decide +kernel⟩
theorem k_L_pick {P : Program} {w : World} {K : PySem.W.Frag} {mg : Str → Option Value} {base : Heap} (hNT : base.NoSeer ∧ P.given.tree = none) (z_len : mg "len" = none) (D : DefIn K mg "_law_pick" s_L_pick [("_law_flow_here" : Str), ("_law_many" : Str)]) : Cal P w K mg base 33 "_law_pick" [("_law_flow_here" : Str), ("_law_many" : Str)] (spF K 2 m_L_pick) := by
  unfold m_L_pick
  exact calF D sc_L_pick (by decide) (fun f cdv A outer s H E hr => ⟨_, ((qss_cons (qs_if (qt_w (qw_and (qt_eq hr (q_ix (q_var 0) q_int) q_int) (qw_and1 (qt_lt (q_ix (q_var 0) q_int) (q_len z_len (qa_cons (q_ix (q_var 0) q_int) qa_nil))))))
    (qss_cons (qs_set 2 sc_L_pick.nd (q_ix (q_ix (q_var 0) q_int) (q_ix (q_var 0) q_int)))
    (qss_cons (qs_asg (q_addA (q_ix (q_var 0) q_int) q_int) (qg_sub (q_var 0) q_int))
    (qss_one (qs_if (qt_ge (q_var 2) (q_pow q_int q_int))
    (qss_one (qs_asg (q_var 2) (qg_sub (q_var 0) q_int)))
    (qss_one (qs_asg (q_mod (q_addA (q_addA (q_mulA (q_ix (q_var 0) q_int) q_int) (q_mod (q_var 2) q_int)) q_int) q_int) (qg_sub (q_var 0) q_int)))))))
    qss_nil)
    (qss_cons (qs_if (qt_gt (q_ix (q_var 0) q_int) q_int)
    (qss_cons (qs_set 3 sc_L_pick.nd (q_mod (q_ix (q_var 0) q_int) (q_var 1)))
    (qss_cons (qs_asg (q_div (seX hNT hr (by decide) ⟨_, _, rfl, rfl, rfl, rfl, rfl⟩) (q_ix (q_var 0) q_int) (q_var 1)) (qg_sub (q_var 0) q_int))
    (qss_one (qs_ret (q_var 3)))))
    qss_nil)
    (qss_cons (qs_asg (q_addA (q_ix (q_var 0) q_int) q_int) (qg_sub (q_var 0) q_int))
    (qss_cons (qs_asg (q_mod (q_addA (q_addA (q_mulA (q_ix (q_var 0) q_int) q_int) q_int) (q_ix (q_var 0) q_int)) q_int) (qg_sub (q_var 0) q_int))
    (qss_one (qs_ret (q_mod (q_div (seX hNT hr (by decide) ⟨_, _, rfl, rfl, rfl, rfl, rfl⟩) (q_mod (q_mulA (q_addA (q_mod (q_ix (q_var 0) q_int) q_int) q_int) (q_addA (q_div (seX hNT hr (by decide) ⟨_, _, rfl, rfl, rfl, rfl, rfl⟩) (q_ix (q_var 0) q_int) q_int) q_int)) q_int) q_int) (q_var 1)))))))))⟩)
abbrev s_L_alike : Stmt := topS 10
theorem sc_L_alike : FnScope [("_law_found" : Str), ("_law_due" : Str), ("_law_k" : Str)] [("_law_found" : Str), ("_law_due" : Str)] (defScope s_L_alike) := ⟨rfl, rfl, rfl, by decide +kernel, rfl, by decide +kernel, by decide +kernel⟩
theorem k_L_alike {P : Program} {w : World} {K : PySem.W.Frag} {mg : Str → Option Value} {base : Heap} (hNT : base.NoSeer ∧ P.given.tree = none) (z_all : mg "all" = none) (z_bool : mg "bool" = none) (z_isinstance : mg "isinstance" = none) (z_len : mg "len" = none) (z_list : mg "list" = none) (z_range : mg "range" = none) (z_tuple : mg "tuple" = none) (D : DefIn K mg "_law_alike" s_L_alike [("_law_found" : Str), ("_law_due" : Str)]) : ∀ n, Cal P w K mg base (33 + n) "_law_alike" [("_law_found" : Str), ("_law_due" : Str)] (spP K 2 (m_L_alike n))
  | 0 => by
    rw [NW.z_L_alike]
    exact calP0 D sc_L_alike
  | n + 1 => by
    have k_L_alike := k_L_alike (P := P) (w := w) (base := base) hNT z_all z_bool z_isinstance z_len z_list z_range z_tuple D n
    rw [NW.s_L_alike]
    exact calP (k := 33 + n) D sc_L_alike (by decide) (fun f cdv A outer s H E hr => ⟨_, ((qss_cons (qs_if (qt_tru (q_isiT z_isinstance (q_var 1) (qty_cons z_list boot_list (qty_cons z_tuple boot_tuple qty_nil))))
    (qss_cons (qs_if (qt_ne hr (q_isi z_isinstance z_list boot_list (q_var 0)) (q_isi z_isinstance z_list boot_list (q_var 1)))
    (qss_one (qs_ret q_bl))
    qss_nil)
    (qss_cons (qs_if (qt_ne hr (q_isi z_isinstance z_tuple boot_tuple (q_var 0)) (q_isi z_isinstance z_tuple boot_tuple (q_var 1)))
    (qss_one (qs_ret q_bl))
    qss_nil)
    (qss_one (qs_ret (q_and (q_eq hr (q_len z_len (qa_cons (q_var 0) qa_nil)) (q_len z_len (qa_cons (q_var 1) qa_nil))) (q_one (q_all rfl z_all (qa_cons (q_frz (qn_lc (g := (gName 2)) (tt := tYes) (te := (tCall (spP K 2 (m_L_alike n)) [] E0 (tCons (tOp (rIx K) (tVar 0) (tVar 2)) (tCons (tOp (rIx K) (tVar 1) (tVar 2)) tNil)))) (gm := (gNameM 2)) (cm := bYes) (em := (eCallP 2 (m_L_alike n) (aCons (eOp fIx (eVar 0) (eVar 2)) (aCons (eOp fIx (eVar 1) (eVar 2)) aNil)))) (ws := [2]) [(("_law_k" : Str), 2)] rfl sc_L_alike.nd (qi_r1 z_range (qa_cons (q_len z_len (qa_cons (q_var 1) qa_nil)) qa_nil)) rfl rfl (by kernel_rfl) (fun _ _ _ _ _ => (qg_name 2 sc_L_alike.nd)) (fun _ _ _ _ _ => qts_nil) (fun _ _ _ _ _ => (q_calP k_L_alike hr (by omega) (qa_cons (q_ix (q_var 0) (q_var 2)) (qa_cons (q_ix (q_var 1) (q_var 2)) qa_nil)))) (by decide))) qa_nil))))))))
    qss_nil)
    (qss_one (qs_ret (q_and (q_eq hr (q_isi z_isinstance z_bool boot_bool (q_var 0)) (q_isi z_isinstance z_bool boot_bool (q_var 1))) (q_one (q_eq hr (q_var 0) (q_var 1))))))))⟩)
abbrev s_L_kinds : Stmt := topS 11
theorem sc_L_kinds : FnScope [("_law_e" : Str), ("_law_found" : Str)] [("_law_e" : Str)] (defScope s_L_kinds) := ⟨rfl, rfl, rfl, by decide +kernel, rfl, by decide +kernel, by decide +kernel⟩
theorem k_L_kinds {P : Program} {w : World} {K : PySem.W.Frag} {mg : Str → Option Value} {base : Heap} (hNT : base.NoSeer ∧ P.given.tree = none) (z_isinstance : mg "isinstance" = none) (fac : FacK K mg) (D : DefIn K mg "_law_kinds" s_L_kinds ["_law_e"]) : Cal P w K mg base 33 "_law_kinds" ["_law_e"] (spKinds (c8 mg)) := by
  obtain ⟨N, hN, F8⟩ := fac.ex
  obtain ⟨f, fd, F, hm, hb'⟩ := D.ex
  refine ⟨f, fd, F.ok sc_L_kinds (fun vs H Q E h => ?_) (fun cdv A outer s H vs Q E hr h => ⟨tKinds K (c8 mg), ?_, kinds_read F8.isc h⟩), hm, F.kp, hb'⟩
  · obtain ⟨a, d, i, _, rfl, _⟩ := h; rfl
  · exact pss_cons (ps_set (i := 1) sc_L_kinds.nd rfl (.inl rfl) (pe_lst (pa_cons (pe_callB call_isV (by rfl) z_isinstance boot_isinstance (pa_cons (pe_var (i := 0) rfl (.inl rfl)) (pa_cons (pe_glob (v := .ref (cA mg "BadText")) (by rfl) fac.m0 rfl) pa_nil))) (pa_cons (pe_callB call_isV (by rfl) z_isinstance boot_isinstance (pa_cons (pe_var (i := 0) rfl (.inl rfl)) (pa_cons (pe_glob (v := .ref (cA mg "NoName")) (by rfl) fac.m1 rfl) pa_nil))) (pa_cons (pe_callB call_isV (by rfl) z_isinstance boot_isinstance (pa_cons (pe_var (i := 0) rfl (.inl rfl)) (pa_cons (pe_glob (v := .ref (cA mg "Twice")) (by rfl) fac.m2 rfl) pa_nil))) pa_nil)))))
      (pss_one (ps_ret (pe_op op_cat (pe_var (i := 1) rfl (.inl rfl)) (pe_lst (pa_cons (pe_callB call_isV (by rfl) z_isinstance boot_isinstance (pa_cons (pe_var (i := 0) rfl (.inl rfl)) (pa_cons (pe_glob (v := .ref (cA mg "TooGreat")) (by rfl) fac.m3 rfl) pa_nil))) (pa_cons (pe_callB call_isV (by rfl) z_isinstance boot_isinstance (pa_cons (pe_var (i := 0) rfl (.inl rfl)) (pa_cons (pe_glob (v := .ref (cA mg "NoRow")) (by rfl) fac.m4 rfl) pa_nil))) pa_nil))))))
abbrev si_BadText : Stmt := (clsBody (topS 2)).getD 0 (.Pass ⟨0, 0, 0, 0⟩)
theorem sci_BadText : FnScope [("self" : Str), ("at" : Str)] [("self" : Str), ("at" : Str)] (defScope si_BadText) := ⟨rfl, rfl, rfl, by decide +kernel, rfl, by decide +kernel, by decide +kernel⟩
theorem ini_BadText {P : Program} {w : World} {K : PySem.W.Frag} {mg : Str → Option Value} {base : Heap} {C f : Addr} {fd : FuncData} (F : Fun K "__init__" "BadText.__init__" si_BadText f fd) (T : OexC K C) (hno : PySem.W.findIn K (.ref C) "at" = some none) : FnOk P w K mg base CX0 1 f fd [("self" : Str), ("at" : Str)] (spInit K C "at") :=
  F.ok sci_BadText (fun vs H Q E h => by obtain ⟨a, y, rfl, _⟩ := h; rfl) (fun cdv A outer s H vs Q E hr h => ⟨_, pss_one (ps_ost (pv 0) (pv 1)), initT T hno h⟩)
abbrev si_NoName : Stmt := (clsBody (topS 3)).getD 0 (.Pass ⟨0, 0, 0, 0⟩)
theorem sci_NoName : FnScope [("self" : Str), ("name" : Str)] [("self" : Str), ("name" : Str)] (defScope si_NoName) := ⟨rfl, rfl, rfl, by decide +kernel, rfl, by decide +kernel, by decide +kernel⟩
theorem ini_NoName {P : Program} {w : World} {K : PySem.W.Frag} {mg : Str → Option Value} {base : Heap} {C f : Addr} {fd : FuncData} (F : Fun K "__init__" "NoName.__init__" si_NoName f fd) (T : OexC K C) (hno : PySem.W.findIn K (.ref C) "name" = some none) : FnOk P w K mg base CX0 1 f fd [("self" : Str), ("name" : Str)] (spInit K C "name") :=
  F.ok sci_NoName (fun vs H Q E h => by obtain ⟨a, y, rfl, _⟩ := h; rfl) (fun cdv A outer s H vs Q E hr h => ⟨_, pss_one (ps_ost (pv 0) (pv 1)), initT T hno h⟩)
abbrev si_Twice : Stmt := (clsBody (topS 4)).getD 0 (.Pass ⟨0, 0, 0, 0⟩)
theorem sci_Twice : FnScope [("self" : Str), ("name" : Str)] [("self" : Str), ("name" : Str)] (defScope si_Twice) := ⟨rfl, rfl, rfl, by decide +kernel, rfl, by decide +kernel, by decide +kernel⟩
theorem ini_Twice {P : Program} {w : World} {K : PySem.W.Frag} {mg : Str → Option Value} {base : Heap} {C f : Addr} {fd : FuncData} (F : Fun K "__init__" "Twice.__init__" si_Twice f fd) (T : OexC K C) (hno : PySem.W.findIn K (.ref C) "name" = some none) : FnOk P w K mg base CX0 1 f fd [("self" : Str), ("name" : Str)] (spInit K C "name") :=
  F.ok sci_Twice (fun vs H Q E h => by obtain ⟨a, y, rfl, _⟩ := h; rfl) (fun cdv A outer s H vs Q E hr h => ⟨_, pss_one (ps_ost (pv 0) (pv 1)), initT T hno h⟩)
abbrev si_TooGreat : Stmt := (clsBody (topS 5)).getD 0 (.Pass ⟨0, 0, 0, 0⟩)
theorem sci_TooGreat : FnScope [("self" : Str), ("name" : Str)] [("self" : Str), ("name" : Str)] (defScope si_TooGreat) := ⟨rfl, rfl, rfl, by decide +kernel, rfl, by decide +kernel, by decide +kernel⟩
theorem ini_TooGreat {P : Program} {w : World} {K : PySem.W.Frag} {mg : Str → Option Value} {base : Heap} {C f : Addr} {fd : FuncData} (F : Fun K "__init__" "TooGreat.__init__" si_TooGreat f fd) (T : OexC K C) (hno : PySem.W.findIn K (.ref C) "name" = some none) : FnOk P w K mg base CX0 1 f fd [("self" : Str), ("name" : Str)] (spInit K C "name") :=
  F.ok sci_TooGreat (fun vs H Q E h => by obtain ⟨a, y, rfl, _⟩ := h; rfl) (fun cdv A outer s H vs Q E hr h => ⟨_, pss_one (ps_ost (pv 0) (pv 1)), initT T hno h⟩)
abbrev s_L_right : Stmt := topS 12
theorem sc_L_right : FnScope [("_law_at" : Str), ("_law_name" : Str), ("_law_some" : Str), ("_law_k" : Str), ("_law_j" : Str)] [("_law_at" : Str), ("_law_name" : Str)] (defScope s_L_right) := ⟨rfl, rfl, rfl, by decide +kernel, rfl, by decide +kernel, by decide +kernel⟩
theorem k_L_right {P : Program} {w : World} {K : PySem.W.Frag} {mg : Str → Option Value} {base : Heap} (hNT : base.NoSeer ∧ P.given.tree = none) (z_ValueError : mg "ValueError" = none) (z_isinstance : mg "isinstance" = none) (z_range : mg "range" = none) (k_L_kinds : Cal P w K mg base 33 "_law_kinds" ["_law_e"] (spKinds (c8 mg))) (k_L_alike : Cal P w K mg base 41 "_law_alike" [("_law_found" : Str), ("_law_due" : Str)] (spP K 2 (m_L_alike 8))) (c_BadText : Cls1 P w K mg base "BadText" "at") (c_NoName : Cls1 P w K mg base "NoName" "name") (c_Twice : Cls1 P w K mg base "Twice" "name") (c_TooGreat : Cls1 P w K mg base "TooGreat" "name") (c_NoRow : Cls0 K mg "NoRow") (fac : FacK K mg) (hal : ∀ (i : Int) (s : Str), PyData.strOk s = true → (m_L_alike 8 [.list [.int i, .str s, .str s, .str s], .list [.int i, .str s, .str s, .str s]]).To fun x => x = .bool true) (D : DefIn K mg "_law_right" s_L_right [("_law_at" : Str), ("_law_name" : Str)]) : Cal P w K mg base 42 "_law_right" [("_law_at" : Str), ("_law_name" : Str)] (spP K 2 m_right8) := by
  obtain ⟨N, hN, F8⟩ := fac.ex
  obtain ⟨f1, fd1, F1, m1, kk1, b1⟩ := k_L_kinds.ex
  obtain ⟨f2, fd2, F2, m2, kk2, b2⟩ := k_L_alike.ex
  obtain ⟨f, fd, F, hm, hb'⟩ := D.ex
  refine ⟨f, fd, F.ok sc_L_right (fun vs H Q E h => ?_) (fun cdv A outer s H vs Q E hr h => ⟨tFive K mg N (tLc (iRng1 (tCons (tC (.int 5)) tNil)) (gName 4) tYes (tOp (rEqD K) (tVar 4) (tVar 3)) (([(("_law_j" : Str), 4)] : List (Str × Nat)).map Prod.snd)) (m_L_alike 8), ?_, five_read F8 (fun G hG => by subst hG; exact simC) hal h⟩), hm, F.kp, hb'⟩
  · obtain ⟨O0, ds, d, fr, _, r, hl, _⟩ := h
    rw [r.len, hl]; rfl
  · exact pss_cons (ps_set (i := 2) sc_L_right.nd rfl (.inl rfl) (pe_lst (pa_cons (pe_mkV (pmk_1 c_BadText hr (by decide) (pe_var (i := 0) (by rfl) (by first | exact .inl rfl | exact .inr (.inl rfl) | exact .inr (.inr rfl))))) (pa_cons (pe_mkV (pmk_1 c_NoName hr (by decide) (pe_var (i := 1) (by rfl) (by first | exact .inl rfl | exact .inr (.inl rfl) | exact .inr (.inr rfl))))) (pa_cons (pe_mkV (pmk_1 c_Twice hr (by decide) (pe_var (i := 1) (by rfl) (by first | exact .inl rfl | exact .inr (.inl rfl) | exact .inr (.inr rfl))))) (pa_cons (pe_mkV (pmk_1 c_TooGreat hr (by decide) (pe_var (i := 1) (by rfl) (by first | exact .inl rfl | exact .inr (.inl rfl) | exact .inr (.inr rfl))))) (pa_cons (pe_mkV (pmk_0 c_NoRow)) pa_nil)))))))
      (pss_cons (ps_for PassesOwn.never rfl (pi_range1 (by rfl) z_range (pa_cons pe_int pa_nil)) (pg_name (i := 3) sc_L_right.nd rfl (by first | exact .inl rfl | exact .inr rfl) (by first | exact .inl rfl | exact .inr rfl))
        (pss_cons (ps_if (pw_or (pt_not (pt_truth (pe_callB call_isV (by rfl) z_isinstance boot_isinstance (pa_cons (pe_ix ix_seq (pe_var (i := 2) (by rfl) (by first | exact .inl rfl | exact .inr (.inl rfl) | exact .inr (.inr rfl))) (pe_var (i := 3) (by rfl) (by first | exact .inl rfl | exact .inr (.inl rfl) | exact .inr (.inr rfl))) (fun _ _ => rfl)) (pa_cons (pe_glob (v := .ref N) (by rfl) hN rfl) pa_nil))) (fun _ => rfl))) (pw_or1 (pt_not (pt_truth (pe_callB call_isV (by rfl) z_isinstance boot_isinstance (pa_cons (pe_ix ix_seq (pe_var (i := 2) (by rfl) (by first | exact .inl rfl | exact .inr (.inl rfl) | exact .inr (.inr rfl))) (pe_var (i := 3) (by rfl) (by first | exact .inl rfl | exact .inr (.inl rfl) | exact .inr (.inr rfl))) (fun _ _ => rfl)) (pa_cons (pe_bltn (v := .ty "ValueError") (by rfl) z_ValueError (by decide +kernel) rfl) pa_nil))) (fun _ => rfl))))).pt (pss_one (ps_ret pe_bl)) pss_nil)
          (pss_one (ps_if (pt_cmpR (op_neD hr.units) (pe_call F1 (hr.mono (by decide)) (by rfl) m1 kk1 b1 .nil pass0 (pa_cons (pe_ix ix_seq (pe_var (i := 2) (by rfl) (by first | exact .inl rfl | exact .inr (.inl rfl) | exact .inr (.inr rfl))) (pe_var (i := 3) (by rfl) (by first | exact .inl rfl | exact .inr (.inl rfl) | exact .inr (.inr rfl))) (fun _ _ => rfl)) pa_nil)) (q_frz (qn_lc (g := (gName 4)) (tt := tYes) (te := (tOp (rEqD K) (tVar 4) (tVar 3))) (gm := (gNameM 4)) (cm := bYes) (em := (eOp (opEq false) (eVar 4) (eVar 3))) (ws := [4]) [(("_law_j" : Str), 4)] rfl sc_L_right.nd (qi_r1 z_range (qa_cons q_int qa_nil)) rfl rfl (by kernel_rfl) (fun _ _ _ _ _ => (qg_name 4 sc_L_right.nd)) (fun _ _ _ _ _ => qts_nil) (fun _ _ _ _ _ => (q_eq hr (q_var 4) (q_var 3))) (by decide))).pe (nomark _)) (pss_one (ps_ret pe_bl)) pss_nil))))
      (pss_one (ps_ret (pe_call F2 (hr.mono (by decide)) (by rfl) m2 kk2 b2 .nil pass0 (pa_cons (pe_lst (pa_cons (pe_xV (pe_ix ix_seq (pe_var (i := 2) (by rfl) (by first | exact .inl rfl | exact .inr (.inl rfl) | exact .inr (.inr rfl))) pe_int (fun _ _ => rfl))) (pa_cons (pe_xV (pe_ix ix_seq (pe_var (i := 2) (by rfl) (by first | exact .inl rfl | exact .inr (.inl rfl) | exact .inr (.inr rfl))) pe_int (fun _ _ => rfl))) (pa_cons (pe_xV (pe_ix ix_seq (pe_var (i := 2) (by rfl) (by first | exact .inl rfl | exact .inr (.inl rfl) | exact .inr (.inr rfl))) pe_int (fun _ _ => rfl))) (pa_cons (pe_xV (pe_ix ix_seq (pe_var (i := 2) (by rfl) (by first | exact .inl rfl | exact .inr (.inl rfl) | exact .inr (.inr rfl))) pe_int (fun _ _ => rfl))) pa_nil))))) (pa_cons (pe_lst (pa_cons (pe_var (i := 0) (by rfl) (by first | exact .inl rfl | exact .inr (.inl rfl) | exact .inr (.inr rfl))) (pa_cons (pe_var (i := 1) (by rfl) (by first | exact .inl rfl | exact .inr (.inl rfl) | exact .inr (.inr rfl))) (pa_cons (pe_var (i := 1) (by rfl) (by first | exact .inl rfl | exact .inr (.inl rfl) | exact .inr (.inr rfl))) (pa_cons (pe_var (i := 1) (by rfl) (by first | exact .inl rfl | exact .inr (.inl rfl) | exact .inr (.inr rfl))) pa_nil))))) pa_nil))))))
abbrev s_law : Stmt := topS 13
theorem sc_law : FnScope [("_law_script" : Str), ("_law_flow_here" : Str), ("_law_letters" : Str), ("_law_k" : Str), ("_law_name" : Str), ("_law_first" : Str), ("_law_second" : Str), ("_law_j" : Str)] [("_law_script" : Str)] (defScope s_law) := ⟨rfl, rfl, rfl, by decide +kernel, rfl, by decide +kernel, by decide +kernel⟩
theorem ok_law {P : Program} {w : World} {K : PySem.W.Frag} {mg : Str → Option Value} {base : Heap} (hNT : base.NoSeer ∧ P.given.tree = none) {f : Addr} {fd : FuncData} (z_range : mg "range" = none) (k_L_pick : Cal P w K mg base 33 "_law_pick" [("_law_flow_here" : Str), ("_law_many" : Str)] (spF K 2 m_L_pick)) (k_L_right : Cal P w K mg base 42 "_law_right" [("_law_at" : Str), ("_law_name" : Str)] (spP K 2 m_right8)) (c_BadText : Cls1 P w K mg base "BadText" "at") (fac : FacK K mg)
    (k_Lflow : Cal P w K mg base 33 "_law_flow" ["_law_script"] (spFl K)) (D : Fun K "law" "law" s_law f fd)
    (hsem : ∀ ns : List Int, ns.length ≤ 63 → ∃ st', b_law_k08 ((startL 8 [.scr ns]).set 1 (some .flow)) ⟨some (fl0 ns), []⟩ = .rt (.d (.bool true)) st') :
    FnOk P w K mg base CX0 43 f fd ["_law_script"] (spLaw K) := by
  refine okLaw (i := 1) (mf := "_law_flow") (psf := ["_law_script"]) (kf := 1) D sc_law rfl (by decide) (fun cdv A outer s H E hr => ?_) hsem
  obtain ⟨fF, fdF, FF, mF, kF, bF⟩ := k_Lflow.ex
  have z : QSs (cxOf CX0 P w K mg base _ "law" (defScope s_law) f cdv A outer s H E).nox (defBody s_law).tail _ b_law_k08 := (qss_cons (qs_set 2 sc_law.nd q_str)
    (qss_cons (qs_for PassesOwn.never rfl (qi_r1 z_range (qa_cons q_int qa_nil)) (qg_name 3 sc_law.nd)
    (qss_cons (qs_set 4 sc_law.nd (q_join q_str (q_frz (qn_lc (g := (gName 7)) (tt := tYes) (te := (tOp (rIx K) (tVar 2) (tCall (spF K 2 m_L_pick) [] E0 (tCons (tVar 1) (tCons (tC (.int 26)) tNil))))) (gm := (gNameM 7)) (cm := bYes) (em := (eOp fIx (eVar 2) (eCallF 2 m_L_pick (aCons (eVar 1) (aCons (eC (.int 26)) aNil))))) (ws := [7]) [(("_law_j" : Str), 7)] rfl sc_law.nd (qi_r1 z_range (qa_cons (q_addA q_int (q_calF k_L_pick hr (by decide) (qa_cons (q_var 1) (qa_cons q_int qa_nil)))) qa_nil)) rfl rfl (by kernel_rfl) (fun _ _ _ _ _ => (qg_name 7 sc_law.nd)) (fun _ _ _ _ _ => qts_nil) (fun _ _ _ _ _ => (q_ix (q_var 2) (q_calF k_L_pick hr (by decide) (qa_cons (q_var 1) (qa_cons q_int qa_nil))))) (by decide)))))
    (qss_one (qs_if (qt_not (qt_tru (q_calP k_L_right hr (by decide) (qa_cons (q_calF k_L_pick hr (by decide) (qa_cons (q_var 1) (qa_cons q_int qa_nil))) (qa_cons (q_var 4) qa_nil)))))
    (qss_one (qs_ret q_bl))
    qss_nil))))
    (qs_tail8 (i := 5) (j := 6) (by decide) fac (fun hq => pss_cons (ps_par rfl sc_law.nd (by rfl) (by rfl) (by decide) (by rfl) (by rfl) (pa_cons (pe_mkV (pmk_1 c_BadText hr (by decide) hq)) (pa_cons (pe_mkV (pmk_1 c_BadText hr (by decide) pe_int)) pa_nil)) (by rfl)) (pss_one (ps_ret (pe_and (pe_cmpR (op_eqD hr.units) (pe_xV (pe_var (i := 6) rfl (.inl rfl))) pe_int (nomark _)) (pe_one (pe_cmpR op_lt (pe_xV (pe_var (i := 5) rfl (.inl rfl))) pe_int (nomark _))))))) (q_calF k_L_pick hr (by decide) (qa_cons (q_var 1) (qa_cons q_int qa_nil))))))
  exact ⟨_, pss_cons (ps_set (i := 1) sc_law.nd rfl (by first | exact .inl rfl | exact .inr rfl) (pe_call FF (hr.mono (by decide)) (by rfl) mF kF bF .nil pass0 (pa_cons (pv 0) pa_nil))) z.pss, fun G hG => z.sim G hG⟩
theorem all_mk {l : PySem.W.OpenLaw} {w : World} {K1 K : PySem.W.Frag} {h : Heap} {mg : Str → Option Value} {fa : Addr} (M : More K1 K) (X : K.In h) (G : h.Ns mainGlobals mg) (hT : l.prog.given.tree = none) (hfa : mg "law" = some (.ref fa)) (hsem : ∀ ns : List Int, ns.length ≤ 63 → ∃ st', b_law_k08 ((startL 8 [.scr ns]).set 1 (some .flow)) ⟨some (fl0 ns), []⟩ = .rt (.d (.bool true)) st') (hal : ∀ (i : Int) (s : Str), PyData.strOk s = true → (m_L_alike 8 [.list [.int i, .str s, .str s, .str s], .list [.int i, .str s, .str s, .str s]]).To fun x => x = .bool true)
    {f_L_flow : Addr} {oc_L_flow kV_L_flow dc_L_flow pm_L_flow cd_L_flow ct_L_flow : Value} {od_L_flow an_L_flow : Option Addr} {sl_L_flow : Array (Option Value)}
    (a_L_flow : PySem.W.nsIn K1 mainGlobals "_law_flow" = some (some (.ref f_L_flow))) (l_L_flow : K1.lookup f_L_flow = some ⟨oc_L_flow, od_L_flow, .func (PySem.W.fnOf "_law_flow" "_law_flow" (defArgs s_L_flow) (defBody s_L_flow) (defScope s_L_flow) .none kV_L_flow dc_L_flow pm_L_flow an_L_flow cd_L_flow ct_L_flow), sl_L_flow⟩) (c_L_flow : PySem.W.codeIn K1 cd_L_flow "_law_flow" = true)
    {f_L_pick : Addr} {oc_L_pick kV_L_pick dc_L_pick pm_L_pick cd_L_pick ct_L_pick : Value} {od_L_pick an_L_pick : Option Addr} {sl_L_pick : Array (Option Value)}
    (a_L_pick : PySem.W.nsIn K1 mainGlobals "_law_pick" = some (some (.ref f_L_pick))) (l_L_pick : K1.lookup f_L_pick = some ⟨oc_L_pick, od_L_pick, .func (PySem.W.fnOf "_law_pick" "_law_pick" (defArgs s_L_pick) (defBody s_L_pick) (defScope s_L_pick) .none kV_L_pick dc_L_pick pm_L_pick an_L_pick cd_L_pick ct_L_pick), sl_L_pick⟩) (c_L_pick : PySem.W.codeIn K1 cd_L_pick "_law_pick" = true)
    {f_L_alike : Addr} {oc_L_alike kV_L_alike dc_L_alike pm_L_alike cd_L_alike ct_L_alike : Value} {od_L_alike an_L_alike : Option Addr} {sl_L_alike : Array (Option Value)}
    (a_L_alike : PySem.W.nsIn K1 mainGlobals "_law_alike" = some (some (.ref f_L_alike))) (l_L_alike : K1.lookup f_L_alike = some ⟨oc_L_alike, od_L_alike, .func (PySem.W.fnOf "_law_alike" "_law_alike" (defArgs s_L_alike) (defBody s_L_alike) (defScope s_L_alike) .none kV_L_alike dc_L_alike pm_L_alike an_L_alike cd_L_alike ct_L_alike), sl_L_alike⟩) (c_L_alike : PySem.W.codeIn K1 cd_L_alike "_law_alike" = true)
    {f_L_kinds : Addr} {oc_L_kinds kV_L_kinds dc_L_kinds pm_L_kinds cd_L_kinds ct_L_kinds : Value} {od_L_kinds an_L_kinds : Option Addr} {sl_L_kinds : Array (Option Value)}
    (a_L_kinds : PySem.W.nsIn K1 mainGlobals "_law_kinds" = some (some (.ref f_L_kinds))) (l_L_kinds : K1.lookup f_L_kinds = some ⟨oc_L_kinds, od_L_kinds, .func (PySem.W.fnOf "_law_kinds" "_law_kinds" (defArgs s_L_kinds) (defBody s_L_kinds) (defScope s_L_kinds) .none kV_L_kinds dc_L_kinds pm_L_kinds an_L_kinds cd_L_kinds ct_L_kinds), sl_L_kinds⟩) (c_L_kinds : PySem.W.codeIn K1 cd_L_kinds "_law_kinds" = true)
    {f_L_right : Addr} {oc_L_right kV_L_right dc_L_right pm_L_right cd_L_right ct_L_right : Value} {od_L_right an_L_right : Option Addr} {sl_L_right : Array (Option Value)}
    (a_L_right : PySem.W.nsIn K1 mainGlobals "_law_right" = some (some (.ref f_L_right))) (l_L_right : K1.lookup f_L_right = some ⟨oc_L_right, od_L_right, .func (PySem.W.fnOf "_law_right" "_law_right" (defArgs s_L_right) (defBody s_L_right) (defScope s_L_right) .none kV_L_right dc_L_right pm_L_right an_L_right cd_L_right ct_L_right), sl_L_right⟩) (c_L_right : PySem.W.codeIn K1 cd_L_right "_law_right" = true)
    {f_law : Addr} {oc_law kV_law dc_law pm_law cd_law ct_law : Value} {od_law an_law : Option Addr} {sl_law : Array (Option Value)}
    (a_law : PySem.W.nsIn K1 mainGlobals "law" = some (some (.ref f_law))) (l_law : K1.lookup f_law = some ⟨oc_law, od_law, .func (PySem.W.fnOf "law" "law" (defArgs s_law) (defBody s_law) (defScope s_law) .none kV_law dc_law pm_law an_law cd_law ct_law), sl_law⟩) (c_law : PySem.W.codeIn K1 cd_law "law" = true)
    (b_ValueError : PySem.W.nsIn K1 mainGlobals "ValueError" = some none)
    (b_all : PySem.W.nsIn K1 mainGlobals "all" = some none)
    (b_bool : PySem.W.nsIn K1 mainGlobals "bool" = some none)
    (b_isinstance : PySem.W.nsIn K1 mainGlobals "isinstance" = some none)
    (b_len : PySem.W.nsIn K1 mainGlobals "len" = some none)
    (b_list : PySem.W.nsIn K1 mainGlobals "list" = some none)
    (b_range : PySem.W.nsIn K1 mainGlobals "range" = some none)
    (b_tuple : PySem.W.nsIn K1 mainGlobals "tuple" = some none)
    {C_BadText : Addr}
    (ac_BadText : PySem.W.nsIn K1 mainGlobals "BadText" = some (some (.ref C_BadText)))
    (kc_BadText : PySem.W.keepIn K1 (.ref C_BadText) = true) (ec_BadText : PySem.W.subIn K1 (.ref C_BadText) (.type "BaseException") = some true) (tc_BadText : PySem.W.typeIn K1 (.ref C_BadText) = some (.type "type"))
    {I_BadText N_BadText : Addr} {nm_BadText q_BadText : Str} {bs_BadText bm_BadText sb_BadText : List Value} {sn_BadText : List Str} {ab_BadText : Bool} {col_BadText : Option Bool} {dd_BadText od_BadText an_BadText : Option Addr} {m0_BadText m1_BadText m2_BadText m3_BadText m5_BadText : Option Value} {oc_BadText kV_BadText dc_BadText pm_BadText cd_BadText ct_BadText : Value} {sl_BadText : Array (Option Value)}
    (xc_BadText : K1.lookup C_BadText = some (excClassObj nm_BadText q_BadText C_BadText N_BadText bs_BadText bm_BadText true sn_BadText sb_BadText ab_BadText col_BadText dd_BadText m0_BadText m1_BadText m2_BadText m3_BadText m5_BadText "ValueError.__new__"))
    (sc_BadText : PySem.W.findIn K1 (.ref C_BadText) "__setattr__" = some (some (.builtin "object.__setattr__"))) (nc_BadText : PySem.W.findIn K1 (.ref C_BadText) "at" = some none)
    (ic_BadText : PySem.W.findIn K1 (.ref C_BadText) "__init__" = some (some (.ref I_BadText))) (yc_BadText : PySem.W.typeIn K1 (.ref I_BadText) = some (.type "function"))
    (lc_BadText : K1.lookup I_BadText = some ⟨oc_BadText, od_BadText, .func (PySem.W.fnOf "__init__" "BadText.__init__" (defArgs si_BadText) (defBody si_BadText) (defScope si_BadText) .none kV_BadText dc_BadText pm_BadText an_BadText cd_BadText ct_BadText), sl_BadText⟩) (dc2_BadText : PySem.W.codeIn K1 cd_BadText "BadText.__init__" = true)
    (rc_BadText : PySem.HandSPX.refsVE bm_BadText = true)
    {C_NoName : Addr}
    (ac_NoName : PySem.W.nsIn K1 mainGlobals "NoName" = some (some (.ref C_NoName)))
    (kc_NoName : PySem.W.keepIn K1 (.ref C_NoName) = true) (ec_NoName : PySem.W.subIn K1 (.ref C_NoName) (.type "BaseException") = some true) (tc_NoName : PySem.W.typeIn K1 (.ref C_NoName) = some (.type "type"))
    {I_NoName N_NoName : Addr} {nm_NoName q_NoName : Str} {bs_NoName bm_NoName sb_NoName : List Value} {sn_NoName : List Str} {ab_NoName : Bool} {col_NoName : Option Bool} {dd_NoName od_NoName an_NoName : Option Addr} {m0_NoName m1_NoName m2_NoName m3_NoName m5_NoName : Option Value} {oc_NoName kV_NoName dc_NoName pm_NoName cd_NoName ct_NoName : Value} {sl_NoName : Array (Option Value)}
    (xc_NoName : K1.lookup C_NoName = some (excClassObj nm_NoName q_NoName C_NoName N_NoName bs_NoName bm_NoName true sn_NoName sb_NoName ab_NoName col_NoName dd_NoName m0_NoName m1_NoName m2_NoName m3_NoName m5_NoName "ValueError.__new__"))
    (sc_NoName : PySem.W.findIn K1 (.ref C_NoName) "__setattr__" = some (some (.builtin "object.__setattr__"))) (nc_NoName : PySem.W.findIn K1 (.ref C_NoName) "name" = some none)
    (ic_NoName : PySem.W.findIn K1 (.ref C_NoName) "__init__" = some (some (.ref I_NoName))) (yc_NoName : PySem.W.typeIn K1 (.ref I_NoName) = some (.type "function"))
    (lc_NoName : K1.lookup I_NoName = some ⟨oc_NoName, od_NoName, .func (PySem.W.fnOf "__init__" "NoName.__init__" (defArgs si_NoName) (defBody si_NoName) (defScope si_NoName) .none kV_NoName dc_NoName pm_NoName an_NoName cd_NoName ct_NoName), sl_NoName⟩) (dc2_NoName : PySem.W.codeIn K1 cd_NoName "NoName.__init__" = true)
    (rc_NoName : PySem.HandSPX.refsVE bm_NoName = true)
    {C_NoRow : Addr}
    (ac_NoRow : PySem.W.nsIn K1 mainGlobals "NoRow" = some (some (.ref C_NoRow)))
    (kc_NoRow : PySem.W.keepIn K1 (.ref C_NoRow) = true) (ec_NoRow : PySem.W.subIn K1 (.ref C_NoRow) (.type "BaseException") = some true) (tc_NoRow : PySem.W.typeIn K1 (.ref C_NoRow) = some (.type "type"))
    (xc_NoRow : PySem.W.excIn K1 C_NoRow [.type "ValueError", .type "Exception", .type "BaseException", .type "object"] "ValueError.__new__" = true)
    {C_TooGreat : Addr}
    (ac_TooGreat : PySem.W.nsIn K1 mainGlobals "TooGreat" = some (some (.ref C_TooGreat)))
    (kc_TooGreat : PySem.W.keepIn K1 (.ref C_TooGreat) = true) (ec_TooGreat : PySem.W.subIn K1 (.ref C_TooGreat) (.type "BaseException") = some true) (tc_TooGreat : PySem.W.typeIn K1 (.ref C_TooGreat) = some (.type "type"))
    {I_TooGreat N_TooGreat : Addr} {nm_TooGreat q_TooGreat : Str} {bs_TooGreat bm_TooGreat sb_TooGreat : List Value} {sn_TooGreat : List Str} {ab_TooGreat : Bool} {col_TooGreat : Option Bool} {dd_TooGreat od_TooGreat an_TooGreat : Option Addr} {m0_TooGreat m1_TooGreat m2_TooGreat m3_TooGreat m5_TooGreat : Option Value} {oc_TooGreat kV_TooGreat dc_TooGreat pm_TooGreat cd_TooGreat ct_TooGreat : Value} {sl_TooGreat : Array (Option Value)}
    (xc_TooGreat : K1.lookup C_TooGreat = some (excClassObj nm_TooGreat q_TooGreat C_TooGreat N_TooGreat bs_TooGreat bm_TooGreat true sn_TooGreat sb_TooGreat ab_TooGreat col_TooGreat dd_TooGreat m0_TooGreat m1_TooGreat m2_TooGreat m3_TooGreat m5_TooGreat "ValueError.__new__"))
    (sc_TooGreat : PySem.W.findIn K1 (.ref C_TooGreat) "__setattr__" = some (some (.builtin "object.__setattr__"))) (nc_TooGreat : PySem.W.findIn K1 (.ref C_TooGreat) "name" = some none)
    (ic_TooGreat : PySem.W.findIn K1 (.ref C_TooGreat) "__init__" = some (some (.ref I_TooGreat))) (yc_TooGreat : PySem.W.typeIn K1 (.ref I_TooGreat) = some (.type "function"))
    (lc_TooGreat : K1.lookup I_TooGreat = some ⟨oc_TooGreat, od_TooGreat, .func (PySem.W.fnOf "__init__" "TooGreat.__init__" (defArgs si_TooGreat) (defBody si_TooGreat) (defScope si_TooGreat) .none kV_TooGreat dc_TooGreat pm_TooGreat an_TooGreat cd_TooGreat ct_TooGreat), sl_TooGreat⟩) (dc2_TooGreat : PySem.W.codeIn K1 cd_TooGreat "TooGreat.__init__" = true)
    (rc_TooGreat : PySem.HandSPX.refsVE bm_TooGreat = true)
    {C_Twice : Addr}
    (ac_Twice : PySem.W.nsIn K1 mainGlobals "Twice" = some (some (.ref C_Twice)))
    (kc_Twice : PySem.W.keepIn K1 (.ref C_Twice) = true) (ec_Twice : PySem.W.subIn K1 (.ref C_Twice) (.type "BaseException") = some true) (tc_Twice : PySem.W.typeIn K1 (.ref C_Twice) = some (.type "type"))
    {I_Twice N_Twice : Addr} {nm_Twice q_Twice : Str} {bs_Twice bm_Twice sb_Twice : List Value} {sn_Twice : List Str} {ab_Twice : Bool} {col_Twice : Option Bool} {dd_Twice od_Twice an_Twice : Option Addr} {m0_Twice m1_Twice m2_Twice m3_Twice m5_Twice : Option Value} {oc_Twice kV_Twice dc_Twice pm_Twice cd_Twice ct_Twice : Value} {sl_Twice : Array (Option Value)}
    (xc_Twice : K1.lookup C_Twice = some (excClassObj nm_Twice q_Twice C_Twice N_Twice bs_Twice bm_Twice true sn_Twice sb_Twice ab_Twice col_Twice dd_Twice m0_Twice m1_Twice m2_Twice m3_Twice m5_Twice "ValueError.__new__"))
    (sc_Twice : PySem.W.findIn K1 (.ref C_Twice) "__setattr__" = some (some (.builtin "object.__setattr__"))) (nc_Twice : PySem.W.findIn K1 (.ref C_Twice) "name" = some none)
    (ic_Twice : PySem.W.findIn K1 (.ref C_Twice) "__init__" = some (some (.ref I_Twice))) (yc_Twice : PySem.W.typeIn K1 (.ref I_Twice) = some (.type "function"))
    (lc_Twice : K1.lookup I_Twice = some ⟨oc_Twice, od_Twice, .func (PySem.W.fnOf "__init__" "Twice.__init__" (defArgs si_Twice) (defBody si_Twice) (defScope si_Twice) .none kV_Twice dc_Twice pm_Twice an_Twice cd_Twice ct_Twice), sl_Twice⟩) (dc2_Twice : PySem.W.codeIn K1 cd_Twice "Twice.__init__" = true)
    (rc_Twice : PySem.HandSPX.refsVE bm_Twice = true)
    {C_NestError : Addr} (ac_NestError : PySem.W.nsIn K1 mainGlobals "NestError" = some (some (.ref C_NestError))) (td_NestError : PySem.W.typeIn K1 (.ref C_NestError) = some (.type "type")) (dd_NestError : PySem.W.hasDictIn K1 C_NestError = true)
    (sp_oc : PySem.W.specialIn K1 (.builtin "object.__class__") "__get__" = some (some (.builtin "getset_descriptor.__get__"))) (tk_oc : PySem.W.takesIn K1 (.builtin "object.__class__") = some true)
    (gb_BadText : PySem.W.findIn K1 (.ref C_BadText) "__getattribute__" = some (some (.builtin "BaseException.__getattribute__"))) (gh_BadText : PySem.W.findIn K1 (.ref C_BadText) "__getattr__" = some none) (hb_BadText : PySem.W.hasDictIn K1 C_BadText = true) (cb_BadText : PySem.W.findIn K1 (.ref C_BadText) "__class__" = some (some (.builtin "object.__class__"))) (mr_BadText : PySem.W.mroIn K1 C_BadText (.type "object") = some true) (vs_BadText : PySem.W.subIn K1 (.ref C_BadText) (.type "ValueError") = some true) (sn_BadText : PySem.W.subIn K1 (.ref C_BadText) (.ref C_NestError) = some true)
    (gb_NoName : PySem.W.findIn K1 (.ref C_NoName) "__getattribute__" = some (some (.builtin "BaseException.__getattribute__"))) (gh_NoName : PySem.W.findIn K1 (.ref C_NoName) "__getattr__" = some none) (hb_NoName : PySem.W.hasDictIn K1 C_NoName = true) (cb_NoName : PySem.W.findIn K1 (.ref C_NoName) "__class__" = some (some (.builtin "object.__class__"))) (mr_NoName : PySem.W.mroIn K1 C_NoName (.type "object") = some true) (vs_NoName : PySem.W.subIn K1 (.ref C_NoName) (.type "ValueError") = some true) (sn_NoName : PySem.W.subIn K1 (.ref C_NoName) (.ref C_NestError) = some true)
    (gb_Twice : PySem.W.findIn K1 (.ref C_Twice) "__getattribute__" = some (some (.builtin "BaseException.__getattribute__"))) (gh_Twice : PySem.W.findIn K1 (.ref C_Twice) "__getattr__" = some none) (hb_Twice : PySem.W.hasDictIn K1 C_Twice = true) (cb_Twice : PySem.W.findIn K1 (.ref C_Twice) "__class__" = some (some (.builtin "object.__class__"))) (mr_Twice : PySem.W.mroIn K1 C_Twice (.type "object") = some true) (vs_Twice : PySem.W.subIn K1 (.ref C_Twice) (.type "ValueError") = some true) (sn_Twice : PySem.W.subIn K1 (.ref C_Twice) (.ref C_NestError) = some true)
    (gb_TooGreat : PySem.W.findIn K1 (.ref C_TooGreat) "__getattribute__" = some (some (.builtin "BaseException.__getattribute__"))) (gh_TooGreat : PySem.W.findIn K1 (.ref C_TooGreat) "__getattr__" = some none) (hb_TooGreat : PySem.W.hasDictIn K1 C_TooGreat = true) (cb_TooGreat : PySem.W.findIn K1 (.ref C_TooGreat) "__class__" = some (some (.builtin "object.__class__"))) (mr_TooGreat : PySem.W.mroIn K1 C_TooGreat (.type "object") = some true) (vs_TooGreat : PySem.W.subIn K1 (.ref C_TooGreat) (.type "ValueError") = some true) (sn_TooGreat : PySem.W.subIn K1 (.ref C_TooGreat) (.ref C_NestError) = some true)
    (gb_NoRow : PySem.W.findIn K1 (.ref C_NoRow) "__getattribute__" = some (some (.builtin "BaseException.__getattribute__"))) (gh_NoRow : PySem.W.findIn K1 (.ref C_NoRow) "__getattr__" = some none) (hb_NoRow : PySem.W.hasDictIn K1 C_NoRow = true) (cb_NoRow : PySem.W.findIn K1 (.ref C_NoRow) "__class__" = some (some (.builtin "object.__class__"))) (mr_NoRow : PySem.W.mroIn K1 C_NoRow (.type "object") = some true) (vs_NoRow : PySem.W.subIn K1 (.ref C_NoRow) (.type "ValueError") = some true) (sn_NoRow : PySem.W.subIn K1 (.ref C_NoRow) (.ref C_NestError) = some true)
    (sb_BadText_NoName : PySem.W.subIn K1 (.ref C_BadText) (.ref C_NoName) = some false)
    (sb_BadText_Twice : PySem.W.subIn K1 (.ref C_BadText) (.ref C_Twice) = some false)
    (sb_BadText_TooGreat : PySem.W.subIn K1 (.ref C_BadText) (.ref C_TooGreat) = some false)
    (sb_BadText_NoRow : PySem.W.subIn K1 (.ref C_BadText) (.ref C_NoRow) = some false)
    (sb_NoName_BadText : PySem.W.subIn K1 (.ref C_NoName) (.ref C_BadText) = some false)
    (sb_NoName_Twice : PySem.W.subIn K1 (.ref C_NoName) (.ref C_Twice) = some false)
    (sb_NoName_TooGreat : PySem.W.subIn K1 (.ref C_NoName) (.ref C_TooGreat) = some false)
    (sb_NoName_NoRow : PySem.W.subIn K1 (.ref C_NoName) (.ref C_NoRow) = some false)
    (sb_Twice_BadText : PySem.W.subIn K1 (.ref C_Twice) (.ref C_BadText) = some false)
    (sb_Twice_NoName : PySem.W.subIn K1 (.ref C_Twice) (.ref C_NoName) = some false)
    (sb_Twice_TooGreat : PySem.W.subIn K1 (.ref C_Twice) (.ref C_TooGreat) = some false)
    (sb_Twice_NoRow : PySem.W.subIn K1 (.ref C_Twice) (.ref C_NoRow) = some false)
    (sb_TooGreat_BadText : PySem.W.subIn K1 (.ref C_TooGreat) (.ref C_BadText) = some false)
    (sb_TooGreat_NoName : PySem.W.subIn K1 (.ref C_TooGreat) (.ref C_NoName) = some false)
    (sb_TooGreat_Twice : PySem.W.subIn K1 (.ref C_TooGreat) (.ref C_Twice) = some false)
    (sb_TooGreat_NoRow : PySem.W.subIn K1 (.ref C_TooGreat) (.ref C_NoRow) = some false)
    (sb_NoRow_BadText : PySem.W.subIn K1 (.ref C_NoRow) (.ref C_BadText) = some false)
    (sb_NoRow_NoName : PySem.W.subIn K1 (.ref C_NoRow) (.ref C_NoName) = some false)
    (sb_NoRow_Twice : PySem.W.subIn K1 (.ref C_NoRow) (.ref C_Twice) = some false)
    (sb_NoRow_TooGreat : PySem.W.subIn K1 (.ref C_NoRow) (.ref C_TooGreat) = some false)
    (ne_BadText_NoName : C_BadText ≠ C_NoName)
    (ne_BadText_Twice : C_BadText ≠ C_Twice)
    (ne_BadText_TooGreat : C_BadText ≠ C_TooGreat)
    (ne_BadText_NoRow : C_BadText ≠ C_NoRow)
    (ne_NoName_BadText : C_NoName ≠ C_BadText)
    (ne_NoName_Twice : C_NoName ≠ C_Twice)
    (ne_NoName_TooGreat : C_NoName ≠ C_TooGreat)
    (ne_NoName_NoRow : C_NoName ≠ C_NoRow)
    (ne_Twice_BadText : C_Twice ≠ C_BadText)
    (ne_Twice_NoName : C_Twice ≠ C_NoName)
    (ne_Twice_TooGreat : C_Twice ≠ C_TooGreat)
    (ne_Twice_NoRow : C_Twice ≠ C_NoRow)
    (ne_TooGreat_BadText : C_TooGreat ≠ C_BadText)
    (ne_TooGreat_NoName : C_TooGreat ≠ C_NoName)
    (ne_TooGreat_Twice : C_TooGreat ≠ C_Twice)
    (ne_TooGreat_NoRow : C_TooGreat ≠ C_NoRow)
    (ne_NoRow_BadText : C_NoRow ≠ C_BadText)
    (ne_NoRow_NoName : C_NoRow ≠ C_NoName)
    (ne_NoRow_Twice : C_NoRow ≠ C_Twice)
    (ne_NoRow_TooGreat : C_NoRow ≠ C_TooGreat)
    (nn_BadText : C_BadText ≠ C_NestError)
    (nn_NoName : C_NoName ≠ C_NestError)
    (nn_Twice : C_Twice ≠ C_NestError)
    (nn_TooGreat : C_TooGreat ≠ C_NestError)
    (nn_NoRow : C_NoRow ≠ C_NestError)
    : ∃ fd : FuncData, (∀ (s : Shared) (v : Value), BindsTo s fd ⟨[v], []⟩ [("_law_script", v)]) ∧ ∀ base : Heap, K.In base → base.Ns mainGlobals mg → base.NoSeer → FnOk l.prog w K mg base CX0 43 fa fd ["_law_script"] (spLaw K) := by
  have a_L_flow := M.ns a_L_flow; have l_L_flow := M _ _ l_L_flow; have c_L_flow := M.code c_L_flow; have q_L_flow := keep_fn l_L_flow
  have a_L_pick := M.ns a_L_pick; have l_L_pick := M _ _ l_L_pick; have c_L_pick := M.code c_L_pick; have q_L_pick := keep_fn l_L_pick
  have a_L_alike := M.ns a_L_alike; have l_L_alike := M _ _ l_L_alike; have c_L_alike := M.code c_L_alike; have q_L_alike := keep_fn l_L_alike
  have a_L_kinds := M.ns a_L_kinds; have l_L_kinds := M _ _ l_L_kinds; have c_L_kinds := M.code c_L_kinds; have q_L_kinds := keep_fn l_L_kinds
  have a_L_right := M.ns a_L_right; have l_L_right := M _ _ l_L_right; have c_L_right := M.code c_L_right; have q_L_right := keep_fn l_L_right
  have a_law := M.ns a_law; have l_law := M _ _ l_law; have c_law := M.code c_law; have q_law := keep_fn l_law
  have b_ValueError := M.ns b_ValueError
  have b_all := M.ns b_all
  have b_bool := M.ns b_bool
  have b_isinstance := M.ns b_isinstance
  have b_len := M.ns b_len
  have b_list := M.ns b_list
  have b_range := M.ns b_range
  have b_tuple := M.ns b_tuple
  have g_BadText := PySem.W.mg_of X G (M.ns ac_BadText); have kc_BadText := M.keep kc_BadText; have ec_BadText := M.sub ec_BadText; have tc_BadText := M.typ tc_BadText
  have xc_BadText := M _ _ xc_BadText; have sc_BadText := M.find sc_BadText; have nc_BadText := M.find nc_BadText; have ic_BadText := M.find ic_BadText; have yc_BadText := M.typ yc_BadText; have lc_BadText := M _ _ lc_BadText; have dc2_BadText := M.code dc2_BadText
  have g_NoName := PySem.W.mg_of X G (M.ns ac_NoName); have kc_NoName := M.keep kc_NoName; have ec_NoName := M.sub ec_NoName; have tc_NoName := M.typ tc_NoName
  have xc_NoName := M _ _ xc_NoName; have sc_NoName := M.find sc_NoName; have nc_NoName := M.find nc_NoName; have ic_NoName := M.find ic_NoName; have yc_NoName := M.typ yc_NoName; have lc_NoName := M _ _ lc_NoName; have dc2_NoName := M.code dc2_NoName
  have g_NoRow := PySem.W.mg_of X G (M.ns ac_NoRow); have kc_NoRow := M.keep kc_NoRow; have ec_NoRow := M.sub ec_NoRow; have tc_NoRow := M.typ tc_NoRow
  have xc_NoRow := More.exc M xc_NoRow
  have g_TooGreat := PySem.W.mg_of X G (M.ns ac_TooGreat); have kc_TooGreat := M.keep kc_TooGreat; have ec_TooGreat := M.sub ec_TooGreat; have tc_TooGreat := M.typ tc_TooGreat
  have xc_TooGreat := M _ _ xc_TooGreat; have sc_TooGreat := M.find sc_TooGreat; have nc_TooGreat := M.find nc_TooGreat; have ic_TooGreat := M.find ic_TooGreat; have yc_TooGreat := M.typ yc_TooGreat; have lc_TooGreat := M _ _ lc_TooGreat; have dc2_TooGreat := M.code dc2_TooGreat
  have g_Twice := PySem.W.mg_of X G (M.ns ac_Twice); have kc_Twice := M.keep kc_Twice; have ec_Twice := M.sub ec_Twice; have tc_Twice := M.typ tc_Twice
  have xc_Twice := M _ _ xc_Twice; have sc_Twice := M.find sc_Twice; have nc_Twice := M.find nc_Twice; have ic_Twice := M.find ic_Twice; have yc_Twice := M.typ yc_Twice; have lc_Twice := M _ _ lc_Twice; have dc2_Twice := M.code dc2_Twice
  have e := hfa.symm.trans (PySem.W.mg_of X G a_law)
  cases e
  have z_ValueError := PySem.W.mg_none_of X G b_ValueError
  have z_all := PySem.W.mg_none_of X G b_all
  have z_bool := PySem.W.mg_none_of X G b_bool
  have z_isinstance := PySem.W.mg_none_of X G b_isinstance
  have z_len := PySem.W.mg_none_of X G b_len
  have z_list := PySem.W.mg_none_of X G b_list
  have z_range := PySem.W.mg_none_of X G b_range
  have z_tuple := PySem.W.mg_none_of X G b_tuple
  have D_L_flow : DefIn K mg "_law_flow" s_L_flow [("_law_script" : Str)] := defIn_mk X G a_L_flow l_L_flow c_L_flow q_L_flow fun _ _ _ _ _ _ us hl => match us, hl with | [_], _ => rfl
  have D_L_pick : DefIn K mg "_law_pick" s_L_pick [("_law_flow_here" : Str), ("_law_many" : Str)] := defIn_mk X G a_L_pick l_L_pick c_L_pick q_L_pick fun _ _ _ _ _ _ us hl => match us, hl with | [_, _], _ => rfl
  have D_L_alike : DefIn K mg "_law_alike" s_L_alike [("_law_found" : Str), ("_law_due" : Str)] := defIn_mk X G a_L_alike l_L_alike c_L_alike q_L_alike fun _ _ _ _ _ _ us hl => match us, hl with | [_, _], _ => rfl
  have D_L_kinds : DefIn K mg "_law_kinds" s_L_kinds [("_law_e" : Str)] := defIn_mk X G a_L_kinds l_L_kinds c_L_kinds q_L_kinds fun _ _ _ _ _ _ us hl => match us, hl with | [_], _ => rfl
  have D_L_right : DefIn K mg "_law_right" s_L_right [("_law_at" : Str), ("_law_name" : Str)] := defIn_mk X G a_L_right l_L_right c_L_right q_L_right fun _ _ _ _ _ _ us hl => match us, hl with | [_, _], _ => rfl
  refine ⟨PySem.W.fnOf "law" "law" (defArgs s_law) (defBody s_law) (defScope s_law) .none kV_law dc_law pm_law an_law cd_law ct_law, fun s v => .of_eq rfl, fun base _ _ hNS => ?_⟩
  have hNT := And.intro hNS hT
  have fi_BadText := fun_mk (x := "__init__") (qual := "BadText.__init__") (st := si_BadText) lc_BadText dc2_BadText (keep_fn lc_BadText)
  have oe_BadText : OexC K C_BadText := ⟨⟨_, _, _, _, _, _, _, _, _, _, _, _, _, _, _, xc_BadText, rc_BadText⟩, sc_BadText, ec_BadText, tc_BadText, kc_BadText⟩
  have c_BadText : Cls1 l.prog w K mg base "BadText" "at" := cls1_mk g_BadText oe_BadText ic_BadText yc_BadText (ini_BadText fi_BadText oe_BadText nc_BadText) (fi_BadText.binds (ps := [("self" : Str), ("at" : Str)]) fun _ _ _ _ _ _ us hl => match us, hl with | [_, _], _ => rfl)
  have fi_NoName := fun_mk (x := "__init__") (qual := "NoName.__init__") (st := si_NoName) lc_NoName dc2_NoName (keep_fn lc_NoName)
  have oe_NoName : OexC K C_NoName := ⟨⟨_, _, _, _, _, _, _, _, _, _, _, _, _, _, _, xc_NoName, rc_NoName⟩, sc_NoName, ec_NoName, tc_NoName, kc_NoName⟩
  have c_NoName : Cls1 l.prog w K mg base "NoName" "name" := cls1_mk g_NoName oe_NoName ic_NoName yc_NoName (ini_NoName fi_NoName oe_NoName nc_NoName) (fi_NoName.binds (ps := [("self" : Str), ("name" : Str)]) fun _ _ _ _ _ _ us hl => match us, hl with | [_, _], _ => rfl)
  have c_NoRow : Cls0 K mg "NoRow" := ⟨_, g_NoRow, xc_NoRow, kc_NoRow, ec_NoRow, tc_NoRow⟩
  have fi_TooGreat := fun_mk (x := "__init__") (qual := "TooGreat.__init__") (st := si_TooGreat) lc_TooGreat dc2_TooGreat (keep_fn lc_TooGreat)
  have oe_TooGreat : OexC K C_TooGreat := ⟨⟨_, _, _, _, _, _, _, _, _, _, _, _, _, _, _, xc_TooGreat, rc_TooGreat⟩, sc_TooGreat, ec_TooGreat, tc_TooGreat, kc_TooGreat⟩
  have c_TooGreat : Cls1 l.prog w K mg base "TooGreat" "name" := cls1_mk g_TooGreat oe_TooGreat ic_TooGreat yc_TooGreat (ini_TooGreat fi_TooGreat oe_TooGreat nc_TooGreat) (fi_TooGreat.binds (ps := [("self" : Str), ("name" : Str)]) fun _ _ _ _ _ _ us hl => match us, hl with | [_, _], _ => rfl)
  have fi_Twice := fun_mk (x := "__init__") (qual := "Twice.__init__") (st := si_Twice) lc_Twice dc2_Twice (keep_fn lc_Twice)
  have oe_Twice : OexC K C_Twice := ⟨⟨_, _, _, _, _, _, _, _, _, _, _, _, _, _, _, xc_Twice, rc_Twice⟩, sc_Twice, ec_Twice, tc_Twice, kc_Twice⟩
  have c_Twice : Cls1 l.prog w K mg base "Twice" "name" := cls1_mk g_Twice oe_Twice ic_Twice yc_Twice (ini_Twice fi_Twice oe_Twice nc_Twice) (fi_Twice.binds (ps := [("self" : Str), ("name" : Str)]) fun _ _ _ _ _ _ us hl => match us, hl with | [_, _], _ => rfl)
  have g_NestError := PySem.W.mg_of X G (M.ns ac_NestError)
  have ex_BadText : ExcC K C_BadText := ⟨M.find gb_BadText, M.find gh_BadText, ec_BadText, M.dict hb_BadText, M.find cb_BadText, M.special sp_oc, M.takes tk_oc, M.mro mr_BadText⟩
  have ex_NoName : ExcC K C_NoName := ⟨M.find gb_NoName, M.find gh_NoName, ec_NoName, M.dict hb_NoName, M.find cb_NoName, M.special sp_oc, M.takes tk_oc, M.mro mr_NoName⟩
  have ex_Twice : ExcC K C_Twice := ⟨M.find gb_Twice, M.find gh_Twice, ec_Twice, M.dict hb_Twice, M.find cb_Twice, M.special sp_oc, M.takes tk_oc, M.mro mr_Twice⟩
  have ex_TooGreat : ExcC K C_TooGreat := ⟨M.find gb_TooGreat, M.find gh_TooGreat, ec_TooGreat, M.dict hb_TooGreat, M.find cb_TooGreat, M.special sp_oc, M.takes tk_oc, M.mro mr_TooGreat⟩
  have ex_NoRow : ExcC K C_NoRow := ⟨M.find gb_NoRow, M.find gh_NoRow, ec_NoRow, M.dict hb_NoRow, M.find cb_NoRow, M.special sp_oc, M.takes tk_oc, M.mro mr_NoRow⟩
  have fac : FacK K mg := fac_mk g_BadText g_NoName g_Twice g_TooGreat g_NoRow g_NestError ⟨ex_BadText, ex_NoName, ex_Twice, ex_TooGreat, ex_NoRow⟩ ⟨⟨⟨M.find gb_BadText, M.find gh_BadText, ec_BadText, M.dict hb_BadText⟩, nc_BadText⟩, ⟨⟨M.find gb_NoName, M.find gh_NoName, ec_NoName, M.dict hb_NoName⟩, nc_NoName⟩, ⟨⟨M.find gb_Twice, M.find gh_Twice, ec_Twice, M.dict hb_Twice⟩, nc_Twice⟩, ⟨⟨M.find gb_TooGreat, M.find gh_TooGreat, ec_TooGreat, M.dict hb_TooGreat⟩, nc_TooGreat⟩⟩ ⟨kit_ref (M.dict dd_NestError) (M.typ td_NestError) (M.sub sn_BadText) (fun z => nn_BadText (Value.ref.inj z)), kit_ref (M.dict dd_NestError) (M.typ td_NestError) (M.sub sn_NoName) (fun z => nn_NoName (Value.ref.inj z)), kit_ref (M.dict dd_NestError) (M.typ td_NestError) (M.sub sn_Twice) (fun z => nn_Twice (Value.ref.inj z)), kit_ref (M.dict dd_NestError) (M.typ td_NestError) (M.sub sn_TooGreat) (fun z => nn_TooGreat (Value.ref.inj z)), kit_ref (M.dict dd_NestError) (M.typ td_NestError) (M.sub sn_NoRow) (fun z => nn_NoRow (Value.ref.inj z))⟩ ⟨kit_typ (M.sub vs_BadText), kit_typ (M.sub vs_NoName), kit_typ (M.sub vs_Twice), kit_typ (M.sub vs_TooGreat), kit_typ (M.sub vs_NoRow)⟩ ⟨kit_ref (M.dict hb_NoName) tc_NoName (M.sub sb_BadText_NoName) (fun z => ne_BadText_NoName (Value.ref.inj z)), kit_ref (M.dict hb_Twice) tc_Twice (M.sub sb_BadText_Twice) (fun z => ne_BadText_Twice (Value.ref.inj z)), kit_ref (M.dict hb_TooGreat) tc_TooGreat (M.sub sb_BadText_TooGreat) (fun z => ne_BadText_TooGreat (Value.ref.inj z)), kit_ref (M.dict hb_NoRow) tc_NoRow (M.sub sb_BadText_NoRow) (fun z => ne_BadText_NoRow (Value.ref.inj z))⟩ ⟨kit_ref (M.dict hb_BadText) tc_BadText (M.sub sb_NoName_BadText) (fun z => ne_NoName_BadText (Value.ref.inj z)), kit_ref (M.dict hb_Twice) tc_Twice (M.sub sb_NoName_Twice) (fun z => ne_NoName_Twice (Value.ref.inj z)), kit_ref (M.dict hb_TooGreat) tc_TooGreat (M.sub sb_NoName_TooGreat) (fun z => ne_NoName_TooGreat (Value.ref.inj z)), kit_ref (M.dict hb_NoRow) tc_NoRow (M.sub sb_NoName_NoRow) (fun z => ne_NoName_NoRow (Value.ref.inj z))⟩ ⟨kit_ref (M.dict hb_BadText) tc_BadText (M.sub sb_Twice_BadText) (fun z => ne_Twice_BadText (Value.ref.inj z)), kit_ref (M.dict hb_NoName) tc_NoName (M.sub sb_Twice_NoName) (fun z => ne_Twice_NoName (Value.ref.inj z)), kit_ref (M.dict hb_TooGreat) tc_TooGreat (M.sub sb_Twice_TooGreat) (fun z => ne_Twice_TooGreat (Value.ref.inj z)), kit_ref (M.dict hb_NoRow) tc_NoRow (M.sub sb_Twice_NoRow) (fun z => ne_Twice_NoRow (Value.ref.inj z))⟩ ⟨kit_ref (M.dict hb_BadText) tc_BadText (M.sub sb_TooGreat_BadText) (fun z => ne_TooGreat_BadText (Value.ref.inj z)), kit_ref (M.dict hb_NoName) tc_NoName (M.sub sb_TooGreat_NoName) (fun z => ne_TooGreat_NoName (Value.ref.inj z)), kit_ref (M.dict hb_Twice) tc_Twice (M.sub sb_TooGreat_Twice) (fun z => ne_TooGreat_Twice (Value.ref.inj z)), kit_ref (M.dict hb_NoRow) tc_NoRow (M.sub sb_TooGreat_NoRow) (fun z => ne_TooGreat_NoRow (Value.ref.inj z))⟩ ⟨kit_ref (M.dict hb_BadText) tc_BadText (M.sub sb_NoRow_BadText) (fun z => ne_NoRow_BadText (Value.ref.inj z)), kit_ref (M.dict hb_NoName) tc_NoName (M.sub sb_NoRow_NoName) (fun z => ne_NoRow_NoName (Value.ref.inj z)), kit_ref (M.dict hb_Twice) tc_Twice (M.sub sb_NoRow_Twice) (fun z => ne_NoRow_Twice (Value.ref.inj z)), kit_ref (M.dict hb_TooGreat) tc_TooGreat (M.sub sb_NoRow_TooGreat) (fun z => ne_NoRow_TooGreat (Value.ref.inj z))⟩
  have k_L_flow := k_L_flow (P := l.prog) (w := w) (base := base) hNT z_list D_L_flow
  have k_L_pick := k_L_pick (P := l.prog) (w := w) (base := base) hNT z_len D_L_pick
  have k_L_alike := fun n => k_L_alike (P := l.prog) (w := w) (base := base) hNT z_all z_bool z_isinstance z_len z_list z_range z_tuple D_L_alike n
  have k_L_kinds := k_L_kinds (P := l.prog) (w := w) (base := base) hNT z_isinstance fac D_L_kinds
  have k_L_right := k_L_right (P := l.prog) (w := w) (base := base) hNT z_ValueError z_isinstance z_range k_L_kinds (k_L_alike 8) c_BadText c_NoName c_Twice c_TooGreat c_NoRow fac hal D_L_right
  exact ok_law hNT z_range k_L_pick k_L_right c_BadText fac k_L_flow (fun_mk (st := s_law) l_law c_law q_law) hsem
end K08

open PySem PySem.W PyProof.Rows
set_option maxHeartbeats 0 in
theorem PySem.Challenge.cw_nestwright_k08_refusals_holds : PySem.Challenge.rw_nestwright_k08_refusals.Holds := by
  w_on; o_law; k_head; (case hw => w_witness2)
  k_fill
  refine NW.walk2 (l := PySem.Challenge.rw_nestwright_k08_refusals) (n := 63) (k := 43) (x := "_law_script") (sp := NW.spLaw) rfl (by decide) rfl ⟨rfl, by decide, by decide⟩ (by decide +kernel) (fun w h Y => PySem.W.kIn_of Y) ?F (fun _ _ a ns hl _ hS => ⟨a, ns, rfl, hS, hl, fun _ => rfl⟩)
  case F =>
    intro w mg fa h K' M KX G hmg
    refine' K08.all_mk M KX G rfl hmg K08.hsem K08.hal ?a_L_flow ?l_L_flow ?c_L_flow ?a_L_pick ?l_L_pick ?c_L_pick ?a_L_alike ?l_L_alike ?c_L_alike ?a_L_kinds ?l_L_kinds ?c_L_kinds ?a_L_right ?l_L_right ?c_L_right ?a_law ?l_law ?c_law ?b_ValueError ?b_all ?b_bool ?b_isinstance ?b_len ?b_list ?b_range ?b_tuple ?ac_BadText ?kc_BadText ?ec_BadText ?tc_BadText ?xc_BadText ?sc_BadText ?nc_BadText ?ic_BadText ?yc_BadText ?lc_BadText ?dc2_BadText ?rc_BadText ?ac_NoName ?kc_NoName ?ec_NoName ?tc_NoName ?xc_NoName ?sc_NoName ?nc_NoName ?ic_NoName ?yc_NoName ?lc_NoName ?dc2_NoName ?rc_NoName ?ac_NoRow ?kc_NoRow ?ec_NoRow ?tc_NoRow ?xc_NoRow ?ac_TooGreat ?kc_TooGreat ?ec_TooGreat ?tc_TooGreat ?xc_TooGreat ?sc_TooGreat ?nc_TooGreat ?ic_TooGreat ?yc_TooGreat ?lc_TooGreat ?dc2_TooGreat ?rc_TooGreat ?ac_Twice ?kc_Twice ?ec_Twice ?tc_Twice ?xc_Twice ?sc_Twice ?nc_Twice ?ic_Twice ?yc_Twice ?lc_Twice ?dc2_Twice ?rc_Twice ?ac_NestError ?td_NestError ?dd_NestError ?sp_oc ?tk_oc ?gb_BadText ?gh_BadText ?hb_BadText ?cb_BadText ?mr_BadText ?vs_BadText ?sn_BadText ?gb_NoName ?gh_NoName ?hb_NoName ?cb_NoName ?mr_NoName ?vs_NoName ?sn_NoName ?gb_Twice ?gh_Twice ?hb_Twice ?cb_Twice ?mr_Twice ?vs_Twice ?sn_Twice ?gb_TooGreat ?gh_TooGreat ?hb_TooGreat ?cb_TooGreat ?mr_TooGreat ?vs_TooGreat ?sn_TooGreat ?gb_NoRow ?gh_NoRow ?hb_NoRow ?cb_NoRow ?mr_NoRow ?vs_NoRow ?sn_NoRow ?sb_BadText_NoName ?sb_BadText_Twice ?sb_BadText_TooGreat ?sb_BadText_NoRow ?sb_NoName_BadText ?sb_NoName_Twice ?sb_NoName_TooGreat ?sb_NoName_NoRow ?sb_Twice_BadText ?sb_Twice_NoName ?sb_Twice_TooGreat ?sb_Twice_NoRow ?sb_TooGreat_BadText ?sb_TooGreat_NoName ?sb_TooGreat_Twice ?sb_TooGreat_NoRow ?sb_NoRow_BadText ?sb_NoRow_NoName ?sb_NoRow_Twice ?sb_NoRow_TooGreat ?ne_BadText_NoName ?ne_BadText_Twice ?ne_BadText_TooGreat ?ne_BadText_NoRow ?ne_NoName_BadText ?ne_NoName_Twice ?ne_NoName_TooGreat ?ne_NoName_NoRow ?ne_Twice_BadText ?ne_Twice_NoName ?ne_Twice_TooGreat ?ne_Twice_NoRow ?ne_TooGreat_BadText ?ne_TooGreat_NoName ?ne_TooGreat_Twice ?ne_TooGreat_NoRow ?ne_NoRow_BadText ?ne_NoRow_NoName ?ne_NoRow_Twice ?ne_NoRow_TooGreat ?nn_BadText ?nn_NoName ?nn_Twice ?nn_TooGreat ?nn_NoRow
    (case a_L_flow => k_is)
    (case l_L_flow => k_is)
    (case c_L_flow => k_is)
    (case a_L_pick => k_is)
    (case l_L_pick => k_is)
    (case c_L_pick => k_is)
    (case a_L_alike => k_is)
    (case l_L_alike => k_is)
    (case c_L_alike => k_is)
    (case a_L_kinds => k_is)
    (case l_L_kinds => k_is)
    (case c_L_kinds => k_is)
    (case a_L_right => k_is)
    (case l_L_right => k_is)
    (case c_L_right => k_is)
    (case a_law => k_is)
    (case l_law => k_is)
    (case c_law => k_is)
    (case b_ValueError => k_is)
    (case b_all => k_is)
    (case b_bool => k_is)
    (case b_isinstance => k_is)
    (case b_len => k_is)
    (case b_list => k_is)
    (case b_range => k_is)
    (case b_tuple => k_is)
    (case ac_BadText => k_is)
    (case kc_BadText => k_is)
    (case ec_BadText => k_is)
    (case tc_BadText => k_is)
    (case xc_BadText => k_is)
    (case sc_BadText => k_is)
    (case nc_BadText => k_is)
    (case ic_BadText => k_is)
    (case yc_BadText => k_is)
    (case lc_BadText => k_is)
    (case dc2_BadText => k_is)
    (case ac_NoName => k_is)
    (case kc_NoName => k_is)
    (case ec_NoName => k_is)
    (case tc_NoName => k_is)
    (case xc_NoName => k_is)
    (case sc_NoName => k_is)
    (case nc_NoName => k_is)
    (case ic_NoName => k_is)
    (case yc_NoName => k_is)
    (case lc_NoName => k_is)
    (case dc2_NoName => k_is)
    (case ac_NoRow => k_is)
    (case kc_NoRow => k_is)
    (case ec_NoRow => k_is)
    (case tc_NoRow => k_is)
    (case xc_NoRow => k_exc)
    (case ac_TooGreat => k_is)
    (case kc_TooGreat => k_is)
    (case ec_TooGreat => k_is)
    (case tc_TooGreat => k_is)
    (case xc_TooGreat => k_is)
    (case sc_TooGreat => k_is)
    (case nc_TooGreat => k_is)
    (case ic_TooGreat => k_is)
    (case yc_TooGreat => k_is)
    (case lc_TooGreat => k_is)
    (case dc2_TooGreat => k_is)
    (case ac_Twice => k_is)
    (case kc_Twice => k_is)
    (case ec_Twice => k_is)
    (case tc_Twice => k_is)
    (case xc_Twice => k_is)
    (case sc_Twice => k_is)
    (case nc_Twice => k_is)
    (case ic_Twice => k_is)
    (case yc_Twice => k_is)
    (case lc_Twice => k_is)
    (case dc2_Twice => k_is)
    (case ac_NestError => k_is)
    (case td_NestError => k_is)
    (case dd_NestError => k_is)
    (case sp_oc => k_is)
    (case tk_oc => k_is)
    (case gb_BadText => k_is)
    (case gh_BadText => k_is)
    (case hb_BadText => k_is)
    (case cb_BadText => k_is)
    (case mr_BadText => k_is)
    (case vs_BadText => k_is)
    (case sn_BadText => k_is)
    (case gb_NoName => k_is)
    (case gh_NoName => k_is)
    (case hb_NoName => k_is)
    (case cb_NoName => k_is)
    (case mr_NoName => k_is)
    (case vs_NoName => k_is)
    (case sn_NoName => k_is)
    (case gb_Twice => k_is)
    (case gh_Twice => k_is)
    (case hb_Twice => k_is)
    (case cb_Twice => k_is)
    (case mr_Twice => k_is)
    (case vs_Twice => k_is)
    (case sn_Twice => k_is)
    (case gb_TooGreat => k_is)
    (case gh_TooGreat => k_is)
    (case hb_TooGreat => k_is)
    (case cb_TooGreat => k_is)
    (case mr_TooGreat => k_is)
    (case vs_TooGreat => k_is)
    (case sn_TooGreat => k_is)
    (case gb_NoRow => k_is)
    (case gh_NoRow => k_is)
    (case hb_NoRow => k_is)
    (case cb_NoRow => k_is)
    (case mr_NoRow => k_is)
    (case vs_NoRow => k_is)
    (case sn_NoRow => k_is)
    (case sb_BadText_NoName => k_is)
    (case sb_BadText_Twice => k_is)
    (case sb_BadText_TooGreat => k_is)
    (case sb_BadText_NoRow => k_is)
    (case sb_NoName_BadText => k_is)
    (case sb_NoName_Twice => k_is)
    (case sb_NoName_TooGreat => k_is)
    (case sb_NoName_NoRow => k_is)
    (case sb_Twice_BadText => k_is)
    (case sb_Twice_NoName => k_is)
    (case sb_Twice_TooGreat => k_is)
    (case sb_Twice_NoRow => k_is)
    (case sb_TooGreat_BadText => k_is)
    (case sb_TooGreat_NoName => k_is)
    (case sb_TooGreat_Twice => k_is)
    (case sb_TooGreat_NoRow => k_is)
    (case sb_NoRow_BadText => k_is)
    (case sb_NoRow_NoName => k_is)
    (case sb_NoRow_Twice => k_is)
    (case sb_NoRow_TooGreat => k_is)
    (case rc_BadText => rfl)
    (case rc_NoName => rfl)
    (case rc_TooGreat => rfl)
    (case rc_Twice => rfl)
    (case ne_BadText_NoName => decide)
    (case ne_BadText_Twice => decide)
    (case ne_BadText_TooGreat => decide)
    (case ne_BadText_NoRow => decide)
    (case ne_NoName_BadText => decide)
    (case ne_NoName_Twice => decide)
    (case ne_NoName_TooGreat => decide)
    (case ne_NoName_NoRow => decide)
    (case ne_Twice_BadText => decide)
    (case ne_Twice_NoName => decide)
    (case ne_Twice_TooGreat => decide)
    (case ne_Twice_NoRow => decide)
    (case ne_TooGreat_BadText => decide)
    (case ne_TooGreat_NoName => decide)
    (case ne_TooGreat_Twice => decide)
    (case ne_TooGreat_NoRow => decide)
    (case ne_NoRow_BadText => decide)
    (case ne_NoRow_NoName => decide)
    (case ne_NoRow_Twice => decide)
    (case ne_NoRow_TooGreat => decide)
    (case nn_BadText => decide)
    (case nn_NoName => decide)
    (case nn_Twice => decide)
    (case nn_TooGreat => decide)
    (case nn_NoRow => decide)

