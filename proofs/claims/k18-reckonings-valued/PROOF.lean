import PyProof.Rows.All
import HandS.ForMost
import HandS.ForExc
import HandS.Wide
import HandS.Rev
import HandS.RevRange
import HandS.Zip
import HandS.Conv
import HandS.IsInst
import HandS.TupAny
import HandS.SortInts
import HandS.TupMul
import KE.GoesMore
import HandS.Iter
import HandS.TryOnly
import HandS.Ends
import PyProof.WalksMore
import KE.SortData
import HandS.Deep
import KE.GoesEnum
import KE.SortKeyHeap
import HandS.SortKw
import HandS.Keys
import KE.DataFind
import HandS.More
import KE.KDictZip
import HandS.RevTup
import HandS.Text
import HandS.FStr
import HandS.StrMore
import HandS.RaiseMore
import HandS.Flt
import HandS.ListItems
import HandS.DictComp
import HandS.Finally
import HandS.ExcInit
import HandS.ExcIs
import HandS.ExcField
import KE.KExcIs
import HandS.Flow
import HandS.CallLocal
import HandS.Star
import HandS.FStrTup
import PyProof.ReprNest
import PyProof.ReprRoads
import PyProof.StrHeap
import PyProof.CallStr
import PyProof.FitsInt
import HandS.Codes
import HandS.Spec
import KE.KDictDisplayH
import KE.KDictPairs
import PySem.Challenge.RW_nestwright_k18_reckonings_valued
set_option Elab.async false
set_option linter.all false
set_option maxRecDepth 100000
set_option maxHeartbeats 4000000
namespace NW
open PySem PySem.Spec PyProof.Rows L2
inductive U where
  | d (x : PyData) | ref (i : Nat) | flow | scr (ns : List Int) | dct (es : List (Key × PyData))
structure Fl where
  cells : List Int
  place : Int
  held : Int
  seed : Int
  many : Int
inductive Ob where
  | lst (xs : List PyData) | dct (es : List (Key × PyData)) | dead
structure Sto where
  fl : Option Fl
  obs : List Ob
structure Exc where
  cls : Str
  fs : List (Str × PyData)
inductive Res (α : Type) where
  | ok (a : α) (s : Sto) | ex (e : Exc) (s : Sto) | no
def Res.bind {α β : Type} (r : Res α) (k : α → Sto → Res β) : Res β := match r with
  | .ok a s => k a s
  | .ex e s => .ex e s
  | .no => .no
abbrev Loc := List (Option U)
abbrev ME := Loc → Sto → Res U
abbrev MB := Loc → Sto → Res Bool
abbrev ML := Loc → Sto → Res (List PyData)
abbrev MA := Loc → Sto → Res (List U)
inductive Out where
  | nx (l : Loc) (s : Sto) | rt (u : U) (s : Sto) | bk (l : Loc) (s : Sto) | ct (l : Loc) (s : Sto) | ex (e : Exc) (l : Loc) (s : Sto) | no
abbrev MS := Loc → Sto → Out
structure Gx where
  K : PySem.W.Frag
  fa : Addr
  fb : Addr
  O0 : Addr → Prop
  cls : Str → Option Addr
  W : Value → Option Addr → L2.St → Hp → Prop
def Own (G : Gx) (β : List Addr) (st : Sto) (p : Addr) : Prop := (st.fl.isSome = true ∧ p = G.fa) ∨ ∃ (i : Nat) (o : Ob), st.obs[i]? = some o ∧ o ≠ Ob.dead ∧ β[i]? = some p
def Ban (G : Gx) (β : List Addr) (st : Sto) (p : Addr) : Prop := G.O0 p ∨ Own G β st p
def SqLB (K : PySem.W.Frag) (B : Addr → Prop) (H : Hp) (a : Addr) (xs : List V) : Prop := H a = some (.lst xs) ∧ ¬ B a
def SqTB (K : PySem.W.Frag) (B : Addr → Prop) (H : Hp) (a : Addr) (xs : List V) : Prop :=
  (Rd H a (.tup xs) ∧ ¬ B a) ∨ ∃ (o : Obj) (its : Array Value) (n : Nat), K.lookup a = some o ∧ o.cls = .type "tuple" ∧ o.data = .seq its n ∧ its.size ≤ sizeLine ∧ Vals xs its.toList
def SqSB (K : PySem.W.Frag) (B : Addr → Prop) (H : Hp) (a : Addr) (xs : List V) : Prop :=
  (Rd H a (.lst xs) ∧ ¬ B a) ∨ ∃ (o : Obj) (its : Array Value) (n : Nat), K.lookup a = some o ∧ o.cls = .type "list" ∧ o.dict = none ∧ o.data = .seq its n ∧ its.size ≤ sizeLine ∧ Vals xs its.toList
theorem SqSB.q {K : PySem.W.Frag} {B : Addr → Prop} {H : Hp} {a : Addr} {xs : List V} (h : SqSB K B H a xs) : SqL K H a xs := h.imp (fun x => x.1) id
theorem SqLB.q {K : PySem.W.Frag} {B : Addr → Prop} {H : Hp} {a : Addr} {xs : List V} (h : SqLB K B H a xs) : SqL K H a xs := .inl (.inl h.1)
theorem SqTB.q {K : PySem.W.Frag} {B : Addr → Prop} {H : Hp} {a : Addr} {xs : List V} (h : SqTB K B H a xs) : SqT K H a xs := h.imp (fun x => x.1) id
mutual
inductive RT (K : PySem.W.Frag) (B : Addr → Prop) (H : Hp) : V → PyData → Prop
  | non : RT K B H .non .none
  | bl (b : Bool) : RT K B H (.bl b) (.bool b)
  | int (i : Int) : RT K B H (.int i) (.int i)
  | str (x : Str) : RT K B H (.str x) (.str x)
  | lst {a : Addr} {xs : List V} {ds : List PyData} : SqLB K B H a xs → RTs K B H xs ds → RT K B H (.ref a) (.list ds)
  | tup {a : Addr} {xs : List V} {ds : List PyData} : SqTB K B H a xs → RTs K B H xs ds → RT K B H (.ref a) (.tuple ds)
inductive RTs (K : PySem.W.Frag) (B : Addr → Prop) (H : Hp) : List V → List PyData → Prop
  | nil : RTs K B H [] []
  | cons {v : V} {vs : List V} {d : PyData} {ds : List PyData} : RT K B H v d → RTs K B H vs ds → RTs K B H (v :: vs) (d :: ds)
end
def Keep (B : Addr → Prop) (H : Hp) (B' : Addr → Prop) (H' : Hp) : Prop := ∀ b o, H b = some o → ¬ B b → H' b = some o ∧ ¬ B' b
theorem Keep.rd {B B' : Addr → Prop} {H H' : Hp} (k : Keep B H B' H') {a : Addr} {u : HO} (h : Rd H a u ∧ ¬ B a) : Rd H' a u ∧ ¬ B' a := by
  obtain ⟨h | ⟨o, h⟩, n⟩ := h
  · have z := k a _ h n; exact ⟨.inl z.1, z.2⟩
  · have z := k a _ h n; exact ⟨.inr ⟨o, z.1⟩, z.2⟩
section
variable {K : PySem.W.Frag} {B B' : Addr → Prop} {H H' : Hp}
mutual
theorem RT.mono (k : Keep B H B' H') : ∀ (d : PyData) (v : V), RT K B H v d → RT K B' H' v d
  | .none, _, h => by cases h; exact .non
  | .bool b, _, h => by cases h; exact .bl b
  | .int i, _, h => by cases h; exact .int i
  | .str x, _, h => by cases h; exact .str x
  | .list ds, _, h => by
    cases h with
    | lst hs ha => exact .lst (k _ _ hs.1 hs.2) (RTs.mono k ds _ ha)
  | .tuple ds, _, h => by
    cases h with
    | tup hs ha => exact .tup (hs.imp (fun z => k.rd z) id) (RTs.mono k ds _ ha)
  | .dict _, _, h => by cases h
theorem RTs.mono (k : Keep B H B' H') : ∀ (ds : List PyData) (vs : List V), RTs K B H vs ds → RTs K B' H' vs ds
  | [], _, h => by cases h; exact .nil
  | d :: ds, _, h => by
    cases h with
    | cons h1 h2 => exact .cons (RT.mono k d _ h1) (RTs.mono k ds _ h2)
end
mutual
theorem RT.dp : ∀ (d : PyData) (v : V), RT K B H v d → Dp K H v d
  | .none, _, h => by cases h; exact .non
  | .bool b, _, h => by cases h; exact .bl b
  | .int i, _, h => by cases h; exact .int i
  | .str x, _, h => by cases h; exact .str x
  | .list ds, _, h => by
    cases h with
    | lst hs ha => exact .lst hs.q (RTs.dp ds _ ha)
  | .tuple ds, _, h => by
    cases h with
    | tup hs ha => exact .tup hs.q (RTs.dp ds _ ha)
  | .dict _, _, h => by cases h
theorem RTs.dp : ∀ (ds : List PyData) (vs : List V), RTs K B H vs ds → DpAll K H vs ds
  | [], _, h => by cases h; exact .nil
  | d :: ds, _, h => by
    cases h with
    | cons h1 h2 => exact .cons (RT.dp d _ h1) (RTs.dp ds _ h2)
end
theorem RTs.len : ∀ {ds : List PyData} {vs : List V}, RTs K B H vs ds → vs.length = ds.length
  | [], _, h => by cases h; rfl
  | d :: ds, _, h => by
    cases h with
    | cons h1 h2 => rw [List.length_cons, List.length_cons, RTs.len h2]
theorem RTs.get : ∀ {ds : List PyData} {vs : List V} {i : Nat} {d : PyData}, RTs K B H vs ds → ds[i]? = some d → ∃ v, vs[i]? = some v ∧ RT K B H v d
  | [], _, _, _, h, e => by simp at e
  | d :: ds, _, 0, _, h, e => by
    cases h with
    | cons h1 h2 => simp at e; subst e; exact ⟨_, rfl, h1⟩
  | d :: ds, _, i + 1, _, h, e => by
    cases h with
    | cons h1 h2 =>
      obtain ⟨v, a, b⟩ := RTs.get (i := i) h2 (by simpa using e)
      exact ⟨v, by simpa using a, b⟩
theorem RTs.append : ∀ {ds es : List PyData} {vs ws : List V}, RTs K B H vs ds → RTs K B H ws es → RTs K B H (vs ++ ws) (ds ++ es)
  | [], _, _, _, h, q => by cases h; exact q
  | d :: ds, _, _, _, h, q => by
    cases h with
    | cons h1 h2 => exact .cons h1 (RTs.append h2 q)
theorem RTs.take : ∀ {ds : List PyData} {vs : List V} (n : Nat), RTs K B H vs ds → RTs K B H (vs.take n) (ds.take n)
  | [], _, n, h => by cases h; simp; exact .nil
  | d :: ds, _, 0, h => by simp; exact .nil
  | d :: ds, _, n + 1, h => by
    cases h with
    | cons h1 h2 => exact .cons h1 (RTs.take n h2)
theorem RTs.drop : ∀ {ds : List PyData} {vs : List V} (n : Nat), RTs K B H vs ds → RTs K B H (vs.drop n) (ds.drop n)
  | [], _, n, h => by cases h; simp; exact .nil
  | d :: ds, _, 0, h => h
  | d :: ds, _, n + 1, h => by
    cases h with
    | cons h1 h2 => exact RTs.drop n h2
theorem RTs.set : ∀ {ds : List PyData} {vs : List V} {v : V} {d : PyData} (n : Nat), RTs K B H vs ds → RT K B H v d → RTs K B H (vs.set n v) (ds.set n d)
  | [], _, _, _, n, h, q => by cases h; exact .nil
  | d :: ds, _, _, _, 0, h, q => by
    cases h with
    | cons h1 h2 => exact .cons q h2
  | d :: ds, _, _, _, n + 1, h, q => by
    cases h with
    | cons h1 h2 => exact .cons h1 (RTs.set n h2 q)
theorem RTs.ints : ∀ {ns : List Int} {vs : List V}, RTs K B H vs (ns.map PyData.int) → vs = ns.map V.int
  | [], _, h => by cases h; rfl
  | n :: ns, _, h => by
    cases h with
    | cons h1 h2 => cases h1; rw [RTs.ints h2]; rfl
theorem RTs.bools : ∀ {ns : List Bool} {vs : List V}, RTs K B H vs (ns.map PyData.bool) → vs = ns.map V.bl
  | [], _, h => by cases h; rfl
  | n :: ns, _, h => by
    cases h with
    | cons h1 h2 => cases h1; rw [RTs.bools h2]; rfl
theorem RTs.ofInts : ∀ (ns : List Int), RTs K B H (ns.map V.int) (ns.map PyData.int)
  | [] => .nil
  | n :: ns => .cons (.int n) (RTs.ofInts ns)
mutual
theorem RT.weak (k : ∀ a, B' a → B a) : ∀ (d : PyData) (v : V), RT K B H v d → RT K B' H v d
  | .none, _, h => by cases h; exact .non
  | .bool b, _, h => by cases h; exact .bl b
  | .int i, _, h => by cases h; exact .int i
  | .str x, _, h => by cases h; exact .str x
  | .list ds, _, h => by
    cases h with
    | lst hs ha => exact .lst ⟨hs.1, fun w => hs.2 (k _ w)⟩ (RTs.weak k ds _ ha)
  | .tuple ds, _, h => by
    cases h with
    | tup hs ha => exact .tup (hs.imp (fun z => ⟨z.1, fun w => z.2 (k _ w)⟩) id) (RTs.weak k ds _ ha)
  | .dict _, _, h => by cases h
theorem RTs.weak (k : ∀ a, B' a → B a) : ∀ (ds : List PyData) (vs : List V), RTs K B H vs ds → RTs K B' H vs ds
  | [], _, h => by cases h; exact .nil
  | d :: ds, _, h => by
    cases h with
    | cons h1 h2 => exact .cons (RT.weak k d _ h1) (RTs.weak k ds _ h2)
end
end
def RU (G : Gx) (β : List Addr) (B : Addr → Prop) (H : Hp) (v : V) : U → Prop
  | .d x => RT G.K B H v x
  | .ref i => ∃ p, β[i]? = some p ∧ v = .ref p
  | .flow => v = .ref G.fa
  | .scr ns => ∃ a, v = .ref a ∧ SqSB G.K B H a (ns.map V.int)
  | .dct es => ∃ (a : Addr) (o : Obj) (kvs : List (Key × V)), v = .ref a ∧ (H a = some (.frz o (.dK kvs)) ∧ ¬ B a) ∧ kvs.map (·.1) = es.map (fun e => e.1) ∧ RTs G.K B H (kvs.map (·.2)) (es.map (·.2))
def flV (fb : Addr) (f : Fl) : List V := [.ref fb, .int f.place, .int f.held, .int f.seed, .int f.many]
structure FlR (G : Gx) (B : Addr → Prop) (H : Hp) (f : Fl) : Prop where
  here : H G.fa = some (.lst (flV G.fb f))
  cl : SqLB G.K B H G.fb (f.cells.map V.int)
def ObR (K : PySem.W.Frag) (B : Addr → Prop) (H : Hp) : Ob → HO → Prop
  | .lst xs, h => ∃ vs, h = .lst vs ∧ RTs K B H vs xs
  | .dct es, h => ∃ kvs : List (Key × V), h = .dK kvs ∧ kvs.map (·.1) = es.map (fun e => e.1) ∧ RTs K B H (kvs.map (·.2)) (es.map (·.2))
  | .dead, _ => False
theorem ObR.imp {K : PySem.W.Frag} {B B' : Addr → Prop} {H H' : Hp} (k : ∀ (ds : List PyData) (vs : List V), RTs K B H vs ds → RTs K B' H' vs ds) {o : Ob} {h : HO} (r : ObR K B H o h) : ObR K B' H' o h := by
  cases o with
  | lst xs => obtain ⟨vs, e, q⟩ := r; exact ⟨vs, e, k _ _ q⟩
  | dct es => obtain ⟨kvs, e, e2, q⟩ := r; exact ⟨kvs, e, e2, k _ _ q⟩
  | dead => exact r
theorem ObR.noTup {K : PySem.W.Frag} {B : Addr → Prop} {H : Hp} {o : Ob} {h : HO} (r : ObR K B H o h) (vs : List V) : h ≠ .tup vs := by
  cases o with
  | lst xs => obtain ⟨ws, e, q⟩ := r; rw [e]; intro z; cases z
  | dct es => obtain ⟨kvs, e, e2, q⟩ := r; rw [e]; intro z; cases z
  | dead => exact r.elim
theorem ObR.noFrz {K : PySem.W.Frag} {B : Addr → Prop} {H : Hp} {o : Ob} {h : HO} (r : ObR K B H o h) (x y) : h ≠ .frz x y := by
  cases o with
  | lst xs => obtain ⟨ws, e, q⟩ := r; rw [e]; intro z; cases z
  | dct es => obtain ⟨kvs, e, e2, q⟩ := r; rw [e]; intro z; cases z
  | dead => exact r.elim
structure Rl (G : Gx) (β : List Addr) (H : Hp) (st : Sto) : Prop where
  len : β.length = st.obs.length
  nodup : β.Nodup
  trk : ∀ p ∈ β, H p ≠ none
  oo : ∀ (i : Nat) (o : Ob), st.obs[i]? = some o → o ≠ Ob.dead → ∃ p h, β[i]? = some p ∧ H p = some h ∧ ObR G.K (Ban G β st) H o h
  flo : ∀ f, st.fl = some f → FlR G (Ban G β st) H f ∧ G.fa ∉ β
  o0 : ∀ p, G.O0 p → H p ≠ none ∧ ¬ Own G β st p ∧ ∀ vs, ¬ Rd H p (.tup vs)
theorem Rl.ob {G : Gx} {β : List Addr} {H : Hp} {st : Sto} (rl : Rl G β H st) (i : Nat) (xs : List PyData) (e : st.obs[i]? = some (Ob.lst xs)) : ∃ p vs, β[i]? = some p ∧ H p = some (.lst vs) ∧ RTs G.K (Ban G β st) H vs xs := by
  obtain ⟨p, h, a, b, vs, rfl, c⟩ := rl.oo i _ e (by intro z; cases z)
  exact ⟨p, vs, a, b, c⟩
theorem Rl.od {G : Gx} {β : List Addr} {H : Hp} {st : Sto} (rl : Rl G β H st) (i : Nat) (es : List (Key × PyData)) (e : st.obs[i]? = some (Ob.dct es)) : ∃ (p : Addr) (kvs : List (Key × V)), β[i]? = some p ∧ H p = some (.dK kvs) ∧ kvs.map (·.1) = es.map (fun e => e.1) ∧ RTs G.K (Ban G β st) H (kvs.map (·.2)) (es.map (·.2)) := by
  obtain ⟨p, h, a, b, kvs, rfl, c, d⟩ := rl.oo i _ e (by intro z; cases z)
  exact ⟨p, kvs, a, b, c, d⟩
structure Fut (G : Gx) (β : List Addr) (st : Sto) (H : Hp) (β' : List Addr) (st' : Sto) (H' : Hp) : Prop where
  ext : ∃ γ, β' = β ++ γ ∧ ∀ p ∈ γ, H p = none
  there : ∀ b, H b ≠ none → H' b ≠ none
  stay : ∀ b o, H b = some o → ¬ Own G β st b → H' b = some o ∧ ¬ Own G β' st' b
section
variable {G : Gx} {β β' β'' : List Addr} {st st' st'' : Sto} {H H' H'' : Hp} {v : V} {u : U}
theorem Fut.refl : Fut G β st H β st H := ⟨⟨[], by simp, by simp⟩, fun _ h => h, fun _ _ h n => ⟨h, n⟩⟩
theorem Fut.trans (a : Fut G β st H β' st' H') (b : Fut G β' st' H' β'' st'' H'') : Fut G β st H β'' st'' H'' := by
  refine ⟨?_, fun p h => b.there p (a.there p h), fun p o h n => b.stay p o (a.stay p o h n).1 (a.stay p o h n).2⟩
  obtain ⟨γ, rfl, h1⟩ := a.ext
  obtain ⟨δ, rfl, h2⟩ := b.ext
  refine ⟨γ ++ δ, by rw [List.append_assoc], fun p hp => ?_⟩
  rcases List.mem_append.mp hp with hp | hp
  · exact h1 p hp
  · cases e : H p with
    | none => rfl
    | some o => exact absurd (h2 p hp) (a.there p (by rw [e]; simp))
theorem Fut.keep (a : Fut G β st H β' st' H') : Keep (Ban G β st) H (Ban G β' st') H' := fun b o h n => by
  have z := a.stay b o h (fun w => n (.inr w))
  exact ⟨z.1, fun w => w.elim (fun w => n (.inl w)) z.2⟩
theorem Fut.rt (a : Fut G β st H β' st' H') {d : PyData} (h : RT G.K (Ban G β st) H v d) : RT G.K (Ban G β' st') H' v d := RT.mono a.keep d v h
theorem Fut.rts (a : Fut G β st H β' st' H') {ds : List PyData} {vs : List V} (h : RTs G.K (Ban G β st) H vs ds) : RTs G.K (Ban G β' st') H' vs ds := RTs.mono a.keep ds vs h
theorem Fut.obr (a : Fut G β st H β' st' H') {o : Ob} {h : HO} (r : ObR G.K (Ban G β st) H o h) : ObR G.K (Ban G β' st') H' o h := r.imp fun ds vs q => a.rts q
theorem Fut.get (a : Fut G β st H β' st' H') {i : Nat} {p : Addr} (h : β[i]? = some p) : β'[i]? = some p := by
  obtain ⟨γ, rfl, _⟩ := a.ext
  rw [List.getElem?_append_left (List.getElem?_eq_some_iff.mp h).1]; exact h
theorem Fut.ru (a : Fut G β st H β' st' H') (h : RU G β (Ban G β st) H v u) : RU G β' (Ban G β' st') H' v u := by
  cases u with
  | d x => exact a.rt h
  | ref i => obtain ⟨p, h1, h2⟩ := h; exact ⟨p, a.get h1, h2⟩
  | flow => exact h
  | scr ns =>
    obtain ⟨p, h1, h2⟩ := h
    exact ⟨p, h1, h2.imp (fun z => a.keep.rd z) id⟩
  | dct es =>
    obtain ⟨p, o, kvs, h1, h2, h3, h4⟩ := h
    exact ⟨p, o, kvs, h1, a.keep _ _ h2.1 h2.2, h3, a.rts h4⟩
end
structure RLoc (G : Gx) (β : List Addr) (B : Addr → Prop) (H : Hp) (σ : L2.St) (l : Loc) : Prop where
  len : σ.length = l.length
  at_ : ∀ (i : Nat) (u : U), l[i]? = some (some u) → ∃ v, σ[i]? = some (some v) ∧ RU G β B H v u
def ExR (G : Gx) (B : Addr → Prop) (H : Hp) (e : Exc) (cv : Value) (dx : Option Addr) : Prop :=
  ∃ C, G.cls e.cls = some C ∧ cv = .ref C ∧ (match e.fs with
    | [] => dx = none
    | fs => ∃ d vs, dx = some d ∧ H d = some (.xd vs) ∧ ¬ B d ∧ vs.map (·.1) = fs.map (·.1) ∧ RTs G.K B H (vs.map (·.2)) (fs.map (·.2)))
section
variable {G : Gx} {β β' : List Addr} {st st' : Sto} {H H' : Hp} {σ : L2.St} {l : Loc}
theorem Fut.rloc (a : Fut G β st H β' st' H') (h : RLoc G β (Ban G β st) H σ l) : RLoc G β' (Ban G β' st') H' σ l := ⟨h.len, fun i u e => by
  obtain ⟨v, h1, h2⟩ := h.at_ i u e
  exact ⟨v, h1, a.ru h2⟩⟩
end
structure Re (G : Gx) (β : List Addr) (H : Hp) (σ : L2.St) (l : Loc) (st : Sto) : Prop where
  rl : Rl G β H st
  lo : RLoc G β (Ban G β st) H σ l
theorem Fut.re {G : Gx} {β β' : List Addr} {st st' : Sto} {H H' : Hp} {σ : L2.St} {l : Loc} (a : Fut G β st H β' st' H') (r : Rl G β' H' st') (h : Re G β H σ l st) : Re G β' H' σ l st' := ⟨r, a.rloc h.lo⟩
def wpR {α γ : Type} (G : Gx) (β : List Addr) (H : Hp) (σ : L2.St) (st : Sto) (P : List Addr → Sto → Hp → γ → α → Prop) (r : Res α) (Q : γ → Hp → Prop) : Prop := match r with
  | .ok a st' => ∀ v H' β', Fut G β st H β' st' H' → Rl G β' H' st' → P β' st' H' v a → Q v H'
  | .ex e st' => ∀ cv dx H' β', Fut G β st H β' st' H' → Rl G β' H' st' → ExR G (Ban G β' st') H' e cv dx → G.W cv dx σ H'
  | .no => False
def PU (G : Gx) : List Addr → Sto → Hp → V → U → Prop := fun β st H v u => RU G β (Ban G β st) H v u
def PUs (G : Gx) : List Addr → Sto → Hp → List V → List U → Prop := fun β st H vs us => Paired (fun v u => RU G β (Ban G β st) H v u) vs us
def PB : List Addr → Sto → Hp → Bool → Bool → Prop := fun _ _ _ a b => a = b
def SimE (G : Gx) (t : TE) (m : ME) : Prop := ∀ β H σ l st, Re G β H σ l st → ∀ Q, wpR G β H σ st (PU G) (m l st) Q → t σ H Q
def SimA (G : Gx) (t : TA) (m : MA) : Prop := ∀ β H σ l st, Re G β H σ l st → ∀ Q, wpR G β H σ st (PUs G) (m l st) Q → t σ H Q
def SimT (G : Gx) (t : TT) (m : MB) : Prop := ∀ β H σ l st, Re G β H σ l st → ∀ Q, wpR G β H σ st PB (m l st) Q → t σ H Q
section
variable {G : Gx}
theorem wpR_bind {α δ γ ε : Type} {β : List Addr} {H : Hp} {σ : L2.St} {st : Sto} {P : List Addr → Sto → Hp → γ → α → Prop} {P' : List Addr → Sto → Hp → ε → δ → Prop} {r : Res α} {k : α → Sto → Res δ} {Q : ε → Hp → Prop}
    (h : wpR G β H σ st P' (r.bind k) Q) {R : γ → Hp → Prop} (hk : ∀ v a H' β' st', Fut G β st H β' st' H' → Rl G β' H' st' → P β' st' H' v a → wpR G β' H' σ st' P' (k a st') Q → R v H') : wpR G β H σ st P r R := by
  cases r with
  | ok a st' =>
    intro v H' β' f rl p
    refine hk v a H' β' st' f rl p ?_
    have h' : wpR G β H σ st P' (k a st') Q := h
    cases e : k a st' with
    | ok b st'' => rw [e] at h'; exact fun v' H'' β'' f' rl' p' => h' v' H'' β'' (f.trans f') rl' p'
    | ex x st'' => rw [e] at h'; exact fun cv dx H'' β'' f' rl' p' => h' cv dx H'' β'' (f.trans f') rl' p'
    | no => rw [e] at h'; exact h'
  | ex e st' => exact h
  | no => exact h
theorem wpR_ok {α γ : Type} {β : List Addr} {H : Hp} {σ : L2.St} {st : Sto} {P : List Addr → Sto → Hp → γ → α → Prop} {a : α} {Q : γ → Hp → Prop} {v : γ} (rl : Rl G β H st) (p : P β st H v a) (h : wpR G β H σ st P (.ok a st) Q) : Q v H :=
  h v H β Fut.refl rl p
theorem wpR_d {β : List Addr} {H : Hp} {σ : L2.St} {st : Sto} {v : V} {x : PyData} {Q : VK} (rl : Rl G β H st) (p : RT G.K (Ban G β st) H v x) (h : wpR G β H σ st (PU G) (.ok (.d x) st) Q) : Q v H := h v H β Fut.refl rl p
theorem wpR_u {β : List Addr} {H : Hp} {σ : L2.St} {st : Sto} {v : V} {u : U} {Q : VK} (rl : Rl G β H st) (p : RU G β (Ban G β st) H v u) (h : wpR G β H σ st (PU G) (.ok u st) Q) : Q v H := h v H β Fut.refl rl p
def eVar (i : Nat) : ME := fun l st => match l[i]? with
  | some (some u) => .ok u st
  | _ => .no
theorem s_var (i : Nat) : SimE G (tVar i) (eVar i) := fun β H σ l st re Q h => by
  unfold eVar at h
  split at h
  · rename_i u e
    obtain ⟨v, h1, h2⟩ := re.lo.at_ i u e
    exact ⟨v, h1, wpR_ok re.rl h2 h⟩
  · exact h.elim
def eC (x : PyData) : ME := fun _ st => .ok (.d x) st
theorem s_c {v : V} {x : PyData} (hx : ∀ B H, RT G.K B H v x) : SimE G (tC v) (eC x) := fun β H σ l st re Q h => wpR_d re.rl (hx _ _) h
theorem s_int (i : Int) : SimE G (tC (.int i)) (eC (.int i)) := s_c fun _ _ => .int i
theorem s_bl (b : Bool) : SimE G (tC (.bl b)) (eC (.bool b)) := s_c fun _ _ => .bl b
theorem s_str (z : Str) : SimE G (tC (.str z)) (eC (.str z)) := s_c fun _ _ => .str z
def SimR (G : Gx) (r : R2) (f : U → U → Sto → Res U) : Prop := ∀ β H σ l st, Re G β H σ l st → ∀ x y a b Q, RU G β (Ban G β st) H x a → RU G β (Ban G β st) H y b → wpR G β H σ st (PU G) (f a b st) Q → r x y H Q
def eOp (f : U → U → Sto → Res U) (a b : ME) : ME := fun l st => (a l st).bind fun x st => (b l st).bind fun y st => f x y st
theorem s_op {r : R2} {f : U → U → Sto → Res U} {ta tb : TE} {a b : ME} (hr : SimR G r f) (ha : SimE G ta a) (hb : SimE G tb b) : SimE G (tOp r ta tb) (eOp f a b) := fun β H σ l st re Q h => by
  refine ha β H σ l st re _ (wpR_bind h fun v x H1 β1 st1 f1 rl1 p1 h1 => ?_)
  have re1 := f1.re rl1 re
  refine hb β1 H1 σ l st1 re1 _ (wpR_bind h1 fun w y H2 β2 st2 f2 rl2 p2 h2 => ?_)
  exact hr β2 H2 σ l st2 (f2.re rl2 re1) v w x y Q (f2.ru p1) p2 h2
def oI (C : Int → Int → Bool) (g : Int → Int → PyData) : U → U → Sto → Res U := fun a b st => match a, b with
  | .d (.int i), .d (.int j) => if C i j then .ok (.d (g i j)) st else .no
  | _, _ => .no
def oI0 (g : Int → Int → PyData) : U → U → Sto → Res U := fun a b st => match a, b with
  | .d (.int i), .d (.int j) => .ok (.d (g i j)) st
  | _, _ => .no
theorem ru_int {β : List Addr} {B : Addr → Prop} {H : Hp} {v : V} {i : Int} (h : RU G β B H v (.d (.int i))) : v = .int i := by cases h; rfl
theorem ru_bool {β : List Addr} {B : Addr → Prop} {H : Hp} {v : V} {i : Bool} (h : RU G β B H v (.d (.bool i))) : v = .bl i := by cases h; rfl
theorem ru_str {β : List Addr} {B : Addr → Prop} {H : Hp} {v : V} {i : Str} (h : RU G β B H v (.d (.str i))) : v = .str i := by cases h; rfl
theorem r_I {C : Int → Int → Prop} {c : Int → Int → Bool} {g : Int → Int → V} {g' : Int → Int → PyData} (hc : ∀ i j, c i j = true → C i j) (hg : ∀ i j B H, RT G.K B H (g i j) (g' i j)) : SimR G (rI C g) (oI c g') := fun β H σ l st re x y a b Q hx hy h => by
  unfold oI at h
  split at h
  · rename_i i j
    cases ru_int hx; cases ru_int hy
    split at h
    · rename_i q
      exact ⟨i, j, rfl, rfl, hc i j q, wpR_d re.rl (hg i j _ _) h⟩
    · exact h.elim
  · exact h.elim
theorem r_I0 {g : Int → Int → V} {g' : Int → Int → PyData} (hg : ∀ i j B H, RT G.K B H (g i j) (g' i j)) : SimR G (rI0 g) (oI0 g') := fun β H σ l st re x y a b Q hx hy h => by
  unfold oI0 at h
  split at h
  · rename_i i j
    cases ru_int hx; cases ru_int hy
    exact ⟨i, j, rfl, rfl, wpR_d re.rl (hg i j _ _) h⟩
  · exact h.elim
end
end NW
namespace NW
open PySem PySem.Spec PyProof.Rows L2
section
variable {G : Gx} {β β' : List Addr} {st st' : Sto} {H H' : Hp} {v : V} {u : U} {σ : L2.St} {l : Loc}
theorem Rl.notBan (rl : Rl G β H st) {p : Addr} (hp : H p = none) : ¬ Ban G β st p := by
  rintro (h | ⟨hf, rfl⟩ | ⟨i, xs, h1, nd, h2⟩)
  · exact (rl.o0 p h).1 hp
  · obtain ⟨f, hf⟩ := Option.isSome_iff_exists.mp hf
    obtain ⟨⟨a, _⟩, _⟩ := rl.flo f hf
    rw [hp] at a; cases a
  · obtain ⟨q, vs, a, b, _⟩ := rl.oo i xs h1 nd
    rw [h2] at a; cases a; rw [hp] at b; cases b
theorem Fut.new {p : Addr} {o : HO} (hp : H p = none) : Fut G β st H β st (upd H p o) :=
  ⟨⟨[], by simp, by simp⟩, fun b h => by
    by_cases e : b = p
    · subst e; rw [upd_same]; simp
    · rw [upd_ne e]; exact h, fun b o' h n => ⟨by rw [upd_ne (ne_of_none h hp)]; exact h, n⟩⟩
theorem SqLB.fut (a : Fut G β st H β' st' H') {K : PySem.W.Frag} {p : Addr} {xs : List V} (h : SqLB K (Ban G β st) H p xs) : SqLB K (Ban G β' st') H' p xs := a.keep p _ h.1 h.2
theorem Rl.o0_fut (rl : Rl G β H st) (f : Fut G β st H β' st' H') (q : Addr) (hq : G.O0 q) (n : ¬ Own G β' st' q) : H' q ≠ none ∧ ¬ Own G β' st' q ∧ ∀ vs, ¬ Rd H' q (.tup vs) := by
  obtain ⟨a, b, c⟩ := rl.o0 q hq
  refine ⟨f.there q a, n, fun vs h => ?_⟩
  cases e : H q with
  | none => exact a e
  | some o =>
    have z := (f.stay q o e b).1
    refine c vs ?_
    unfold Rd at h ⊢
    rw [z] at h; rw [e]; exact h
theorem Rl.banNoTup (rl : Rl G β H st) {p : Addr} (h : Ban G β st p) (vs : List V) : ¬ Rd H p (.tup vs) := by
  rcases h with h | ⟨hf, rfl⟩ | ⟨i, xs, h1, nd, h2⟩
  · exact (rl.o0 p h).2.2 vs
  · obtain ⟨f, hf⟩ := Option.isSome_iff_exists.mp hf
    obtain ⟨⟨a, _⟩, _⟩ := rl.flo f hf
    rintro (z | ⟨o, z⟩) <;> (rw [a] at z; cases z)
  · obtain ⟨q, ws, a, b, c⟩ := rl.oo i xs h1 nd
    rw [h2] at a; cases a
    rintro (z | ⟨o, z⟩)
    · rw [b] at z; exact c.noTup _ (Option.some.inj z)
    · rw [b] at z; exact c.noFrz _ _ (Option.some.inj z)
theorem Rl.new (rl : Rl G β H st) {p : Addr} {o : HO} (hp : H p = none) : Rl G β (upd H p o) st := by
  have f : Fut G β st H β st (upd H p o) := Fut.new hp
  refine ⟨rl.len, rl.nodup, fun q hq => f.there q (rl.trk q hq), fun i xs h nd => ?_, fun g hg => ?_, fun q hq => rl.o0_fut f q hq (rl.o0 q hq).2.1⟩
  · obtain ⟨q, vs, a, b, c⟩ := rl.oo i xs h nd
    exact ⟨q, vs, a, by rw [upd_ne (ne_of_none b hp)]; exact b, f.obr c⟩
  · obtain ⟨⟨a, b⟩, c⟩ := rl.flo g hg
    exact ⟨⟨by rw [upd_ne (ne_of_none a hp)]; exact a, b.fut f⟩, c⟩
def Sto.addO (st : Sto) (o : Ob) : Sto := { st with obs := st.obs ++ [o] }
def Sto.add (st : Sto) (xs : List PyData) : Sto := { st with obs := st.obs ++ [.lst xs] }
theorem Own.addO {p q : Addr} {o : Ob} (ho : o ≠ .dead) (hl : β.length = st.obs.length) : Own G (β ++ [p]) (st.addO o) q ↔ Own G β st q ∨ q = p := by
  unfold Own Sto.addO
  constructor
  · rintro (h | ⟨i, ys, h1, nd, h2⟩)
    · exact .inl (.inl h)
    · by_cases hi : i < st.obs.length
      · rw [List.getElem?_append_left hi] at h1
        rw [List.getElem?_append_left (by omega)] at h2
        exact .inl (.inr ⟨i, ys, h1, nd, h2⟩)
      · have e : i = st.obs.length := by
          have := (List.getElem?_eq_some_iff.mp h1).1
          simp at this; omega
        subst e
        rw [← hl, List.getElem?_append_right (Nat.le_refl _)] at h2
        simp at h2; exact .inr h2.symm
  · rintro ((h | ⟨i, ys, h1, nd, h2⟩) | h)
    · exact .inl h
    · exact .inr ⟨i, ys, by rw [List.getElem?_append_left (List.getElem?_eq_some_iff.mp h1).1]; exact h1, nd, by rw [List.getElem?_append_left (List.getElem?_eq_some_iff.mp h2).1]; exact h2⟩
    · subst h
      exact .inr ⟨st.obs.length, o, by simp, ho, by rw [← hl]; simp⟩
theorem Own.add {p q : Addr} {xs : List PyData} (hl : β.length = st.obs.length) : Own G (β ++ [p]) (st.add xs) q ↔ Own G β st q ∨ q = p := Own.addO (o := .lst xs) (by intro z; cases z) hl
theorem add_ownO (rl : Rl G β H st) {p : Addr} {h0 : HO} {o : Ob} (ho : o ≠ .dead) (hp : H p = none) (r : ObR G.K (Ban G β st) H o h0) :
    Fut G β st H (β ++ [p]) (st.addO o) (upd H p h0) ∧ Rl G (β ++ [p]) (upd H p h0) (st.addO o) := by
  have fO : Fut G β st H (β ++ [p]) (st.addO o) (upd H p h0) := by
    refine ⟨⟨[p], rfl, by simp [hp]⟩, (Fut.new (G := G) (β := β) (st := st) (o := h0) hp).there, fun b o' h n => ⟨by rw [upd_ne (ne_of_none h hp)]; exact h, fun w => ?_⟩⟩
    rcases (Own.addO ho rl.len).mp w with w | w
    · exact n w
    · subst w; rw [hp] at h; cases h
  refine ⟨fO, by simp [Sto.addO, rl.len], ?_, fun q hq => ?_, fun i ys h nd => ?_, fun g hg => ?_, fun q hq => rl.o0_fut fO q hq fun w => ?_⟩
  · rw [List.nodup_append]
    refine ⟨rl.nodup, by simp, fun a ha b hb e => ?_⟩
    have hb' : b = p := by simpa using hb
    subst e hb'
    exact rl.trk _ ha hp
  · rcases List.mem_append.mp hq with w | w
    · exact fO.there q (rl.trk q w)
    · have w' : q = p := by simpa using w
      rw [w', upd_same]; simp
  · unfold Sto.addO at h
    by_cases hi : i < st.obs.length
    · rw [List.getElem?_append_left hi] at h
      obtain ⟨q, ws, a, b, c⟩ := rl.oo i ys h nd
      exact ⟨q, ws, by rw [List.getElem?_append_left (List.getElem?_eq_some_iff.mp a).1]; exact a, by rw [upd_ne (ne_of_none b hp)]; exact b, fO.obr c⟩
    · have e : i = st.obs.length := by
        have := (List.getElem?_eq_some_iff.mp h).1
        simp at this; omega
      subst e
      simp at h; subst h
      exact ⟨p, h0, by rw [← rl.len]; simp, upd_same, fO.obr r⟩
  · obtain ⟨⟨a, b⟩, c⟩ := rl.flo g hg
    refine ⟨⟨by rw [upd_ne (ne_of_none a hp)]; exact a, b.fut fO⟩, fun w => ?_⟩
    rcases List.mem_append.mp w with w | w
    · exact c w
    · have w' : G.fa = p := by simpa using w
      rw [w', hp] at a; cases a
  · rcases (Own.addO ho rl.len).mp w with w | w
    · exact (rl.o0 q hq).2.1 w
    · subst w; exact (rl.o0 _ hq).1 hp
theorem add_own (rl : Rl G β H st) {p : Addr} {vs : List V} {xs : List PyData} (hp : H p = none) (r : RTs G.K (Ban G β st) H vs xs) :
    Fut G β st H (β ++ [p]) (st.add xs) (upd H p (.lst vs)) ∧ Rl G (β ++ [p]) (upd H p (.lst vs)) (st.add xs) := add_ownO rl (o := .lst xs) (by intro z; cases z) hp ⟨vs, rfl, r⟩
theorem ix_inj {β : List Addr} (n : β.Nodup) {i j : Nat} {p : Addr} (h : β[i]? = some p) (h' : β[j]? = some p) : i = j := by
  obtain ⟨h1, e1⟩ := List.getElem?_eq_some_iff.mp h
  obtain ⟨h2, e2⟩ := List.getElem?_eq_some_iff.mp h'
  exact (List.getElem_inj n).mp (e1.trans e2.symm)
def Sto.putO (st : Sto) (i : Nat) (o : Ob) : Sto := { st with obs := st.obs.set i o }
def Sto.put (st : Sto) (i : Nat) (xs : List PyData) : Sto := { st with obs := st.obs.set i (.lst xs) }
theorem Own.putO {i : Nat} {o o' : Ob} {q : Addr} (h : st.obs[i]? = some o) (n : o ≠ .dead) (n' : o' ≠ .dead) : Own G β (st.putO i o') q ↔ Own G β st q := by
  unfold Own Sto.putO
  have hi := (List.getElem?_eq_some_iff.mp h).1
  constructor
  · rintro (h' | ⟨j, zs, h1, nd, h2⟩)
    · exact .inl h'
    · by_cases e : j = i
      · subst e; exact .inr ⟨j, o, h, n, h2⟩
      · exact .inr ⟨j, zs, by simpa [List.getElem?_set_ne (Ne.symm e)] using h1, nd, h2⟩
  · rintro (h' | ⟨j, zs, h1, nd, h2⟩)
    · exact .inl h'
    · by_cases e : j = i
      · subst e; exact .inr ⟨j, o', by simp [hi], n', h2⟩
      · exact .inr ⟨j, zs, by simpa [List.getElem?_set_ne (Ne.symm e)] using h1, nd, h2⟩
theorem Own.put {i : Nat} {xs ys : List PyData} {q : Addr} (h : st.obs[i]? = some (.lst xs)) : Own G β (st.put i ys) q ↔ Own G β st q := Own.putO (o' := .lst ys) h (by intro z; cases z) (by intro z; cases z)
theorem put_ownO (rl : Rl G β H st) {i : Nat} {p : Addr} {o o' : Ob} {h0 : HO} (h : st.obs[i]? = some o) (n : o ≠ .dead) (n' : o' ≠ .dead) (hp : β[i]? = some p) (r : ObR G.K (Ban G β st) H o' h0) :
    Fut G β st H β (st.putO i o') (upd H p h0) ∧ Rl G β (upd H p h0) (st.putO i o') := by
  have op : Own G β st p := .inr ⟨i, o, h, n, hp⟩
  have hi := (List.getElem?_eq_some_iff.mp h).1
  have fO : Fut G β st H β (st.putO i o') (upd H p h0) := by
    refine ⟨⟨[], by simp, by simp⟩, fun b hb => ?_, fun b o' h' n1 => ?_⟩
    · by_cases e : b = p
      · rw [e, upd_same]; simp
      · rw [upd_ne e]; exact hb
    · have e : b ≠ p := fun e => n1 (e ▸ op)
      exact ⟨by rw [upd_ne e]; exact h', fun w => n1 ((Own.putO h n n').mp w)⟩
  refine ⟨fO, by simp [Sto.putO, rl.len], rl.nodup, fun q hq => fO.there q (rl.trk q hq), fun j zs h' nd => ?_, fun g hg => ?_, fun q hq => rl.o0_fut fO q hq fun w => (rl.o0 q hq).2.1 ((Own.putO h n n').mp w)⟩
  · by_cases e : j = i
    · subst e
      simp [Sto.putO, hi] at h'; subst h'
      exact ⟨p, h0, hp, upd_same, fO.obr r⟩
    · obtain ⟨q, ws, a, b, c⟩ := rl.oo j zs (by simpa [Sto.putO, List.getElem?_set_ne (Ne.symm e)] using h') nd
      have ne : q ≠ p := fun z => e (ix_inj rl.nodup a (z ▸ hp))
      exact ⟨q, ws, a, by rw [upd_ne ne]; exact b, fO.obr c⟩
  · obtain ⟨⟨a, b⟩, c⟩ := rl.flo g hg
    have ne : G.fa ≠ p := fun z => c (z ▸ List.mem_of_getElem? hp)
    exact ⟨⟨by rw [upd_ne ne]; exact a, b.fut fO⟩, c⟩
theorem put_own (rl : Rl G β H st) {i : Nat} {p : Addr} {xs ys : List PyData} {vs : List V} (h : st.obs[i]? = some (.lst xs)) (hp : β[i]? = some p) (r : RTs G.K (Ban G β st) H vs ys) :
    Fut G β st H β (st.put i ys) (upd H p (.lst vs)) ∧ Rl G β (upd H p (.lst vs)) (st.put i ys) := put_ownO rl (o' := .lst ys) h (by intro z; cases z) (by intro z; cases z) hp ⟨vs, rfl, r⟩
theorem own_fl {f f' : Fl} (h : st.fl = some f) (p : Addr) : Own G β { st with fl := some f' } p ↔ Own G β st p := by
  unfold Own
  rw [h]
  exact Iff.rfl
theorem flow_end (rl : Rl G β H st) {f f' : Fl} (hf : st.fl = some f) (k : ∀ b o, H b = some o → b ≠ G.fa → H' b = some o) (h1 : H' G.fa = some (.lst (flV G.fb f'))) (hc : f'.cells = f.cells) :
    Fut G β st H β { st with fl := some f' } H' ∧ Rl G β H' { st with fl := some f' } := by
  obtain ⟨⟨a, b⟩, c⟩ := rl.flo f hf
  have ofa : Own G β st G.fa := .inl ⟨by rw [hf]; rfl, rfl⟩
  have hne : G.fb ≠ G.fa := fun e => b.2 (.inr (e ▸ ofa))
  have fu : Fut G β st H β { st with fl := some f' } H' := by
    refine ⟨⟨[], by simp, by simp⟩, fun b hb => ?_, fun b o h n => ⟨k b o h fun e => n (e ▸ ofa), fun w => n ((own_fl hf b).mp w)⟩⟩
    by_cases e : b = G.fa
    · rw [e, h1]; simp
    · cases e2 : H b with
      | none => exact absurd e2 hb
      | some o => rw [k b o e2 e]; simp
  refine ⟨fu, rl.len, rl.nodup, fun q hq => fu.there q (rl.trk q hq), fun i xs h nd => ?_, fun g hg => ?_, fun q hq => rl.o0_fut fu q hq fun w => (rl.o0 q hq).2.1 ((own_fl hf q).mp w)⟩
  · obtain ⟨q, vs, a', b', c'⟩ := rl.oo i xs h nd
    exact ⟨q, vs, a', k _ _ b' (fun e => c (e ▸ List.mem_of_getElem? a')), fu.obr c'⟩
  · cases hg
    refine ⟨⟨h1, ?_⟩, c⟩
    rw [hc]
    exact b.fut fu
def listOf (st : Sto) : U → Option (List PyData)
  | .d (.list xs) => some xs
  | .ref i => match st.obs[i]? with | some (.lst xs) => some xs | _ => none
  | _ => none
def tupOf : U → Option (List PyData)
  | .d (.tuple xs) => some xs
  | _ => none
def toTree (st : Sto) (u : U) : Option PyData := match u with
  | .d x => some x
  | .ref i => match st.obs[i]? with | some (.lst xs) => some (.list xs) | _ => none
  | .flow => none
  | .scr _ => none
  | .dct _ => none
theorem list_q (rl : Rl G β H st) (h : RU G β (Ban G β st) H v u) {xs : List PyData} (e : listOf st u = some xs) : ∃ p vs, v = .ref p ∧ SqL G.K H p vs ∧ RTs G.K (Ban G β st) H vs xs := by
  unfold listOf at e
  split at e
  · cases e
    cases h with
    | lst a b => exact ⟨_, _, rfl, a.q, b⟩
  · rename_i i
    split at e
    · rename_i hy
      cases e
      obtain ⟨p, h1, rfl⟩ := h
      obtain ⟨q, vs, a, b, c⟩ := rl.ob i _ hy
      rw [h1] at a; cases a
      exact ⟨p, vs, rfl, SqL.of b, c⟩
    · cases e
  · cases e
theorem tup_q (h : RU G β (Ban G β st) H v u) {xs : List PyData} (e : tupOf u = some xs) : ∃ p vs, v = .ref p ∧ SqT G.K H p vs ∧ RTs G.K (Ban G β st) H vs xs := by
  unfold tupOf at e
  split at e
  · cases e
    cases h with
    | tup a b => exact ⟨_, _, rfl, a.q, b⟩
  · cases e
theorem tree_dp (rl : Rl G β H st) (h : RU G β (Ban G β st) H v u) {x : PyData} (e : toTree st u = some x) : Dp G.K H v x := by
  cases u with
  | d y => cases e; exact RT.dp _ _ h
  | flow => cases e
  | scr ns => cases e
  | dct es => cases e
  | ref i =>
    simp only [toTree] at e
    split at e
    · rename_i ys hy
      cases e
      obtain ⟨p, h1, rfl⟩ := h
      obtain ⟨q, vs, a, b, c⟩ := rl.ob i ys hy
      rw [h1] at a; cases a
      exact .lst (SqL.of b) (RTs.dp _ _ c)
    · cases e
def opEq (neg : Bool) : U → U → Sto → Res U := fun a b st => match toTree st a, toTree st b with
  | some x, some y => if (SeqAt.shaped x && SeqAt.shaped y) = true then .ok (.d (.bool (if neg then !PyData.eqv x y else PyData.eqv x y))) st else .no
  | _, _ => .no
theorem r_eq : SimR G (rEqD G.K) (opEq false) := fun β H σ l st re x y a b Q hx hy h => by
  unfold opEq at h
  split at h
  · rename_i d e h1 h2
    split at h
    · rename_i q
      rw [Bool.and_eq_true] at q
      exact ⟨d, e, tree_dp re.rl hx h1, tree_dp re.rl hy h2, q.1, q.2, wpR_d re.rl (.bl _) h⟩
    · exact h.elim
  · exact h.elim
theorem r_ne : SimR G (rNeD G.K) (opEq true) := fun β H σ l st re x y a b Q hx hy h => by
  unfold opEq at h
  split at h
  · rename_i d e h1 h2
    split at h
    · rename_i q
      rw [Bool.and_eq_true] at q
      exact ⟨d, e, tree_dp re.rl hx h1, tree_dp re.rl hy h2, q.1, q.2, wpR_d re.rl (.bl _) h⟩
    · exact h.elim
  · exact h.elim
def fSub : U → U → Sto → Res U := oI0 fun i j => .int (i - j)
def mulC (i j : Int) : Bool := decide (i.natAbs.log2 + j.natAbs.log2 < 1000000)
def fMod : U → U → Sto → Res U := oI (fun _ j => decide (j ≠ 0)) fun i j => .int (i.fmod j)
def divC (_ j : Int) : Bool := decide (j ≠ 0)
def fDiv : U → U → Sto → Res U := oI divC fun i j => .int (i.fdiv j)
def fPow : U → U → Sto → Res U := oI (fun i j => decide (0 ≤ j ∧ j ≤ 1000000 ∧ i.natAbs < 2 ^ 64)) fun i j => .int (i ^ j.toNat)
def fLt : U → U → Sto → Res U := oI0 fun i j => .bool (decide (i < j))
def fLe : U → U → Sto → Res U := oI0 fun i j => .bool (decide (i ≤ j))
def fGt : U → U → Sto → Res U := oI0 fun i j => .bool (decide (j < i))
def fGe : U → U → Sto → Res U := oI0 fun i j => .bool (decide (j ≤ i))
theorem r_sub : SimR G (rI0 fun i j => .int (i - j)) fSub := r_I0 fun _ _ _ _ => .int _
theorem r_mod : SimR G (rI (fun _ j => j ≠ 0) fun i j => .int (i.fmod j)) fMod := r_I (fun _ _ h => by have q := of_decide_eq_true h; exact q) fun _ _ _ _ => .int _
def CDivA (_ j : Int) : Prop := j ≠ 0
def SeX (P : Program) (base : Heap) (A : Around) (fr : List Env) : Prop :=
  base.NoSeer ∧ P.given.tree = none ∧ A.depth + Builtin.pylongFrames < recursionLimit ∧
    ∃ (e1 : Env) (rest : List Env), fr = e1 :: rest ∧ e1.scope.isGenerator = false ∧ e1.scope.isCoroutine = false ∧ e1.builtins = builtinsNs ∧ e1.globals = mainGlobals
theorem op_fdivA {X : Cx} (hS : SeX X.prog X.base X.A X.stack) : OpR X (binaryOp .FloorDiv) (rI CDivA fun i j => .int (i.fdiv j)) := by
  intro pn s sg hp p q vp vq Kq inv rp rq hw
  obtain ⟨n1, n2, en1, en2, nz, hk⟩ := hw
  subst en1 en2
  obtain ⟨k1, ek1⟩ := rp
  obtain ⟨k2, ek2⟩ := rq
  subst ek1 ek2
  obtain ⟨g1, g2, g3, e1, rest, f1, f2, f3, f4, f5⟩ := hS
  have fr := inv.ok.frames
  rw [f1] at fr
  have seer : SeerAt (model X.prog X.w) X.A s.heap := SeerAt.of (g1.keeps inv.bk) g2 fr f2 f3 f4 f5
  have room : PylongRoom (model X.prog X.w) X.A s := PylongRoom.of inv.nolimit g3 seer
  exact floordiv_int nz ⟨V.int (n1.fdiv n2), hp, inv.tok _, ⟨s.toks, rfl⟩, hk⟩ (.inr room)
theorem r_div : SimR G (rI CDivA fun i j => .int (i.fdiv j)) fDiv := r_I (fun _ _ h => by have q := of_decide_eq_true h; exact q) fun _ _ _ _ => .int _
theorem r_pow : SimR G (rI CPow fun i j => .int (i ^ j.toNat)) fPow := r_I (fun _ _ h => by have q := of_decide_eq_true h; exact q) fun _ _ _ _ => .int _
theorem r_lt : SimR G (rI0 fun i j => .bl (decide (i < j))) fLt := r_I0 fun _ _ _ _ => .bl _
theorem r_gt : SimR G (rI0 fun i j => .bl (decide (j < i))) fGt := r_I0 fun _ _ _ _ => .bl _
theorem r_ge : SimR G (rI0 fun i j => .bl (decide (j ≤ i))) fGe := r_I0 fun _ _ _ _ => .bl _
def isNon : U → Bool
  | .d .none => true
  | _ => false
def fIsN (neg : Bool) : U → U → Sto → Res U := fun a b st => match b with
  | .d .none => .ok (.d (.bool (if neg then !isNon a else isNon a))) st
  | _ => .no
def flatD : PyData → Bool
  | .none | .bool _ | .int _ | .str _ => true
  | _ => false
theorem flatD_v {B : Addr → Prop} {K : PySem.W.Frag} {x : PyData} (h : RT K B H v x) (f : flatD x = true) : flatV v = true := by
  cases h <;> first | rfl | cases f
theorem flatD_all {B : Addr → Prop} {K : PySem.W.Frag} : ∀ {xs : List PyData} {vs : List V}, RTs K B H vs xs → xs.all flatD = true → vs.all flatV = true
  | [], _, h, _ => by cases h; rfl
  | x :: xs, _, h, f => by
    cases h with
    | cons h1 h2 =>
      simp only [List.all_cons, Bool.and_eq_true] at f ⊢
      exact ⟨flatD_v h1 f.1, flatD_all h2 f.2⟩
theorem eqV_v {B : Addr → Prop} {K : PySem.W.Frag} {x y : PyData} {v w : V} (h : RT K B H v x) (h' : RT K B H w y) (f : flatD x = true) (g : flatD y = true) : eqV v w = PyData.eqv x y := by
  cases h <;> first | (cases f; done) | (cases h' <;> first | (cases g; done) | (simp [eqV, PyData.eqv]))
theorem inV_v {B : Addr → Prop} {K : PySem.W.Frag} {x : PyData} {v : V} (h : RT K B H v x) (f : flatD x = true) : ∀ {xs : List PyData} {vs : List V}, RTs K B H vs xs → xs.all flatD = true → inV v vs = xs.any fun y => PyData.eqv y x
  | [], _, h', _ => by cases h'; rfl
  | y :: xs, _, h', g => by
    cases h' with
    | cons h1 h2 =>
      simp only [List.all_cons, Bool.and_eq_true] at g
      have ih := inV_v h f h2 g.2
      unfold inV at ih ⊢
      rw [List.any_cons, List.any_cons, ih, eqV_v h1 h g.1 f]
def seqOf (st : Sto) (u : U) : Option (List PyData) := (listOf st u).orElse fun _ => tupOf u
theorem seq_q (rl : Rl G β H st) (h : RU G β (Ban G β st) H v u) {xs : List PyData} (e : seqOf st u = some xs) : ∃ p vs, v = .ref p ∧ (SqL G.K H p vs ∨ SqT G.K H p vs) ∧ RTs G.K (Ban G β st) H vs xs := by
  unfold seqOf at e
  cases q : listOf st u with
  | some ys =>
    rw [q] at e; cases e
    obtain ⟨p, vs, a, b, c⟩ := list_q rl h q
    exact ⟨p, vs, a, .inl b, c⟩
  | none =>
    rw [q] at e
    obtain ⟨p, vs, a, b, c⟩ := tup_q h (show tupOf u = some xs from e)
    exact ⟨p, vs, a, .inr b, c⟩
def fIn (neg : Bool) : U → U → Sto → Res U := fun a b st => match a, seqOf st b with
  | .d x, some xs => if (flatD x && xs.all flatD) = true then .ok (.d (.bool (if neg then !(xs.any fun y => PyData.eqv y x) else xs.any fun y => PyData.eqv y x))) st else .no
  | _, _ => .no
theorem r_in (neg : Bool) : SimR G (rIn G.K neg) (fIn neg) := fun β H σ l st re x y a b Q hx hy h => by
  unfold fIn at h
  split at h
  · rename_i z xs e
    split at h
    · rename_i q
      rw [Bool.and_eq_true] at q
      obtain ⟨p, vs, rfl, s, r⟩ := seq_q re.rl hy e
      exact ⟨p, vs, rfl, s, flatD_v hx q.1, flatD_all r q.2, by rw [inV_v hx q.1 r q.2]; exact wpR_d re.rl (.bl _) h⟩
    · exact h.elim
  · exact h.elim
end
end NW
namespace NW
open PySem PySem.Spec PyProof.Rows L2
section
variable {G : Gx} {β β' : List Addr} {st st' : Sto} {H H' : Hp} {v : V} {u : U} {σ : L2.St} {l : Loc}
def bTest (m : ME) : MB := fun l st => (m l st).bind fun u st => match u with
  | .d (.bool b) => .ok b st
  | _ => .no
theorem s_tB {t : TE} {m : ME} (h : SimE G t m) : SimT G (tB t) (bTest m) := fun β H σ l st re Q q => by
  refine h β H σ l st re _ (wpR_bind q fun v u H1 β1 st1 f1 rl1 p1 h1 => ?_)
  split at h1
  · cases ru_bool p1
    exact ⟨_, rfl, h1 _ H1 β1 Fut.refl rl1 rfl⟩
  · exact h1.elim
theorem s_test {t : TE} {m : ME} (h : SimE G t m) : SimT G (tTest t) (bTest m) := s_tB h
def truD (st : Sto) (u : U) : Option Bool := match u with
  | .d .none => some false
  | .d (.bool b) => some b
  | .d (.int i) => some (i != 0)
  | .d (.str y) => if decide (y.length ≤ sizeLine) = true then some ((y.length : Int) != 0) else none
  | _ => (seqOf st u).map fun xs => !xs.isEmpty
def bTru (m : ME) : MB := fun l st => (m l st).bind fun u st => match truD st u with
  | some b => .ok b st
  | none => .no
theorem tru_v (rl : Rl G β H st) (h : RU G β (Ban G β st) H v u) {b : Bool} (e : truD st u = some b) : TruV G.K v H b := by
  unfold truD at e
  split at e
  · cases h; exact (Option.some.inj e).symm
  · cases h; exact (Option.some.inj e).symm
  · cases h; exact (Option.some.inj e).symm
  · cases h
    split at e
    · rename_i q
      exact ⟨of_decide_eq_true q, (Option.some.inj e).symm⟩
    · cases e
  · cases q : seqOf st u with
    | none => rw [q] at e; cases e
    | some xs =>
      rw [q] at e
      obtain ⟨p, vs, rfl, s, r⟩ := seq_q rl h q
      have e' : (!xs.isEmpty) = b := Option.some.inj e
      have z : b = !vs.isEmpty := by
        rw [← e']
        cases r <;> rfl
      rcases s with s | s
      · exact .inl ⟨vs, s, z⟩
      · exact .inr (.inl ⟨vs, s, z⟩)
theorem s_tru {t : TE} {m : ME} (h : SimE G t m) : SimT G (fun σ H Q => t σ H fun x H' => ∃ k, TruV G.K x H' k ∧ Q k H') (bTru m) := fun β H σ l st re Q q => by
  refine h β H σ l st re _ (wpR_bind q fun v u H1 β1 st1 f1 rl1 p1 h1 => ?_)
  split at h1
  · rename_i b e
    exact ⟨b, tru_v rl1 p1 e, h1 _ H1 β1 Fut.refl rl1 rfl⟩
  · exact h1.elim
def bAnd (a b : MB) : MB := fun l st => (a l st).bind fun c st => if c = true then b l st else .ok false st
def bOr (a b : MB) : MB := fun l st => (a l st).bind fun c st => if c = true then .ok true st else b l st
def bNot (a : MB) : MB := fun l st => (a l st).bind fun c st => .ok (!c) st
theorem wpR_b {b : Bool} {Q : Bool → Hp → Prop} (rl : Rl G β H st) (h : wpR G β H σ st PB (.ok b st) Q) : Q b H := h b H β Fut.refl rl rfl
theorem s_and {t u : TT} {a b : MB} (ha : SimT G t a) (hb : SimT G u b) : SimT G (tAnd t u) (bAnd a b) := fun β H σ l st re Q q => by
  refine ha β H σ l st re _ (wpR_bind q fun c c' H1 β1 st1 f1 rl1 p1 h1 => ?_)
  cases (show c = c' from p1)
  cases c with
  | true => exact hb β1 H1 σ l st1 (f1.re rl1 re) Q h1
  | false => exact wpR_b rl1 h1
theorem s_or {t u : TT} {a b : MB} (ha : SimT G t a) (hb : SimT G u b) : SimT G (tOr t u) (bOr a b) := fun β H σ l st re Q q => by
  refine ha β H σ l st re _ (wpR_bind q fun c c' H1 β1 st1 f1 rl1 p1 h1 => ?_)
  cases (show c = c' from p1)
  cases c with
  | false => exact hb β1 H1 σ l st1 (f1.re rl1 re) Q h1
  | true => exact wpR_b rl1 h1
theorem s_not {t : TT} {a : MB} (ha : SimT G t a) : SimT G (tNot t) (bNot a) := fun β H σ l st re Q q => by
  refine ha β H σ l st re _ (wpR_bind q fun c c' H1 β1 st1 f1 rl1 p1 h1 => ?_)
  cases (show c = c' from p1)
  exact wpR_b rl1 h1
def eAndV (a b : ME) : ME := fun l st => (a l st).bind fun u st => match u with
  | .d (.bool c) => if c = true then b l st else .ok (.d (.bool false)) st
  | _ => .no
def eOrV (a b : ME) : ME := fun l st => (a l st).bind fun u st => match u with
  | .d (.bool c) => if c = true then .ok (.d (.bool true)) st else b l st
  | _ => .no
def eNotV (a : ME) : ME := fun l st => (a l st).bind fun u st => match u with
  | .d (.bool c) => .ok (.d (.bool (!c))) st
  | _ => .no
theorem s_andV {t u : TE} {a b : ME} (ha : SimE G t a) (hb : SimE G u b) : SimE G (tAndV t u) (eAndV a b) := fun β H σ l st re Q q => by
  refine ha β H σ l st re _ (wpR_bind q fun v w H1 β1 st1 f1 rl1 p1 h1 => ?_)
  split at h1
  · rename_i c
    cases ru_bool p1
    refine ⟨c, rfl, ?_⟩
    cases c with
    | true => exact hb β1 H1 σ l st1 (f1.re rl1 re) Q h1
    | false => exact wpR_d rl1 (.bl _) h1
  · exact h1.elim
def aNil : MA := fun _ st => .ok [] st
def aCons (a : ME) (r : MA) : MA := fun l st => (a l st).bind fun u st => (r l st).bind fun us st => .ok (u :: us) st
theorem s_nil : SimA G tNil aNil := fun β H σ l st re Q h => h [] H β Fut.refl re.rl .nil
theorem s_cons {t : TE} {ta : TA} {a : ME} {r : MA} (ha : SimE G t a) (hr : SimA G ta r) : SimA G (tCons t ta) (aCons a r) := fun β H σ l st re Q h => by
  refine ha β H σ l st re _ (wpR_bind h fun v x H1 β1 st1 f1 rl1 p1 h1 => ?_)
  refine hr β1 H1 σ l st1 (f1.re rl1 re) _ (wpR_bind h1 fun w y H2 β2 st2 f2 rl2 p2 h2 => ?_)
  exact h2 (v :: w) H2 β2 Fut.refl rl2 (.cons (f2.ru p1) p2)
def treesOf : List U → Option (List PyData)
  | [] => some []
  | .d x :: us => (treesOf us).map (x :: ·)
  | _ :: _ => none
theorem trees_r : ∀ {vs : List V} {us : List U} {ds : List PyData}, Paired (fun v u => RU G β (Ban G β st) H v u) vs us → treesOf us = some ds → RTs G.K (Ban G β st) H vs ds
  | _, [], ds, .nil, e => by cases e; exact .nil
  | _, .d x :: us, ds, .cons h t, e => by
    have e' : (treesOf us).map (x :: ·) = some ds := e
    cases q : treesOf us with
    | none => rw [q] at e'; cases e'
    | some es =>
      rw [q] at e'; cases e'
      exact .cons h (trees_r t q)
  | _, .ref i :: us, ds, .cons h t, e => by cases e
  | _, .flow :: us, ds, .cons h t, e => by cases e
  | _, .scr _ :: us, ds, .cons h t, e => by cases e
theorem Rl.tupB (rl : Rl G β H st) {p : Addr} {vs : List V} (h : Rd H p (.tup vs)) : ¬ Ban G β st p := fun z => rl.banNoTup z vs h
def lenOk (n : Nat) : Bool := decide (n ≤ sizeLine)
def eTup (a : MA) : ME := fun l st => (a l st).bind fun us st => match treesOf us with
  | some ds => if lenOk ds.length = true then .ok (.d (.tuple ds)) st else .no
  | none => .no
theorem new_tup (rl : Rl G β H st) {vs : List V} {ds : List PyData} {p : Addr} (hp : H p = none) (r : RTs G.K (Ban G β st) H vs ds) : Fut G β st H β st (upd H p (.tup vs)) ∧ Rl G β (upd H p (.tup vs)) st ∧ RT G.K (Ban G β st) (upd H p (.tup vs)) (.ref p) (.tuple ds) := by
  have f : Fut G β st H β st (upd H p (.tup vs)) := Fut.new hp
  exact ⟨f, rl.new hp, .tup (.inl ⟨.inl upd_same, rl.notBan hp⟩) (f.rts r)⟩
theorem new_lst (rl : Rl G β H st) {vs : List V} {ds : List PyData} {p : Addr} (hp : H p = none) (r : RTs G.K (Ban G β st) H vs ds) : Fut G β st H β st (upd H p (.lst vs)) ∧ Rl G β (upd H p (.lst vs)) st ∧ RT G.K (Ban G β st) (upd H p (.lst vs)) (.ref p) (.list ds) := by
  have f : Fut G β st H β st (upd H p (.lst vs)) := Fut.new hp
  exact ⟨f, rl.new hp, .lst ⟨upd_same, rl.notBan hp⟩ (f.rts r)⟩
theorem s_tup {ta : TA} {a : MA} (ha : SimA G ta a) : SimE G (tTup ta) (eTup a) := fun β H σ l st re Q h => by
  refine ha β H σ l st re _ (wpR_bind h fun vs us H1 β1 st1 f1 rl1 p1 h1 => ?_)
  split at h1
  · rename_i ds e
    split at h1
    · rename_i q
      have r := trees_r p1 e
      refine ⟨by rw [r.len]; exact of_decide_eq_true q, fun p hp => ?_⟩
      obtain ⟨f, rl', rt⟩ := new_tup rl1 hp r
      exact h1 _ _ β1 f rl' rt
    · exact h1.elim
  · exact h1.elim
def wpN (G : Gx) (β : List Addr) (H : Hp) (σ : L2.St) (st : Sto) (r : Res (List PyData)) (Q : VK) : Prop := match r with
  | .ok xs st' => ∀ H' β', Fut G β st H β' st' H' → Rl G β' H' st' → ∀ p vs, H' p = none → RTs G.K (Ban G β' st') H' vs xs → Q (.ref p) (upd H' p (.lst vs))
  | .ex e st' => ∀ cv dx H' β', Fut G β st H β' st' H' → Rl G β' H' st' → ExR G (Ban G β' st') H' e cv dx → G.W cv dx σ H'
  | .no => False
def SimN (G : Gx) (t : TE) (m : ML) : Prop := ∀ β H σ l st, Re G β H σ l st → ∀ Q, wpN G β H σ st (m l st) Q → t σ H Q
def eFrz (m : ML) : ME := fun l st => (m l st).bind fun xs st => .ok (.d (.list xs)) st
def eOwn (m : ML) : ME := fun l st => (m l st).bind fun xs st => .ok (.ref st.obs.length) (st.add xs)
theorem s_frz {t : TE} {m : ML} (h : SimN G t m) : SimE G t (eFrz m) := fun β H σ l st re Q q => by
  refine h β H σ l st re Q ?_
  unfold eFrz at q
  cases e : m l st with
  | no => rw [e] at q; exact q
  | ex x st' => rw [e] at q; exact q
  | ok xs st' =>
    rw [e] at q
    intro H' β' f rl p vs hp r
    obtain ⟨f2, rl2, rt⟩ := new_lst rl hp r
    exact q _ _ β' (f.trans f2) rl2 rt
theorem s_own {t : TE} {m : ML} (h : SimN G t m) : SimE G t (eOwn m) := fun β H σ l st re Q q => by
  refine h β H σ l st re Q ?_
  unfold eOwn at q
  cases e : m l st with
  | no => rw [e] at q; exact q
  | ex x st' => rw [e] at q; exact q
  | ok xs st' =>
    rw [e] at q
    intro H' β' f rl p vs hp r
    obtain ⟨f2, rl2⟩ := add_own rl hp r
    refine q _ _ (β' ++ [p]) (f.trans f2) rl2 ⟨p, ?_, rfl⟩
    rw [← rl.len]; simp
theorem wpN_bind {α γ : Type} {P : List Addr → Sto → Hp → γ → α → Prop} {r : Res α} {k : α → Sto → Res (List PyData)} {Q : VK}
    (h : wpN G β H σ st (r.bind k) Q) {R : γ → Hp → Prop} (hk : ∀ v a H' β' st', Fut G β st H β' st' H' → Rl G β' H' st' → P β' st' H' v a → wpN G β' H' σ st' (k a st') Q → R v H') : wpR G β H σ st P r R := by
  cases r with
  | ok a st' =>
    intro v H' β' f rl p
    refine hk v a H' β' st' f rl p ?_
    have h' : wpN G β H σ st (k a st') Q := h
    cases e : k a st' with
    | ok b st'' => rw [e] at h'; exact fun H'' β'' f' rl' => h' H'' β'' (f.trans f') rl'
    | ex x st'' => rw [e] at h'; exact fun cv dx H'' β'' f' rl' p' => h' cv dx H'' β'' (f.trans f') rl' p'
    | no => rw [e] at h'; exact h'
  | ex e st' => exact h
  | no => exact h
def lDisp (a : MA) : ML := fun l st => (a l st).bind fun us st => match treesOf us with
  | some ds => if lenOk ds.length = true then .ok ds st else .no
  | none => .no
theorem n_disp {ta : TA} {a : MA} (ha : SimA G ta a) : SimN G (tLst ta) (lDisp a) := fun β H σ l st re Q h => by
  refine ha β H σ l st re _ (wpN_bind h fun vs us H1 β1 st1 f1 rl1 p1 h1 => ?_)
  split at h1
  · rename_i ds e
    split at h1
    · rename_i q
      have r := trees_r p1 e
      exact ⟨by rw [r.len]; exact of_decide_eq_true q, fun p hp => h1 H1 β1 Fut.refl rl1 p vs hp r⟩
    · exact h1.elim
  · exact h1.elim
def idxN (n : Nat) (i : Int) : Option Nat := if 0 ≤ i then (if i < n then some i.toNat else none) else if -(n : Int) ≤ i then some (i + n).toNat else none
theorem ixN_eq (n : Nat) (i : Int) : ixN n i = idxN n i := rfl
theorem rts_atI {xs : List PyData} {vs : List V} {B : Addr → Prop} {i : Int} {j : Nat} {x : PyData} (r : RTs G.K B H vs xs) (h : idxN xs.length i = some j) (hx : xs[j]? = some x) : ∃ v, atI vs i = some v ∧ RT G.K B H v x := by
  obtain ⟨v, h1, h2⟩ := r.get hx
  refine ⟨v, ?_, h2⟩
  unfold atI
  rw [r.len, ixN_eq, h]
  exact h1
def strAt (z : Str) (i : Int) : Option Str := if decide (z.length ≤ sizeLine) = true then (atI z.cps.toList i).map fun c => ⟨#[c]⟩ else none
def flAt (f : Fl) (i : Int) : Option U := if i = 0 then some (.scr f.cells) else if i = 1 then some (.d (.int f.place)) else if i = 2 then some (.d (.int f.held)) else if i = 3 then some (.d (.int f.seed)) else if i = 4 then some (.d (.int f.many)) else none
theorem flAt_r (rl : Rl G β H st) {f : Fl} (hf : st.fl = some f) {i : Int} {u : U} (h : flAt f i = some u) : ∃ v, atI (flV G.fb f) i = some v ∧ RU G β (Ban G β st) H v u := by
  obtain ⟨⟨a, b⟩, _⟩ := rl.flo f hf
  unfold flAt at h
  split at h
  · rename_i e; subst e; cases h
    exact ⟨.ref G.fb, rfl, _, rfl, .inl ⟨.inl b.1, b.2⟩⟩
  · split at h
    · rename_i e; subst e; cases h; exact ⟨_, rfl, .int _⟩
    · split at h
      · rename_i e; subst e; cases h; exact ⟨_, rfl, .int _⟩
      · split at h
        · rename_i e; subst e; cases h; exact ⟨_, rfl, .int _⟩
        · split at h
          · rename_i e; subst e; cases h; exact ⟨_, rfl, .int _⟩
          · cases h
def fIx : U → U → Sto → Res U := fun a b st => match b with
  | .d (.int i) => (match a with
    | .flow => (match st.fl with
      | some f => (match flAt f i with
        | some u => .ok u st
        | none => .no)
      | none => .no)
    | .scr ns => (match (idxN ns.length i).bind fun j => ns[j]? with
      | some x => .ok (.d (.int x)) st
      | none => .no)
    | .d (.str z) => (match strAt z i with
      | some y => .ok (.d (.str y)) st
      | none => .no)
    | _ => (match seqOf st a with
      | some xs => (match (idxN xs.length i).bind fun j => xs[j]? with
        | some x => .ok (.d x) st
        | none => .no)
      | none => .no))
  | _ => .no
theorem r_ix : SimR G (rIx G.K) fIx := fun β H σ l st re x y a b Q hx hy h => by
  unfold fIx at h
  split at h
  · rename_i i
    cases ru_int hy
    split at h
    · split at h
      · rename_i f hf
        split at h
        · rename_i u e
          obtain ⟨v, h1, h2⟩ := flAt_r re.rl hf e
          cases (show x = .ref G.fa from hx)
          exact .inl ⟨G.fa, _, i, v, rfl, rfl, SqL.of (re.rl.flo f hf).1.here, h1, wpR_u re.rl h2 h⟩
        · exact h.elim
      · exact h.elim
    · rename_i ns
      split at h
      · rename_i w e2
        obtain ⟨p, rfl, s⟩ := hx
        cases e3 : idxN ns.length i with
        | none => rw [e3] at e2; cases e2
        | some j =>
          rw [e3] at e2
          refine .inl ⟨p, _, i, .int w, rfl, rfl, s.q, ?_, wpR_d re.rl (.int _) h⟩
          unfold atI
          rw [List.length_map, ixN_eq, e3]
          show (ns.map V.int)[j]? = _
          rw [List.getElem?_map, show ns[j]? = some w from e2]; rfl
      · exact h.elim
    · rename_i z
      cases ru_str hx
      unfold strAt at h
      split at h
      · rename_i y e
        split at e
        · rename_i q
          cases e2 : atI z.cps.toList i with
          | none => rw [e2] at e; cases e
          | some c =>
            rw [e2] at e; cases e
            exact .inr (.inr ⟨z, i, c, rfl, rfl, of_decide_eq_true q, e2, wpR_d re.rl (.str _) h⟩)
        · cases e
      · exact h.elim
    · split at h
      · rename_i xs e
        split at h
        · rename_i w e2
          obtain ⟨p, vs, rfl, s, r⟩ := seq_q re.rl hx e
          cases e3 : idxN xs.length i with
          | none => rw [e3] at e2; cases e2
          | some j =>
            rw [e3] at e2
            obtain ⟨v, h1, h2⟩ := rts_atI r e3 e2
            rcases s with s | s
            · exact .inl ⟨p, vs, i, v, rfl, rfl, s, h1, wpR_d re.rl h2 h⟩
            · exact .inr (.inl ⟨p, vs, i, v, rfl, rfl, s, h1, wpR_d re.rl h2 h⟩)
        · exact h.elim
      · exact h.elim
  · exact h.elim
abbrev MO := Loc → Sto → Res (Option Int)
def PO' : List Addr → Sto → Hp → Option Int → Option Int → Prop := fun _ _ _ a b => a = b
def SimO (G : Gx) (t : TO) (m : MO) : Prop := ∀ β H σ l st, Re G β H σ l st → ∀ Q, wpR G β H σ st PO' (m l st) Q → t σ H Q
def oNone : MO := fun _ st => .ok none st
def oSome (m : ME) : MO := fun l st => (m l st).bind fun u st => match u with
  | .d (.int i) => .ok (some i) st
  | _ => .no
theorem s_oNone : SimO G tNoPart oNone := fun β H σ l st re Q h => h none H β Fut.refl re.rl rfl
theorem s_oSome {t : TE} {m : ME} (h : SimE G t m) : SimO G (tPart t) (oSome m) := fun β H σ l st re Q q => by
  refine h β H σ l st re _ (wpR_bind q fun v u H1 β1 st1 f1 rl1 p1 h1 => ?_)
  split at h1
  · cases ru_int p1
    exact ⟨_, rfl, h1 _ H1 β1 Fut.refl rl1 rfl⟩
  · exact h1.elim
def cutD (xs : List PyData) (lo hi : Option Int) : List PyData := (xs.drop (HT.sIx xs.length 0 lo)).take (HT.sIx xs.length xs.length hi - HT.sIx xs.length 0 lo)
theorem RTs.cut {B : Addr → Prop} {K : PySem.W.Frag} {xs : List PyData} {vs : List V} (r : RTs K B H vs xs) (lo hi : Option Int) : RTs K B H (cutV vs lo hi) (cutD xs lo hi) := by
  unfold cutV cutD
  rw [r.len]
  exact (r.drop _).take _
theorem cut_whole {xs : List PyData} {lo hi : Option Int} (h : HT.sIx xs.length 0 lo = 0 ∧ HT.sIx xs.length xs.length hi = xs.length) : cutD xs lo hi = xs := by
  unfold cutD
  rw [h.1, h.2]; simp
end
end NW
namespace NW
open PySem PySem.Spec PyProof.Rows L2
def Gx.ban (G : Gx) (D : Addr) : Gx := { G with O0 := fun p => G.O0 p ∨ p = D }
def wpS (G : Gx) (β : List Addr) (H : Hp) (st : Sto) (o : Out) (D : Ends) : Prop := match o with
  | .nx l' st' => ∀ σ' H' β', Fut G β st H β' st' H' → Re G β' H' σ' l' st' → D.nx σ' H'
  | .bk l' st' => ∀ σ' H' β', Fut G β st H β' st' H' → Re G β' H' σ' l' st' → D.bk σ' H'
  | .ct l' st' => ∀ σ' H' β', Fut G β st H β' st' H' → Re G β' H' σ' l' st' → D.ct σ' H'
  | .rt u st' => ∀ v H' β', Fut G β st H β' st' H' → Rl G β' H' st' → RU G β' (Ban G β' st') H' v u → D.rt v H'
  | .ex e l' st' => ∀ cv dx σ' H' β', Fut G β st H β' st' H' → Re G β' H' σ' l' st' → ExR G (Ban G β' st') H' e cv dx → G.W cv dx σ' H'
  | .no => False
def SimS (G : Gx) (t : TS) (m : MS) : Prop := ∀ β H σ l st, Re G β H σ l st → ∀ D, wpS G β H st (m l st) D → t D σ H
def Res.out {α : Type} (r : Res α) (l : Loc) (k : α → Sto → Out) : Out := match r with
  | .ok a s => k a s
  | .ex e s => .ex e l s
  | .no => .no
def Out.seq (o : Out) (k : Loc → Sto → Out) : Out := match o with
  | .nx l st => k l st
  | o => o
section
variable {G : Gx} {β β' : List Addr} {st st' : Sto} {H H' : Hp} {v : V} {u : U} {σ σ' : L2.St} {l l' : Loc} {D : Ends}
theorem wpS_fut {o : Out} (f : Fut G β st H β' st' H') (h : wpS G β H st o D) : wpS G β' H' st' o D := by
  cases o with
  | nx l s => exact fun a b c d => h a b c (f.trans d)
  | bk l s => exact fun a b c d => h a b c (f.trans d)
  | ct l s => exact fun a b c d => h a b c (f.trans d)
  | rt u s => exact fun a b c d => h a b c (f.trans d)
  | ex e l s => exact fun a b c d e' f' => h a b c d e' (f.trans f')
  | no => exact h
theorem wpS_nx (re : Re G β H σ l st) (h : wpS G β H st (.nx l st) D) : D.nx σ H := h σ H β Fut.refl re
theorem wpS_res {α γ : Type} {P : List Addr → Sto → Hp → γ → α → Prop} {r : Res α} {k : α → Sto → Out} {R : γ → Hp → Prop} (re : Re G β H σ l st) (h : wpS G β H st (r.out l k) D)
    (hk : ∀ v a H' β' st', Fut G β st H β' st' H' → Rl G β' H' st' → P β' st' H' v a → wpS G β' H' st' (k a st') D → R v H') : wpR G β H σ st P r R := by
  cases r with
  | ok a st' => exact fun v H' β' f rl p => hk v a H' β' st' f rl p (wpS_fut f h)
  | ex e st' => exact fun cv dx H' β' f rl x => h cv dx σ H' β' f (f.re rl re) x
  | no => exact h
theorem wpS_seq {o : Out} {k : Loc → Sto → Out} {N : L2.St → Hp → Prop} (h : wpS G β H st (o.seq k) D) (hk : ∀ σ' H' β' l' st', Fut G β st H β' st' H' → Re G β' H' σ' l' st' → wpS G β' H' st' (k l' st') D → N σ' H') : wpS G β H st o { D with nx := N } := by
  cases o with
  | nx l' s => exact fun σ' H' β' f re => hk σ' H' β' l' s f re (wpS_fut f h)
  | bk l s => exact h
  | ct l s => exact h
  | rt u s => exact h
  | ex e l s => exact h
  | no => exact h
theorem RLoc.set {B : Addr → Prop} (h : RLoc G β B H σ l) (i : Nat) (r : RU G β B H v u) : RLoc G β B H (σ.set i (some v)) (l.set i (some u)) := by
  refine ⟨by rw [List.length_set, List.length_set, h.len], fun j w e => ?_⟩
  by_cases hj : j = i
  · subst hj
    have hl : j < l.length := by
      have := (List.getElem?_eq_some_iff.mp e).1
      rw [List.length_set] at this; exact this
    rw [List.getElem?_set_self hl] at e
    cases e
    exact ⟨v, by rw [List.getElem?_set_self (by rw [h.len]; exact hl)], r⟩
  · rw [List.getElem?_set_ne (Ne.symm hj)] at e
    rw [List.getElem?_set_ne (Ne.symm hj)]
    exact h.at_ j w e
def sNext : MS := fun l st => .nx l st
theorem t_next : SimS G tNext sNext := fun β H σ l st re D h => wpS_nx re h
def sSeq (a b : MS) : MS := fun l st => (a l st).seq b
theorem t_seq {t u : TS} {a b : MS} (ha : SimS G t a) (hb : SimS G u b) : SimS G (tSeq t u) (sSeq a b) := fun β H σ l st re D h =>
  ha β H σ l st re _ (wpS_seq h fun σ' H' β' l' st' f re' h' => hb β' H' σ' l' st' re' D h')
def sAsg (i : Nat) (m : ME) : MS := fun l st => (m l st).out l fun u st => .nx (l.set i (some u)) st
theorem t_asg {i : Nat} {t : TE} {m : ME} (h : SimE G t m) : SimS G (tAsg t (gName i)) (sAsg i m) := fun β H σ l st re D q =>
  h β H σ l st re _ (wpS_res re q fun v u H' β' st' f rl p q' => wpS_nx ⟨rl, (f.re rl re).lo.set i p⟩ q')
def sDrop (m : ME) : MS := fun l st => (m l st).out l fun _ st => .nx l st
theorem t_drop {t : TE} {m : ME} (h : SimE G t m) : SimS G (tDrop t) (sDrop m) := fun β H σ l st re D q =>
  h β H σ l st re _ (wpS_res re q fun v u H' β' st' f rl p q' => wpS_nx (f.re rl re) q')
def sRet (m : ME) : MS := fun l st => (m l st).out l fun u st => .rt u st
theorem t_ret {t : TE} {m : ME} (h : SimE G t m) : SimS G (tRet t) (sRet m) := fun β H σ l st re D q =>
  h β H σ l st re _ (wpS_res re q fun v u H' β' st' f rl p q' => q' v H' β' Fut.refl rl p)
def sIf (c : MB) (a b : MS) : MS := fun l st => (c l st).out l fun k st => if k = true then a l st else b l st
theorem t_if {c : TT} {t u : TS} {k : MB} {a b : MS} (hc : SimT G c k) (ha : SimS G t a) (hb : SimS G u b) : SimS G (tIfS c t u) (sIf k a b) := fun β H σ l st re D q => by
  refine hc β H σ l st re _ (wpS_res re q fun v w H' β' st' f rl p q' => ?_)
  cases (show v = w from p)
  cases v with
  | true => exact ha β' H' σ l st' (f.re rl re) D q'
  | false => exact hb β' H' σ l st' (f.re rl re) D q'
def sPar (i j : Nat) (a : MA) : MS := fun l st => (a l st).out l fun us st => match us with
  | [u, w] => .nx ((l.set i (some u)).set j (some w)) st
  | _ => .no
theorem t_par {i j : Nat} {ta : TA} {a : MA} (h : SimA G ta a) : SimS G (tPar i j ta) (sPar i j a) := fun β H σ l st re D q => by
  refine h β H σ l st re _ (wpS_res re q fun vs us H' β' st' f rl p q' => ?_)
  split at q'
  · rename_i u w
    have p' : Paired (fun v u => RU G β' (Ban G β' st') H' v u) vs [u, w] := p
    cases p' with
    | cons r1 p2 =>
      cases p2 with
      | cons r2 p3 =>
        cases p3
        exact ⟨_, _, rfl, wpS_nx ⟨rl, ((f.re rl re).lo.set i r1).set j r2⟩ q'⟩
  · exact q'.elim
abbrev MT := U → Loc → Sto → Res Loc
def PL (G : Gx) (σ0 : L2.St) (vs : List Nat) : List Addr → Sto → Hp → L2.St → Loc → Prop := fun β st H σ l => RLoc G β (Ban G β st) H σ l ∧ σ.length = σ0.length ∧ ∀ i, i ∉ vs → σ[i]? = σ0[i]?
def SimG (G : Gx) (vs : List Nat) (g : TG) (m : MT) : Prop := ∀ β H σ l st, Re G β H σ l st → ∀ v u, RU G β (Ban G β st) H v u → ∀ Q : L2.St → Hp → Prop, wpR G β H σ st (PL G σ vs) (m u l st) Q → g v σ H Q
def gNameM (i : Nat) : MT := fun u l st => .ok (l.set i (some u)) st
theorem g_name (i : Nat) : SimG G [i] (gName i) (gNameM i) := fun β H σ l st re v u r Q h =>
  h (σ.set i (some v)) H β Fut.refl re.rl ⟨re.lo.set i r, by rw [List.length_set], fun j hj => by
    rw [List.getElem?_set_ne]
    intro e; subst e; exact hj (by simp)⟩
abbrev MTs := List PyData → Loc → Sto → Res Loc
def SimGs (G : Gx) (vs : List Nat) (g : TGs) (m : MTs) : Prop := ∀ β H σ l st, Re G β H σ l st → ∀ xs ds, RTs G.K (Ban G β st) H xs ds → ∀ Q : L2.St → Hp → Prop, wpR G β H σ st (PL G σ vs) (m ds l st) Q → g xs σ H Q
def gNilM : MTs := fun ds l st => match ds with | [] => .ok l st | _ => .no
def gConsM (t : MT) (r : MTs) : MTs := fun ds l st => match ds with
  | d :: ds => (t (.d d) l st).bind fun l st => r ds l st
  | [] => .no
theorem g_nil : SimGs G [] gNil gNilM := fun β H σ l st re xs ds r Q h => by
  cases ds with
  | nil => cases r; exact ⟨rfl, h σ H β Fut.refl re.rl ⟨re.lo, rfl, fun _ _ => rfl⟩⟩
  | cons d ds => exact False.elim h
theorem wpR_mono {α γ : Type} {P P' : List Addr → Sto → Hp → γ → α → Prop} {r : Res α} {Q : γ → Hp → Prop} (h : wpR G β H σ st P r Q) (k : ∀ β' st' H' v a, Fut G β st H β' st' H' → P' β' st' H' v a → P β' st' H' v a) : wpR G β H σ st P' r Q := by
  cases r with
  | ok a s => exact fun v H' β' f rl p => h v H' β' f rl (k _ _ _ _ _ f p)
  | ex e s => exact h
  | no => exact h
def Res.noEx {α : Type} : Res α → Prop
  | .ex _ _ => False
  | _ => True
theorem wpR_noEx {α γ : Type} {P : List Addr → Sto → Hp → γ → α → Prop} {r : Res α} {Q : γ → Hp → Prop} (n : r.noEx) (h : wpR G β H σ st P r Q) : wpR G β H σ' st P r Q := by
  cases r with
  | ok a s => exact h
  | ex e s => exact n.elim
  | no => exact h
theorem g_cons {vs ws : List Nat} {g : TG} {gs : TGs} {t : MT} {r : MTs} (h1 : SimG G vs g t) (h2 : SimGs G ws gs r) (ne : ∀ ds l st, (r ds l st).noEx) : SimGs G (vs ++ ws) (gCons g gs) (gConsM t r) := fun β H σ l st re xs ds q Q h => by
  cases ds with
  | nil => exact False.elim h
  | cons d ds =>
    cases q with
    | cons q1 q2 =>
      refine ⟨_, _, rfl, h1 β H σ l st re _ (.d d) q1 _ (wpR_bind h fun σ1 l1 H1 β1 st1 f1 rl1 p1 k1 => ?_)⟩
      refine h2 β1 H1 σ1 l1 st1 ⟨rl1, p1.1⟩ _ ds (f1.rts q2) Q (wpR_mono (wpR_noEx (ne _ _ _) k1) fun β' st' H' σ2 l2 f p => ⟨p.1, p.2.1.trans p1.2.1, fun i hi => ?_⟩)
      rw [List.mem_append, not_or] at hi
      exact (p.2.2 i hi.2).trans (p1.2.2 i hi.1)
def gTupM (n : Nat) (r : MTs) : MT := fun u l st => match u with
  | .d (.tuple xs) => if xs.length = n then r xs l st else .no
  | _ => .no
theorem g_tup {vs : List Nat} {n : Nat} {gs : TGs} {r : MTs} (h : SimGs G vs gs r) : SimG G vs (gTup G.K n gs) (gTupM n r) := fun β H σ l st re v u q Q hw => by
  unfold gTupM at hw
  split at hw
  · rename_i xs
    split at hw
    · rename_i e
      obtain ⟨p, ws, rfl, s, r'⟩ := tup_q q (xs := xs) rfl
      exact ⟨p, ws, rfl, s, by rw [r'.len]; exact e, h β H σ l st re ws xs r' Q hw⟩
    · exact hw.elim
  · exact hw.elim
theorem gName_noEx (i : Nat) (u : U) (l : Loc) (st : Sto) : (gNameM i u l st).noEx := trivial
theorem gNil_noEx (ds : List PyData) (l : Loc) (st : Sto) : (gNilM ds l st).noEx := by unfold gNilM; split <;> trivial
theorem gCons_noEx {t : MT} {r : MTs} (h1 : ∀ u l st, (t u l st).noEx) (h2 : ∀ ds l st, (r ds l st).noEx) (ds : List PyData) (l : Loc) (st : Sto) : (gConsM t r ds l st).noEx := by
  unfold gConsM
  cases ds with
  | nil => trivial
  | cons d ds =>
    show ((t (.d d) l st).bind fun l st => r ds l st).noEx
    have q := h1 (.d d) l st
    cases e : t (.d d) l st with
    | ok l' s' => exact h2 ds l' s'
    | ex x s' => rw [e] at q; exact q
    | no => trivial
def sAsgG (m : ME) (t : MT) : MS := fun l st => (m l st).out l fun u st => (t u l st).out l fun l' st => .nx l' st
theorem t_asgG {vs : List Nat} {t : TE} {m : ME} {g : TG} {mt : MT} (h : SimE G t m) (hg : SimG G vs g mt) : SimS G (tAsg t g) (sAsgG m mt) := fun β H σ l st re D q =>
  h β H σ l st re _ (wpS_res re q fun v u H' β' st' f rl p q' => by
    have re' := f.re rl re
    exact hg β' H' σ l st' re' v u p _ (wpS_res re' q' fun σ2 l2 H2 β2 st2 f2 rl2 p2 q2 => wpS_nx ⟨rl2, p2.1⟩ q2))
def flPut (f : Fl) (i x : Int) : Option Fl := if i = 1 then some { f with place := x } else if i = 2 then some { f with held := x } else if i = 3 then some { f with seed := x } else if i = 4 then some { f with many := x } else none
theorem flPut_v {fb : Addr} {f f' : Fl} {i x : Int} (h : flPut f i x = some f') : ∃ n, ixN 5 i = some n ∧ (flV fb f).set n (.int x) = flV fb f' ∧ f'.cells = f.cells := by
  unfold flPut at h
  split at h
  · rename_i e; subst e; cases h; exact ⟨1, rfl, rfl, rfl⟩
  · split at h
    · rename_i e; subst e; cases h; exact ⟨2, rfl, rfl, rfl⟩
    · split at h
      · rename_i e; subst e; cases h; exact ⟨3, rfl, rfl, rfl⟩
      · split at h
        · rename_i e; subst e; cases h; exact ⟨4, rfl, rfl, rfl⟩
        · cases h
def gSubM (o i : ME) : MT := fun u l st => (o l st).bind fun ou st => (i l st).bind fun iu st => match ou, iu, u with
  | .flow, .d (.int j), .d (.int x) => (match st.fl with
    | some f => (match flPut f j x with
      | some f' => .ok l { st with fl := some f' }
      | none => .no)
    | none => .no)
  | .ref k, .d (.int j), .d y => (match st.obs[k]? with
    | some (.lst xs) => (match idxN xs.length j with
      | some n => .ok l (st.put k (xs.set n y))
      | none => .no)
    | _ => .no)
  | _, _, _ => .no
theorem g_sub {to ti : TE} {o i : ME} (ho : SimE G to o) (hi : SimE G ti i) : SimG G [] (gSub to ti rSetL) (gSubM o i) := fun β H σ l st re v u r Q h => by
  refine ho β H σ l st re _ (wpR_bind h fun ov ou H1 β1 st1 f1 rl1 p1 h1 => ?_)
  have re1 := f1.re rl1 re
  refine hi β1 H1 σ l st1 re1 _ (wpR_bind h1 fun iv iu H2 β2 st2 f2 rl2 p2 h2 => ?_)
  have re2 := f2.re rl2 re1
  have r2 := f2.ru (f1.ru r)
  split at h2
  · rename_i j x
    cases ru_int p2
    cases ru_int r2
    split at h2
    · rename_i f hf
      split at h2
      · rename_i f' hp
        cases (show ov = .ref G.fa from f2.ru p1)
        obtain ⟨⟨a, b⟩, _⟩ := rl2.flo f hf
        obtain ⟨n, e1, e2, e3⟩ := flPut_v (fb := G.fb) hp
        refine ⟨G.fa, _, j, n, rfl, rfl, a, e1, ?_⟩
        obtain ⟨f3, rl3⟩ := flow_end (H' := upd H2 G.fa (.lst ((flV G.fb f).set n (.int x)))) rl2 hf (fun b o hb ne => by rw [upd_ne ne]; exact hb) (by rw [upd_same, e2]) e3
        exact h2 σ _ β2 f3 rl3 ⟨f3.rloc re2.lo, rfl, fun _ _ => rfl⟩
      · exact h2.elim
    · exact h2.elim
  · rename_i k j y
    cases ru_int p2
    split at h2
    · rename_i xs e
      split at h2
      · rename_i n en
        obtain ⟨p, e1, rfl⟩ := f2.ru p1
        obtain ⟨q, vs, a, b, c⟩ := rl2.ob k xs e
        rw [e1] at a; cases a
        refine ⟨p, vs, j, n, rfl, rfl, b, by rw [c.len, ixN_eq]; exact en, ?_⟩
        obtain ⟨f3, rl3⟩ := put_own rl2 e e1 (c.set n r2)
        exact h2 σ _ β2 f3 rl3 ⟨f3.rloc re2.lo, rfl, fun _ _ => rfl⟩
      · exact h2.elim
    · exact h2.elim
  · exact h2.elim
def whileN (c : MB) (b : MS) : Nat → Loc → Sto → Out
  | 0, _, _ => .no
  | n + 1, l, st => (c l st).out l fun k st => if k = true then (match b l st with
      | .nx l st => whileN c b n l st
      | .ct l st => whileN c b n l st
      | .bk l st => .nx l st
      | o => o) else .nx l st
theorem whileN_succ {c : MB} {b : MS} : ∀ {n : Nat} {l : Loc} {st : Sto}, whileN c b n l st ≠ .no → whileN c b (n + 1) l st = whileN c b n l st
  | 0, _, _, h => absurd rfl h
  | n + 1, l, st, h => by
    rw [whileN]
    conv => rhs; rw [whileN]
    rw [whileN] at h
    cases e : c l st with
    | ok k s =>
      rw [e] at h
      simp only [Res.out] at h ⊢
      split
      · rename_i hk
        rw [if_pos hk] at h
        cases e2 : b l s with
        | nx l2 s2 => rw [e2] at h; exact whileN_succ h
        | ct l2 s2 => rw [e2] at h; exact whileN_succ h
        | bk l2 s2 => rfl
        | rt u s2 => rfl
        | ex x l2 s2 => rfl
        | no => rfl
      · rfl
    | ex x s => rfl
    | no => rfl
theorem whileN_le {c : MB} {b : MS} {n m : Nat} {l : Loc} {st : Sto} (h : whileN c b n l st ≠ .no) (hm : n ≤ m) : whileN c b m l st = whileN c b n l st := by
  obtain ⟨k, rfl⟩ := Nat.le.dest hm
  induction k with
  | zero => rfl
  | succ k ih =>
    have e := ih (by omega)
    have h2 : whileN c b (n + k) l st ≠ .no := by rw [e]; exact h
    exact (whileN_succ h2).trans e
open Classical in
noncomputable def sWhile (c : MB) (b : MS) : MS := fun l st => if h : ∃ n, whileN c b n l st ≠ .no then whileN c b h.choose l st else .no
theorem sWhile_of {c : MB} {b : MS} {l : Loc} {st : Sto} {o : Out} (n : Nat) (h : whileN c b n l st = o) (hn : o ≠ .no) : sWhile c b l st = o := by
  have hx : ∃ n, whileN c b n l st ≠ .no := ⟨n, by rw [h]; exact hn⟩
  unfold sWhile
  rw [dif_pos hx]
  have h1 := hx.choose_spec
  rcases Nat.le_total n hx.choose with z | z
  · rw [whileN_le (by rw [h]; exact hn) z]; exact h
  · rw [← whileN_le h1 z]; exact h
theorem t_while {c : TT} {t : TS} {k : MB} {b : MS} (hc : SimT G c k) (hb : SimS G t b) : SimS G (tWhile c t) (sWhile k b) := fun β H σ l st re D q => by
  unfold sWhile at q
  split at q
  · rename_i hx
    refine ⟨fun m σ' H' => ∃ β' l' st', Re G β' H' σ' l' st' ∧ wpS G β' H' st' (whileN k b m l' st') D, ⟨_, β, l, st, re, q⟩, ?_⟩
    rintro m σ1 H1 ⟨β1, l1, st1, re1, q1⟩
    cases m with
    | zero => exact False.elim q1
    | succ m =>
      rw [whileN] at q1
      refine hc β1 H1 σ1 l1 st1 re1 _ (wpS_res re1 q1 fun x y H2 β2 st2 f2 rl2 p2 q2 => ?_)
      cases (show x = y from p2)
      have re2 := f2.re rl2 re1
      cases x with
      | false => exact wpS_nx re2 q2
      | true =>
        refine ⟨fun σ' H' => ∃ β' l' st', Re G β' H' σ' l' st' ∧ wpS G β' H' st' (whileN k b m l' st') D, fun σ' H' h => ⟨m, Nat.lt_succ_self m, h⟩, ?_⟩
        refine hb β2 H2 σ1 l1 st2 re2 _ ?_
        have q2' : wpS G β2 H2 st2 (match b l1 st2 with
          | .nx l st => whileN k b m l st
          | .ct l st => whileN k b m l st
          | .bk l st => .nx l st
          | o => o) D := q2
        cases e : b l1 st2 with
        | nx l3 s3 => rw [e] at q2'; exact fun σ' H' β' f re' => ⟨β', l3, s3, re', wpS_fut f q2'⟩
        | ct l3 s3 => rw [e] at q2'; exact fun σ' H' β' f re' => ⟨β', l3, s3, re', wpS_fut f q2'⟩
        | bk l3 s3 => rw [e] at q2'; exact q2'
        | rt u s3 => rw [e] at q2'; exact q2'
        | ex x l3 s3 => rw [e] at q2'; exact q2'
        | no => rw [e] at q2'; exact q2'
  · exact q.elim
structure ItD where
  items : List PyData
  own : List (Nat × List PyData)
def ItD.chk (d : ItD) (st : Sto) : Prop := ∀ p ∈ d.own, st.obs[p.1]? = some (Ob.lst p.2)
abbrev MI := Loc → Sto → Res ItD
def Gx.o (G : Gx) (O1 : Addr → Prop) : Gx := { G with O0 := O1 }
def ItR (G : Gx) (β0 : List Addr) (st0 : Sto) (H0 : Hp) (J : It) (d : ItD) : Prop := ∀ O1 : Addr → Prop, (∀ p, O1 p → G.O0 p ∨ H0 p = none) → ∀ β H st, Fut G β0 st0 H0 β st H → Rl (G.o O1) β H st → d.chk st → ∀ i,
  (∀ y, d.items[i]? = some y → J.go i H ∧ ∀ x H', J.yld i H x H' → (H' = H ∨ ∃ T ws, H T = none ∧ H' = upd H T (.tup ws)) ∧ RT G.K (Ban (G.o O1) β st) H' x y) ∧ (d.items.length ≤ i → J.stop i H)
def SimI (G : Gx) (wi : TI) (m : MI) : Prop := ∀ β H σ l st, Re G β H σ l st → ∀ R : It → Hp → Prop, wpR G β H σ st (fun β st H J d => ItR G β st H J d) (m l st) R → wi σ H R
open Classical in
noncomputable def forM (d : ItD) (t : MT) (b : MS) : List PyData → Loc → Sto → Out
  | [], l, st => if d.chk st then .nx l st else .no
  | x :: xs, l, st => if d.chk st then (t (.d x) l st).out l fun l st => (match b l st with
      | .nx l st => forM d t b xs l st
      | .ct l st => forM d t b xs l st
      | .bk l st => .nx l st
      | o => o) else .no
noncomputable def sFor (mi : MI) (t : MT) (b : MS) : MS := fun l st => (mi l st).out l fun d st => forM d t b d.items l st
theorem it_fut (rl : Rl G β H st) (h : H' = H ∨ ∃ T ws, H T = none ∧ H' = upd H T (.tup ws)) : Fut G β st H β st H' ∧ Rl G β H' st := by
  rcases h with rfl | ⟨T, ws, hT, rfl⟩
  · exact ⟨Fut.refl, rl⟩
  · exact ⟨Fut.new hT, rl.new hT⟩
theorem t_for {wi : TI} {g : TG} {t : TS} {vs : List Nat} {mi : MI} {mt : MT} {b : MS} (hi : SimI G wi mi) (hg : SimG G vs g mt) (hb : SimS G t b) : SimS G (tFor wi g t) (sFor mi mt b) := fun β H σ l st re D q => by
  refine hi β H σ l st re _ (wpS_res re q fun J d H1 β1 st1 f1 rl1 itr q1 => ?_)
  have re1 := f1.re rl1 re
  refine ⟨fun i m σ' H' => m = d.items.length - i ∧ ∃ β' l' st', Fut G β1 st1 H1 β' st' H' ∧ Re G β' H' σ' l' st' ∧ wpS G β' H' st' (forM d mt b (d.items.drop i) l' st') D, ⟨_, rfl, β1, l, st1, Fut.refl, re1, q1⟩, ?_⟩
  rintro i m σ2 H2 ⟨rfl, β2, l2, st2, f2, re2, q2⟩
  cases hd : d.items[i]? with
  | none =>
    have hl : d.items.length ≤ i := List.getElem?_eq_none_iff.mp hd
    rw [List.drop_eq_nil_of_le hl, forM] at q2
    split at q2
    · rename_i hk
      exact .inl ⟨(itr G.O0 (fun p h => .inl h) β2 H2 st2 f2 re2.rl hk i).2 hl, wpS_nx re2 q2⟩
    · exact q2.elim
  | some y =>
    obtain ⟨hlt, ey⟩ := List.getElem?_eq_some_iff.mp hd
    rw [List.drop_eq_getElem_cons hlt, ey, forM] at q2
    split at q2
    · rename_i hk
      obtain ⟨hgo, hy⟩ := (itr G.O0 (fun p h => .inl h) β2 H2 st2 f2 re2.rl hk i).1 y hd
      refine .inr ⟨hgo, fun σ' H' => ∃ β' l' st', Fut G β1 st1 H1 β' st' H' ∧ Re G β' H' σ' l' st' ∧ wpS G β' H' st' (forM d mt b (d.items.drop (i + 1)) l' st') D, fun σ' H' h => ⟨_, by omega, rfl, h⟩, fun x H3 hyl => ?_⟩
      obtain ⟨hc, rx⟩ := hy x H3 hyl
      obtain ⟨f3, rl3⟩ := it_fut re2.rl hc
      have re3 := f3.re rl3 re2
      refine hg β2 H3 σ2 l2 st2 re3 x (.d y) rx _ (wpS_res re3 (wpS_fut f3 q2) fun σ4 l4 H4 β4 st4 f4 rl4 p4 q4 => ?_)
      refine hb β4 H4 σ4 l4 st4 ⟨rl4, p4.1⟩ _ ?_
      have q4' : wpS G β4 H4 st4 (match b l4 st4 with
          | .nx l st => forM d mt b (d.items.drop (i + 1)) l st
          | .ct l st => forM d mt b (d.items.drop (i + 1)) l st
          | .bk l st => .nx l st
          | o => o) D := q4
      have ff := f2.trans (f3.trans f4)
      cases e : b l4 st4 with
      | nx l5 s5 => rw [e] at q4'; exact fun σ' H' β' f re' => ⟨β', l5, s5, ff.trans f, re', wpS_fut f q4'⟩
      | ct l5 s5 => rw [e] at q4'; exact fun σ' H' β' f re' => ⟨β', l5, s5, ff.trans f, re', wpS_fut f q4'⟩
      | bk l5 s5 => rw [e] at q4'; exact q4'
      | rt u s5 => rw [e] at q4'; exact q4'
      | ex x l5 s5 => rw [e] at q4'; exact q4'
      | no => rw [e] at q4'; exact q4'
    · exact q2.elim
end
end NW
namespace NW
open PySem PySem.Spec PyProof.Rows L2
section
variable {G : Gx} {β β' : List Addr} {st st' : Sto} {H H' : Hp} {v : V} {u : U} {σ σ' : L2.St} {l l' : Loc} {D : Ends}
theorem ban_o {O1 : Addr → Prop} (hO : ∀ p, O1 p → G.O0 p ∨ H p = none) {p : Addr} (n : ¬ Ban G β st p) (t : H p ≠ none) : ¬ Ban (G.o O1) β st p := by
  rintro (h | h)
  · rcases hO p h with z | z
    · exact n (.inl z)
    · exact t z
  · exact n (.inr h)
theorem rd_ne {H : Hp} {a : Addr} {u : HO} (h : Rd H a u) : H a ≠ none := by
  rcases h with h | ⟨o, h⟩ <;> rw [h] <;> simp
mutual
theorem RT.o {B B' : Addr → Prop} {K : PySem.W.Frag} (k : ∀ p, ¬ B p → H p ≠ none → ¬ B' p) : ∀ (d : PyData) (v : V), RT K B H v d → RT K B' H v d
  | .none, _, h => by cases h; exact .non
  | .bool b, _, h => by cases h; exact .bl b
  | .int i, _, h => by cases h; exact .int i
  | .str x, _, h => by cases h; exact .str x
  | .list ds, _, h => by
    cases h with
    | lst hs ha => exact .lst ⟨hs.1, k _ hs.2 (by rw [hs.1]; simp)⟩ (RTs.o k ds _ ha)
  | .tuple ds, _, h => by
    cases h with
    | tup hs ha => exact .tup (hs.imp (fun z => ⟨z.1, k _ z.2 (rd_ne z.1)⟩) id) (RTs.o k ds _ ha)
  | .dict _, _, h => by cases h
theorem RTs.o {B B' : Addr → Prop} {K : PySem.W.Frag} (k : ∀ p, ¬ B p → H p ≠ none → ¬ B' p) : ∀ (ds : List PyData) (vs : List V), RTs K B H vs ds → RTs K B' H vs ds
  | [], _, h => by cases h; exact .nil
  | d :: ds, _, h => by
    cases h with
    | cons h1 h2 => exact .cons (RT.o k d _ h1) (RTs.o k ds _ h2)
end
theorem fut_o {O1 : Addr → Prop} (f : Fut G β st H β' st' H') : Fut (G.o O1) β st H β' st' H' := ⟨f.ext, f.there, f.stay⟩
def SrcL (G : Gx) (β0 : List Addr) (st0 : Sto) (H0 : Hp) (p : Addr) (own : List (Nat × List PyData)) (xs : List PyData) : Prop := ∀ O1 : Addr → Prop, (∀ p, O1 p → G.O0 p ∨ H0 p = none) → ∀ β H st, Fut G β0 st0 H0 β st H → Rl (G.o O1) β H st →
  (∀ q ∈ own, st.obs[q.1]? = some (Ob.lst q.2)) → ∃ vs, SqL G.K H p vs ∧ RTs G.K (Ban (G.o O1) β st) H vs xs
def SrcT (G : Gx) (β0 : List Addr) (st0 : Sto) (H0 : Hp) (p : Addr) (xs : List PyData) : Prop := ∀ O1 : Addr → Prop, (∀ p, O1 p → G.O0 p ∨ H0 p = none) → ∀ β H st, Fut G β0 st0 H0 β st H → Rl (G.o O1) β H st →
  ∃ vs, SqT G.K H p vs ∧ RTs G.K (Ban (G.o O1) β st) H vs xs
theorem rt_o_fut {O1 : Addr → Prop} (hO : ∀ p, O1 p → G.O0 p ∨ H p = none) (f : Fut G β st H β' st' H') {vs : List V} {xs : List PyData} (r : RTs G.K (Ban G β st) H vs xs) : RTs G.K (Ban (G.o O1) β' st') H' vs xs :=
  (fut_o (O1 := O1) f).rts (RTs.o (B' := Ban (G.o O1) β st) (fun p n t => ban_o hO n t) _ _ r)
def srcOf (st : Sto) : U → Option (List PyData × List (Nat × List PyData))
  | .d (.list xs) => some (xs, [])
  | .d (.tuple xs) => some (xs, [])
  | .ref i => match st.obs[i]? with | some (.lst xs) => some (xs, [(i, xs)]) | _ => none
  | _ => none
theorem src_q (rl : Rl G β H st) (h : RU G β (Ban G β st) H v u) {xs : List PyData} {own : List (Nat × List PyData)} (e : srcOf st u = some (xs, own)) :
    ∃ p, v = .ref p ∧ ((SrcL G β st H p own xs ∧ ∃ vs, SqL G.K H p vs ∧ vs.length = xs.length) ∨ (own = [] ∧ SrcT G β st H p xs ∧ ∃ vs, SqT G.K H p vs ∧ vs.length = xs.length)) := by
  unfold srcOf at e
  split at e
  · cases e
    cases h with
    | lst a b =>
      refine ⟨_, rfl, .inl ⟨fun O1 hO β1 H1 st1 f rl1 _ => ⟨_, ?_, rt_o_fut hO f b⟩, _, a.q, b.len⟩⟩
      have a' : SqLB G.K (Ban (G.o O1) β st) H _ _ := ⟨a.1, ban_o hO a.2 (by rw [a.1]; simp)⟩
      exact (a'.fut (fut_o f)).q
  · cases e
    cases h with
    | tup a b =>
      refine ⟨_, rfl, .inr ⟨rfl, fun O1 hO β1 H1 st1 f rl1 => ⟨_, ?_, rt_o_fut hO f b⟩, _, a.q, b.len⟩⟩
      have a' : SqTB G.K (Ban (G.o O1) β st) H _ _ := a.imp (fun z => ⟨z.1, ban_o hO z.2 (rd_ne z.1)⟩) id
      have z : SqTB G.K (Ban (G.o O1) β1 st1) H1 _ _ := a'.imp (fun z => (fut_o (O1 := O1) f).keep.rd z) id
      exact z.q
  · rename_i i
    split at e
    · rename_i hy
      cases e
      obtain ⟨p, h1, rfl⟩ := h
      refine ⟨p, rfl, .inl ⟨fun O1 hO β1 H1 st1 f rl1 hk => ?_, ?_⟩⟩
      · obtain ⟨q, vs, a, b, c⟩ := rl1.ob i xs (hk (i, xs) (by simp))
        rw [f.get h1] at a; cases a
        exact ⟨vs, SqL.of b, c⟩
      · obtain ⟨q, vs, a, b, c⟩ := rl.ob i _ hy
        rw [h1] at a; cases a
        exact ⟨vs, SqL.of b, c.len⟩
    · cases e
  · cases e
def iAny (K : PySem.W.Frag) (tl : TE) : TI := fun σ H R => tl σ H fun x H1 => ∃ a, x = .ref a ∧ (((∃ xs, SqL K H1 a xs) ∧ R (Itl K a) H1) ∨ ((∃ xs, SqT K H1 a xs) ∧ R (Itt K a) H1))
theorem pi_any {X : Cx} {tg l : Expr} {tl : TE} (hl : PE X l tl) : PI X tg l (iAny X.K tl) := by
  refine ⟨fun pins s σ H R I h => ?_⟩
  refine thn (hl.run pins s σ H _ I h) fun v s1 ⟨x, H1, I1, r1, q1⟩ => ?_
  obtain ⟨a, e, q⟩ := q1
  subst e
  cases r1
  rcases q with ⟨⟨xs, hq⟩, q⟩ | ⟨⟨xs, hq⟩, q⟩
  · obtain ⟨its, rv, p, hz⟩ := I1.list hq
    refine wpAny_pyIter_list p.isList ?_
    refine ⟨s1.heap.objs.size, [s1.heap.objs.size], _, _, H1, rfl, I1.kept (t' := s1.toks) fun b o e => Heap.get?_push_of_some _ e, turn_list a _, ⟨_, Heap.get?_push_size _ rfl, rfl, rfl⟩, fun b hb => ?_, q⟩
    have e : b = s1.heap.objs.size := by simpa using hb
    subst e
    exact I1.fpOk (Nat.le_refl _) (I1.hok.fresh (Nat.le_refl _))
  · obtain ⟨its, rv, p, hz⟩ := I1.tuple hq
    refine wpAny_pyIter_tuple (show s1.heap.IsTuple a its.toArray from p) ?_
    refine ⟨s1.heap.objs.size, [s1.heap.objs.size], _, _, H1, rfl, I1.kept (t' := s1.toks) fun b o e => Heap.get?_push_of_some _ e, turn_tuple a _, ⟨_, Heap.get?_push_size _ rfl, rfl, rfl⟩, fun b hb => ?_, q⟩
    have e : b = s1.heap.objs.size := by simpa using hb
    subst e
    exact I1.fpOk (Nat.le_refl _) (I1.hok.fresh (Nat.le_refl _))
def mAny (m : ME) : MI := fun l st => (m l st).bind fun u st => match srcOf st u with
  | some (xs, own) => .ok ⟨xs, own⟩ st
  | none => .no
theorem itl_r {p : Addr} {own : List (Nat × List PyData)} {xs : List PyData} (s : SrcL G β st H p own xs) : ItR G β st H (Itl G.K p) ⟨xs, own⟩ := fun O1 hO β1 H1 st1 f rl1 hk i => by
  obtain ⟨vs, sq, r⟩ := s O1 hO β1 H1 st1 f rl1 hk
  refine ⟨fun y hy => ?_, fun hi => ⟨vs, sq, by rw [r.len]; exact hi⟩⟩
  obtain ⟨w, hw, rw'⟩ := r.get hy
  refine ⟨⟨vs, w, sq, hw⟩, fun x H' hyl => ?_⟩
  obtain ⟨rfl, hx⟩ := hyl
  have e : w = x := Option.some.inj (hw.symm.trans (hx vs sq))
  subst e
  exact ⟨.inl rfl, rw'⟩
theorem itt_r {p : Addr} {xs : List PyData} (s : SrcT G β st H p xs) : ItR G β st H (Itt G.K p) ⟨xs, []⟩ := fun O1 hO β1 H1 st1 f rl1 hk i => by
  obtain ⟨vs, sq, r⟩ := s O1 hO β1 H1 st1 f rl1
  refine ⟨fun y hy => ?_, fun hi => ⟨vs, sq, by rw [r.len]; exact hi⟩⟩
  obtain ⟨w, hw, rw'⟩ := r.get hy
  refine ⟨⟨vs, w, sq, hw⟩, fun x H' hyl => ?_⟩
  obtain ⟨rfl, hx⟩ := hyl
  have e : w = x := Option.some.inj (hw.symm.trans (hx vs sq))
  subst e
  exact ⟨.inl rfl, rw'⟩
theorem i_any {t : TE} {m : ME} (h : SimE G t m) : SimI G (iAny G.K t) (mAny m) := fun β H σ l st re R q => by
  refine h β H σ l st re _ (wpR_bind q fun v u H1 β1 st1 f1 rl1 p1 h1 => ?_)
  split at h1
  · rename_i xs own e
    obtain ⟨p, rfl, ⟨s, vs, sq, _⟩ | ⟨rfl, s, vs, sq, _⟩⟩ := src_q rl1 p1 e
    · exact ⟨p, rfl, .inl ⟨⟨vs, sq⟩, h1 _ H1 β1 Fut.refl rl1 (itl_r s)⟩⟩
    · exact ⟨p, rfl, .inr ⟨⟨vs, sq⟩, h1 _ H1 β1 Fut.refl rl1 (itt_r s)⟩⟩
  · exact h1.elim
def rangeD (lo c : Int) (n : Nat) : List PyData := (List.range n).map fun i => .int (lo + (i : Nat) * c)
theorem itr_r {lo : Int} {n : Nat} : ItR G β st H (Itr lo n) ⟨rangeD lo 1 n, []⟩ := fun O1 hO β1 H1 st1 f rl1 hk i => by
  refine ⟨fun y hy => ?_, fun hi => (show n ≤ i by simpa [rangeD] using hi)⟩
  have hi : i < n := by
    have := (List.getElem?_eq_some_iff.mp hy).1
    simpa [rangeD] using this
  refine ⟨hi, fun x H' hyl => ?_⟩
  obtain ⟨rfl, rfl⟩ := hyl
  have e : (rangeD lo 1 n)[i]? = some (.int (lo + (i : Nat) * 1)) := by simp [rangeD, hi]
  rw [Int.mul_one] at e
  rw [e] at hy; cases hy
  exact ⟨.inl rfl, .int _⟩
def rOk (i : Int) : Bool := decide (-(2 ^ 62) ≤ i ∧ i < 2 ^ 62)
theorem int1 {vs : List V} {i : Int} (p : PUs G β st H vs [.d (.int i)]) : vs = [.int i] := by
  have p' : Paired (fun v u => RU G β (Ban G β st) H v u) vs [.d (.int i)] := p
  cases p' with
  | cons r q => cases q; cases ru_int r; rfl
theorem int2 {vs : List V} {i j : Int} (p : PUs G β st H vs [.d (.int i), .d (.int j)]) : vs = [.int i, .int j] := by
  have p' : Paired (fun v u => RU G β (Ban G β st) H v u) vs [.d (.int i), .d (.int j)] := p
  cases p' with
  | cons r q =>
    cases q with
    | cons r2 q2 => cases q2; cases ru_int r; cases ru_int r2; rfl
def mR1 (a : MA) : MI := fun l st => (a l st).bind fun us st => match us with
  | [.d (.int j)] => if rOk j = true then .ok ⟨rangeD 0 1 j.toNat, []⟩ st else .no
  | _ => .no
theorem i_r1 {ta : TA} {a : MA} (h : SimA G ta a) : SimI G (iRng1 ta) (mR1 a) := fun β H σ l st re R q => by
  refine h β H σ l st re _ (wpR_bind q fun vs us H1 β1 st1 f1 rl1 p1 h1 => ?_)
  split at h1
  · rename_i j
    split at h1
    · rename_i hr
      have hr' := of_decide_eq_true hr
      exact ⟨j, int1 p1, hr'.1, hr'.2, h1 _ H1 β1 Fut.refl rl1 itr_r⟩
    · exact h1.elim
  · exact h1.elim
def mR2 (a : MA) : MI := fun l st => (a l st).bind fun us st => match us with
  | [.d (.int i), .d (.int j)] => if (rOk i && rOk j) = true then .ok ⟨rangeD i 1 (j - i).toNat, []⟩ st else .no
  | _ => .no
def mRev (m : ME) : MI := fun l st => (m l st).bind fun u st => match srcOf st u with
  | some (xs, own) => .ok ⟨xs.reverse, own⟩ st
  | none => .no
end
end NW
namespace NW
open PySem PySem.Spec PyProof.Rows L2
section
variable {G : Gx} {β β' : List Addr} {st st' : Sto} {H H' : Hp} {v : V} {u : U} {σ σ' : L2.St} {l l' : Loc} {D : Ends}
theorem list_h (rl : Rl G β H st) (h : RU G β (Ban G β st) H v u) {xs : List PyData} (e : listOf st u = some xs) : ∃ p vs, v = .ref p ∧ H p = some (.lst vs) ∧ RTs G.K (Ban G β st) H vs xs := by
  unfold listOf at e
  split at e
  · cases e
    cases h with
    | lst a b => exact ⟨_, _, rfl, a.1, b⟩
  · rename_i i
    split at e
    · rename_i hy
      cases e
      obtain ⟨p, h1, rfl⟩ := h
      obtain ⟨q, vs, a, b, c⟩ := rl.ob i _ hy
      rw [h1] at a; cases a
      exact ⟨p, vs, rfl, b, c⟩
    · cases e
  · cases e
def wipeL (l : Loc) : List Nat → Loc
  | [] => l
  | v :: vs => (wipeL l vs).set v none
theorem wipe_re {B : Addr → Prop} (h : RLoc G β B H σ l) : ∀ vs, RLoc G β B H (wipe σ vs) (wipeL l vs)
  | [] => h
  | i :: vs => by
    have ih := wipe_re h vs
    refine ⟨by unfold wipe wipeL; rw [List.length_set, List.length_set, ih.len], fun j w e => ?_⟩
    unfold wipeL at e
    by_cases hj : j = i
    · subst hj
      have hl : j < (wipeL l vs).length := by
        have := (List.getElem?_eq_some_iff.mp e).1
        rw [List.length_set] at this; exact this
      rw [List.getElem?_set_self hl] at e
      cases e
    · rw [List.getElem?_set_ne (Ne.symm hj)] at e
      unfold wipe
      rw [List.getElem?_set_ne (Ne.symm hj)]
      exact ih.at_ j w e
theorem wipe_get (σ : L2.St) : ∀ (vs : List Nat) (i : Nat), (wipe σ vs)[i]? = if i ∈ vs then (if i < σ.length then some none else none) else σ[i]?
  | [], i => by simp [wipe]
  | v :: vs, i => by
    unfold wipe
    rw [List.getElem?_set]
    have ih := wipe_get σ vs i
    rw [wipe_length]
    by_cases e : v = i
    · subst e; simp
    · rw [if_neg e, ih]
      have e' : ¬ i = v := fun q => e q.symm
      simp [e']
theorem wipe_same {σ1 σ2 : L2.St} {vs ws : List Nat} (hs : ∀ i ∈ ws, i ∈ vs) (hl : σ2.length = σ1.length) (h : ∀ i, i ∉ ws → σ2[i]? = σ1[i]?) : wipe σ2 vs = wipe σ1 vs := by
  apply List.ext_getElem?
  intro i
  rw [wipe_get, wipe_get, hl]
  split
  · rfl
  · rename_i n
    exact h i fun z => n (hs i z)
theorem wipe_idem (σ : L2.St) (vs : List Nat) : wipe (wipe σ vs) vs = wipe σ vs := by
  apply List.ext_getElem?
  intro i
  rw [wipe_get, wipe_get, wipe_length]
  split
  · rfl
  · rfl
def Res.noX {α : Type} (r : Res α) : Res α := match r with
  | .ok a s => .ok a s
  | _ => .no
def Res.isOk {α : Type} (r : Res α) : Prop := ∃ a s, r = .ok a s
theorem noX_bind {α γ : Type} {r : Res α} {k : α → Sto → Res γ} (h : (r.noX.bind k).isOk) : ∃ a s, r = .ok a s ∧ (k a s).isOk := by
  cases r with
  | ok a s => exact ⟨a, s, rfl, h⟩
  | ex e s => obtain ⟨_, _, z⟩ := h; cases z
  | no => obtain ⟨_, _, z⟩ := h; cases z
theorem bind_isOk {α γ : Type} {r : Res α} {k : α → Sto → Res γ} (h : (r.bind k).isOk) : ∃ a s, r = .ok a s ∧ (k a s).isOk := by
  cases r with
  | ok a s => exact ⟨a, s, rfl, h⟩
  | ex e s => obtain ⟨_, _, z⟩ := h; cases z
  | no => obtain ⟨_, _, z⟩ := h; cases z
theorem wpR_isOk {α γ : Type} {P : List Addr → Sto → Hp → γ → α → Prop} {r : Res α} {a : α} {Q : γ → Hp → Prop} (e : r = .ok a st') (h : ∀ v H' β', Fut G β st H β' st' H' → Rl G β' H' st' → P β' st' H' v a → Q v H') : wpR G β H σ st P r Q := by
  subst e; exact h
open Classical in
noncomputable def lcM (d : ItD) (vs : List Nat) (t : MT) (c : MB) (m : ME) (l : Loc) : List PyData → Sto → Res (List PyData)
  | [], st => if d.chk st then .ok [] st else .no
  | x :: xs, st => if d.chk st then (t (.d x) (wipeL l vs) st).noX.bind fun l1 st => (c l1 st).noX.bind fun b st => if b = true then (m l1 st).noX.bind fun u st => (match u with
      | .d y => (lcM d vs t c m l xs st).bind fun ys st => .ok (y :: ys) st
      | _ => .no) else lcM d vs t c m l xs st else .no
noncomputable def lLc (mi : MI) (vs : List Nat) (t : MT) (c : MB) (m : ME) : ML := fun l st => (mi l st).bind fun d st => if lenOk d.items.length = true then lcM d vs t c m l d.items st else .no
theorem lcM_noEx {d : ItD} {vs : List Nat} {t : MT} {c : MB} {m : ME} {l : Loc} : ∀ (xs : List PyData) (st : Sto), (lcM d vs t c m l xs st).noEx
  | [], st => by unfold lcM; split <;> trivial
  | x :: xs, st => by
    unfold lcM
    split
    · cases e1 : t (.d x) (wipeL l vs) st with
      | ok l1 s1 =>
        show ((c l1 s1).noX.bind _).noEx
        cases e2 : c l1 s1 with
        | ok b s2 =>
          show (if b = true then _ else _ : Res (List PyData)).noEx
          cases b with
          | true =>
            rw [if_pos rfl]
            cases e3 : m l1 s2 with
            | ok u s3 =>
              cases u with
              | d y =>
                show ((lcM d vs t c m l xs s3).bind _).noEx
                have ih := lcM_noEx (d := d) (vs := vs) (t := t) (c := c) (m := m) (l := l) xs s3
                cases e4 : lcM d vs t c m l xs s3 with
                | ok ys s4 => trivial
                | ex e s4 => rw [e4] at ih; exact ih
                | no => trivial
              | _ => trivial
            | ex e s3 => trivial
            | no => trivial
          | false =>
            rw [if_neg Bool.false_ne_true]
            exact lcM_noEx xs s2
        | ex e s2 => trivial
        | no => trivial
      | ex e s1 => trivial
      | no => trivial
    · trivial
theorem Rl.ban (rl : Rl G β H st) {D : Addr} {o : HO} (hD : H D = none) (ho : ∀ vs, ¬ Rd (upd H D o) D (.tup vs)) : Rl (G.ban D) β (upd H D o) st := by
  have f : Fut G β st H β st (upd H D o) := Fut.new hD
  have kk : Keep (Ban G β st) H (Ban (G.ban D) β st) (upd H D o) := fun b x hb n => by
    have hne : b ≠ D := ne_of_none hb hD
    refine ⟨by rw [upd_ne hne]; exact hb, ?_⟩
    rintro ((h | h) | h)
    · exact n (.inl h)
    · exact hne h
    · exact n (.inr h)
  refine ⟨rl.len, rl.nodup, fun q hq => f.there q (rl.trk q hq), fun i xs h nd => ?_, fun g hg => ?_, fun q hq => ?_⟩
  · obtain ⟨q, vs, a, b, c⟩ := rl.oo i xs h nd
    exact ⟨q, vs, a, by rw [upd_ne (ne_of_none b hD)]; exact b, c.imp fun ds vs z => RTs.mono kk ds vs z⟩
  · obtain ⟨⟨a, b⟩, c⟩ := rl.flo g hg
    exact ⟨⟨by show upd H D o G.fa = _; rw [upd_ne (ne_of_none a hD)]; exact a, kk _ _ b.1 b.2⟩, c⟩
  · rcases hq with hq | hq
    · exact rl.o0_fut f q hq (rl.o0 q hq).2.1
    · subst hq
      exact ⟨by rw [upd_same]; simp, fun w => rl.notBan hD (.inr w), ho⟩
theorem RLoc.ban (h : RLoc G β (Ban G β st) H σ l) {D : Addr} {o : HO} (hD : H D = none) : RLoc (G.ban D) β (Ban (G.ban D) β st) (upd H D o) σ l := by
  have kk : Keep (Ban G β st) H (Ban (G.ban D) β st) (upd H D o) := fun b x hb n => by
    have hne : b ≠ D := ne_of_none hb hD
    refine ⟨by rw [upd_ne hne]; exact hb, ?_⟩
    rintro ((h | h) | h)
    · exact n (.inl h)
    · exact hne h
    · exact n (.inr h)
  refine ⟨h.len, fun i w e => ?_⟩
  obtain ⟨v, h1, h2⟩ := h.at_ i w e
  refine ⟨v, h1, ?_⟩
  cases w with
  | d x => exact RT.mono kk x v h2
  | ref i => exact h2
  | flow => exact h2
  | scr ns =>
    obtain ⟨p, z1, z2⟩ := h2
    exact ⟨p, z1, z2.imp (fun z => kk.rd z) id⟩
  | dct es =>
    obtain ⟨p, o, kvs, z1, z2, z3, z4⟩ := h2
    exact ⟨p, o, kvs, z1, kk _ _ z2.1 z2.2, z3, RTs.mono kk _ _ z4⟩
def cutH (H : Hp) (D : Addr) : Hp := fun b => if b = D then none else H b
theorem cutH_upd {D : Addr} {o : HO} (h : H D = some o) : upd (cutH H D) D o = H := by
  funext b
  unfold upd cutH
  split
  · rename_i e; subst e; exact h.symm
  · rfl
theorem cutH_ne {D b : Addr} (h : b ≠ D) : cutH H D b = H b := by unfold cutH; rw [if_neg h]
theorem cut_keep {D : Addr} : Keep (Ban (G.ban D) β st) H (Ban G β st) (cutH H D) := fun b o h n => by
  have e : b ≠ D := fun e => n (.inl (.inr e))
  exact ⟨by rw [cutH_ne e]; exact h, fun w => n (w.imp .inl id)⟩
theorem Rl.unban {D : Addr} (rl : Rl (G.ban D) β H st) (hb : D ∉ β) (hO : ¬ G.O0 D) : Rl G β (cutH H D) st := by
  have nD : ¬ Own G β st D := (rl.o0 D (.inr rfl)).2.1
  have ne : ∀ q ∈ β, q ≠ D := fun q hq e => hb (e ▸ hq)
  refine ⟨rl.len, rl.nodup, fun q hq => by rw [cutH_ne (ne q hq)]; exact rl.trk q hq, fun i xs h nd => ?_, fun g hg => ?_, fun q hq => ?_⟩
  · obtain ⟨q, vs, a, b, c⟩ := rl.oo i xs h nd
    exact ⟨q, vs, a, by rw [cutH_ne (ne q (List.mem_of_getElem? a))]; exact b, c.imp fun ds vs z => RTs.mono cut_keep ds vs z⟩
  · obtain ⟨⟨a, b⟩, c⟩ := rl.flo g hg
    have n1 : G.fa ≠ D := fun e => nD (.inl ⟨by rw [hg]; rfl, e.symm⟩)
    exact ⟨⟨by show cutH H D G.fa = _; rw [cutH_ne n1]; exact a, cut_keep _ _ b.1 b.2⟩, c⟩
  · obtain ⟨a, b, c⟩ := rl.o0 q (.inl hq)
    by_cases e : q = D
    · subst e; exact absurd hq hO
    · refine ⟨by rw [cutH_ne e]; exact a, b, fun vs h => c vs ?_⟩
      unfold Rd at h ⊢
      rw [cutH_ne e] at h; exact h
theorem Fut.ban {D : Addr} : Fut (G.ban D) β st H β' st' H' ↔ Fut G β st H β' st' H' := ⟨fun f => ⟨f.ext, f.there, f.stay⟩, fun f => ⟨f.ext, f.there, f.stay⟩⟩
theorem grow {D : Addr} {H0 : Hp} (f : Fut G β st H0 β' st' H) (hD0 : H0 D = none) (rl : Rl (G.ban D) β' H st') {o o' : HO} (hD : H D = some o) (ho : ∀ vs, ¬ Rd (upd H D o') D (.tup vs)) :
    Fut G β st H0 β' st' (upd H D o') ∧ Rl (G.ban D) β' (upd H D o') st' ∧ Keep (Ban (G.ban D) β' st') H (Ban (G.ban D) β' st') (upd H D o') := by
  have nD : ¬ Own G β' st' D := (rl.o0 D (.inr rfl)).2.1
  have kk : Keep (Ban (G.ban D) β' st') H (Ban (G.ban D) β' st') (upd H D o') := fun b x hb n => by
    have e : b ≠ D := fun e => n (.inl (.inr e))
    exact ⟨by rw [upd_ne e]; exact hb, n⟩
  have nb : ∀ q (xs : Ob), (∃ i : Nat, st'.obs[i]? = some xs ∧ xs ≠ Ob.dead ∧ β'[i]? = some q) → q ≠ D := fun q xs ⟨i, h1, nd, h2⟩ e => nD (.inr ⟨i, xs, h1, nd, e ▸ h2⟩)
  refine ⟨⟨f.ext, fun b hb => ?_, fun b x hb n => ?_⟩, ⟨rl.len, rl.nodup, fun q hq => ?_, fun i xs h nd => ?_, fun g hg => ?_, fun q hq => ?_⟩, kk⟩
  · by_cases e : b = D
    · rw [e, upd_same]; simp
    · rw [upd_ne e]; exact f.there b hb
  · have e : b ≠ D := ne_of_none hb hD0
    have z := f.stay b x hb n
    exact ⟨by rw [upd_ne e]; exact z.1, z.2⟩
  · by_cases e : q = D
    · rw [e, upd_same]; simp
    · rw [upd_ne e]; exact rl.trk q hq
  · obtain ⟨q, vs, a, b, c⟩ := rl.oo i xs h nd
    exact ⟨q, vs, a, by rw [upd_ne (nb q xs ⟨i, h, nd, a⟩)]; exact b, c.imp fun ds vs z => RTs.mono kk ds vs z⟩
  · obtain ⟨⟨a, b⟩, c⟩ := rl.flo g hg
    have n1 : G.fa ≠ D := fun e => nD (.inl ⟨by rw [hg]; rfl, e.symm⟩)
    exact ⟨⟨by show upd H D o' G.fa = _; rw [upd_ne n1]; exact a, kk _ _ b.1 b.2⟩, c⟩
  · obtain ⟨a, b, c⟩ := rl.o0 q hq
    by_cases e : q = D
    · subst e
      exact ⟨by rw [upd_same]; simp, b, ho⟩
    · refine ⟨by rw [upd_ne e]; exact a, b, fun vs h => c vs ?_⟩
      unfold Rd at h ⊢
      rw [upd_ne e] at h; exact h
theorem Fut.notin {D : Addr} (f : Fut G β st H β' st' H') (h : D ∉ β) (t : H D ≠ none) : D ∉ β' := fun z => by
  obtain ⟨γ, rfl, h1⟩ := f.ext
  rcases List.mem_append.mp z with z | z
  · exact h z
  · exact t (h1 D z)
theorem no_tup {D : Addr} {xs : List V} (vs : List V) : ¬ Rd (upd H D (.lst xs)) D (.tup vs) := by
  rintro (h | ⟨o, h⟩) <;> (rw [upd_same] at h; cases h)
theorem n_lc {wi : TI} {g : TG} {tt : TT} {te : TE} {vs ws : List Nat} {mi : MI} {mt : MT} {c : MB} {m : ME} (hi : SimI G wi mi) (hg : ∀ D, SimG (G.ban D) ws g mt) (hsub : ∀ i ∈ ws, i ∈ vs)
    (hc : ∀ D, SimT (G.ban D) tt c) (he : ∀ D, SimE (G.ban D) te m) : SimN G (tLc wi g tt te vs) (lLc mi vs mt c m) := fun β H σ l st re Q q => by
  refine hi β H σ l st re _ (wpN_bind q fun J d H1 β1 st1 f1 rl1 itr q1 => ?_)
  have re1 := f1.re rl1 re
  intro D hD
  split at q1
  · rename_i hlen
    have hlen' : d.items.length ≤ sizeLine := of_decide_eq_true hlen
    cases eM : lcM d vs mt c m l d.items st1 with
    | no => rw [eM] at q1; exact q1.elim
    | ex e s => have z := lcM_noEx (d := d) (vs := vs) (t := mt) (c := c) (m := m) (l := l) d.items st1; rw [eM] at z; exact z.elim
    | ok ysE stE =>
      rw [eM] at q1
      have nO : ¬ G.O0 D := fun z => (rl1.o0 D z).1 hD
      have fD : Fut G β1 st1 H1 β1 st1 (upd H1 D (.lst [])) := Fut.new hD
      refine ⟨fun i mm H2 => mm = d.items.length - i ∧ ∃ β2 st2 acc ds ys, Fut G β1 st1 H1 β2 st2 H2 ∧ D ∉ β2 ∧ Rl (G.ban D) β2 H2 st2 ∧ RLoc (G.ban D) β2 (Ban (G.ban D) β2 st2) H2 σ l ∧ H2 D = some (.lst acc) ∧ RTs G.K (Ban (G.ban D) β2 st2) H2 acc ds ∧ ds.length ≤ i ∧ lcM d vs mt c m l (d.items.drop i) st2 = .ok ys stE ∧ ds ++ ys = ysE,
        ⟨_, rfl, β1, st1, [], [], ysE, fD, fun z => rl1.trk D z hD, rl1.ban hD no_tup, re1.lo.ban hD, upd_same, .nil, Nat.le_refl _, eM, rfl⟩, ?_⟩
      rintro i mm H2 ⟨rfl, β2, st2, acc, ds, ys, f2, hb, rl2, lo2, hDa, ra, hdl, eR, eY⟩
      have itr' := itr (fun p => G.O0 p ∨ p = D) (fun p h => h.elim .inl fun z => .inr (by rw [z]; exact hD)) β2 H2 st2 f2 rl2
      cases hd : d.items[i]? with
      | none =>
        have hl : d.items.length ≤ i := List.getElem?_eq_none_iff.mp hd
        rw [List.drop_eq_nil_of_le hl, lcM] at eR
        split at eR
        · rename_i hk
          refine .inl ⟨(itr' hk i).2 hl, ?_⟩
          cases eR
          rw [List.append_nil] at eY; subst eY
          have f3 : Fut G β1 st1 H1 β2 stE (cutH H2 D) := by
            refine ⟨f2.ext, fun b hb' => ?_, fun b x hb' n => ?_⟩
            · have e : b ≠ D := fun e => hb' (e ▸ hD)
              rw [cutH_ne e]; exact f2.there b hb'
            · have e : b ≠ D := ne_of_none hb' hD
              have z := f2.stay b x hb' n
              exact ⟨by rw [cutH_ne e]; exact z.1, z.2⟩
          have z := q1 (cutH H2 D) β2 f3 (rl2.unban hb nO) D acc (by unfold cutH; rw [if_pos rfl]) (RTs.mono cut_keep _ _ ra)
          rw [cutH_upd hDa] at z
          exact z
        · cases eR
      | some y =>
        obtain ⟨hlt, ey⟩ := List.getElem?_eq_some_iff.mp hd
        rw [List.drop_eq_getElem_cons hlt, ey, lcM] at eR
        split at eR
        · rename_i hk
          obtain ⟨hgo, hy⟩ := (itr' hk i).1 y hd
          refine .inr ⟨hgo, fun H3 => ∃ β2 st2 acc ds ys, Fut G β1 st1 H1 β2 st2 H3 ∧ D ∉ β2 ∧ Rl (G.ban D) β2 H3 st2 ∧ RLoc (G.ban D) β2 (Ban (G.ban D) β2 st2) H3 σ l ∧ H3 D = some (.lst acc) ∧ RTs G.K (Ban (G.ban D) β2 st2) H3 acc ds ∧ ds.length ≤ i + 1 ∧ lcM d vs mt c m l (d.items.drop (i + 1)) st2 = .ok ys stE ∧ ds ++ ys = ysE, fun H3 h => ⟨_, by omega, rfl, h⟩, fun x H3 hyl => ?_⟩
          obtain ⟨hcH, rx⟩ := hy x H3 hyl
          obtain ⟨f3, rl3⟩ := it_fut rl2 hcH
          have lo3 := f3.rloc lo2
          obtain ⟨l1, s1, e1, ok1⟩ := noX_bind (r := mt (.d y) (wipeL l vs) st2) ⟨ys, stE, eR⟩
          rw [e1] at eR
          refine hg D β2 H3 (wipe σ vs) (wipeL l vs) st2 ⟨rl3, wipe_re lo3 vs⟩ x (.d y) rx _ (wpR_isOk e1 fun σ4 H4 β4 f4 rl4 p4 => ?_)
          refine ⟨(wipe_same hsub p4.2.1 p4.2.2).trans (wipe_idem σ vs), ?_⟩
          have eR1 : ((c l1 s1).noX.bind fun b st => if b = true then (m l1 st).noX.bind fun u st => (match u with
              | .d y => (lcM d vs mt c m l (d.items.drop (i + 1)) st).bind fun ys st => .ok (y :: ys) st
              | _ => .no) else lcM d vs mt c m l (d.items.drop (i + 1)) st) = .ok ys stE := eR
          obtain ⟨b, s2, e2, ok2⟩ := noX_bind (r := c l1 s1) ⟨ys, stE, eR1⟩
          rw [e2] at eR1
          refine hc D β4 H4 σ4 l1 s1 ⟨rl4, p4.1⟩ _ (wpR_isOk e2 fun b' H5 β5 f5 rl5 p5 => ?_)
          cases (show b' = b from p5)
          have ff5 : Fut (G.ban D) β2 st2 H2 β5 s2 H5 := (f3.trans f4).trans f5
          have hD5 : H5 D = some (.lst acc) := (ff5.stay D _ hDa (rl2.o0 D (.inr rfl)).2.1).1
          have eR2 : (if b = true then (m l1 s2).noX.bind fun u st => (match u with
              | .d y => (lcM d vs mt c m l (d.items.drop (i + 1)) st).bind fun ys st => .ok (y :: ys) st
              | _ => .no) else lcM d vs mt c m l (d.items.drop (i + 1)) s2) = .ok ys stE := eR1
          cases b with
          | false =>
            rw [if_neg Bool.false_ne_true] at eR2
            show (if false = true then _ else _)
            rw [if_neg Bool.false_ne_true]
            exact ⟨β5, s2, acc, ds, ys, f2.trans (Fut.ban.mp ff5), ff5.notin hb (by rw [hDa]; simp), rl5, ff5.rloc lo2, hD5, ff5.rts ra, by omega, eR2, eY⟩
          | true =>
            rw [if_pos rfl] at eR2
            show (if true = true then _ else _)
            rw [if_pos rfl]
            obtain ⟨w, s3, e3, ok3⟩ := noX_bind (r := m l1 s2) ⟨ys, stE, eR2⟩
            rw [e3] at eR2
            refine he D β5 H5 σ4 l1 s2 ⟨rl5, f5.rloc p4.1⟩ _ (wpR_isOk e3 fun yv H6 β6 f6 rl6 p6 => ?_)
            have ff6 : Fut (G.ban D) β2 st2 H2 β6 s3 H6 := ff5.trans f6
            have hD6 : H6 D = some (.lst acc) := (ff6.stay D _ hDa (rl2.o0 D (.inr rfl)).2.1).1
            cases w with
            | d z =>
              have eR3 : ((lcM d vs mt c m l (d.items.drop (i + 1)) s3).bind fun ys st => .ok (z :: ys) st) = .ok ys stE := eR2
              obtain ⟨ys', s4, e4, _⟩ := bind_isOk (r := lcM d vs mt c m l (d.items.drop (i + 1)) s3) ⟨ys, stE, eR3⟩
              rw [e4] at eR3
              cases eR3
              have ra6 := ff6.rts ra
              refine ⟨acc, hD6, by rw [ra.len]; omega, ?_⟩
              obtain ⟨f7, rl7, k7⟩ := grow (o' := .lst (acc ++ [yv])) (f2.trans (Fut.ban.mp ff6)) hD rl6 hD6 no_tup
              refine ⟨β6, s3, acc ++ [yv], ds ++ [z], ys', f7, ff6.notin hb (by rw [hDa]; simp), rl7, ?_, upd_same, ?_, by simp; omega, e4, by rw [List.append_assoc]; exact eY⟩
              · have lo6 := ff6.rloc lo2
                refine ⟨lo6.len, fun j w e => ?_⟩
                obtain ⟨v, h1, h2⟩ := lo6.at_ j w e
                refine ⟨v, h1, ?_⟩
                cases w with
                | d x => exact RT.mono k7 x v h2
                | ref i => exact h2
                | flow => exact h2
                | scr ns =>
                  obtain ⟨p, z1, z2⟩ := h2
                  exact ⟨p, z1, z2.imp (fun z => k7.rd z) id⟩
                | dct es =>
                  obtain ⟨p, o, kvs, z1, z2, z3, z4⟩ := h2
                  exact ⟨p, o, kvs, z1, k7 _ _ z2.1 z2.2, z3, RTs.mono k7 _ _ z4⟩
              · exact (RTs.mono k7 _ _ ra6).append (.cons (RT.mono k7 z yv p6) .nil)
            | ref k => cases eR2
            | flow => cases eR2
            | scr k => cases eR2
            | dct k => cases eR2
        · cases eR
  · exact q1.elim
end
end NW
namespace NW
open PySem PySem.Spec PyProof.Rows L2
section
variable {G : Gx} {β β' : List Addr} {st st' : Sto} {H H' : Hp} {v : V} {u : U} {σ σ' : L2.St} {l l' : Loc} {D : Ends}
def SimC (G : Gx) (r : List V → Hp → VK → Prop) (f : List U → Sto → Res U) : Prop := ∀ β H σ l st, Re G β H σ l st → ∀ xs us Q, PUs G β st H xs us → wpR G β H σ st (PU G) (f us st) Q → r xs H Q
def SimCN (G : Gx) (r : List V → Hp → VK → Prop) (f : List U → Sto → Res (List PyData)) : Prop := ∀ β H σ l st, Re G β H σ l st → ∀ xs us Q, PUs G β st H xs us → wpN G β H σ st (f us st) Q → r xs H Q
def eCB (f : List U → Sto → Res U) (a : MA) : ME := fun l st => (a l st).bind f
def lCB (f : List U → Sto → Res (List PyData)) (a : MA) : ML := fun l st => (a l st).bind f
theorem s_cb {r : List V → Hp → VK → Prop} {f : List U → Sto → Res U} {ta : TA} {a : MA} (hr : SimC G r f) (ha : SimA G ta a) : SimE G (tCB r ta) (eCB f a) := fun β H σ l st re Q h =>
  ha β H σ l st re _ (wpR_bind h fun vs us H1 β1 st1 f1 rl1 p1 h1 => hr β1 H1 σ l st1 (f1.re rl1 re) vs us Q p1 h1)
theorem n_cb {r : List V → Hp → VK → Prop} {f : List U → Sto → Res (List PyData)} {ta : TA} {a : MA} (hr : SimCN G r f) (ha : SimA G ta a) : SimN G (tCB r ta) (lCB f a) := fun β H σ l st re Q h =>
  ha β H σ l st re _ (wpN_bind h fun vs us H1 β1 st1 f1 rl1 p1 h1 => hr β1 H1 σ l st1 (f1.re rl1 re) vs us Q p1 h1)
theorem one_u {vs : List V} {u : U} (p : PUs G β st H vs [u]) : ∃ v, vs = [v] ∧ RU G β (Ban G β st) H v u := by
  have p' : Paired (fun v u => RU G β (Ban G β st) H v u) vs [u] := p
  cases p' with
  | cons r q => cases q; exact ⟨_, rfl, r⟩
def cLen : List U → Sto → Res U := fun us st => match us with
  | [.scr ns] => .ok (.d (.int ns.length)) st
  | [.d (.str z)] => if lenOk z.length = true then .ok (.d (.int z.length)) st else .no
  | [u] => (match seqOf st u with
    | some xs => .ok (.d (.int xs.length)) st
    | none => .no)
  | _ => .no
theorem c_len : SimC G (fun xs H Q => ∃ x n, xs = [x] ∧ LenV G.K x H n ∧ Q (.int n) H) cLen := fun β H σ l st re xs us Q p h => by
  unfold cLen at h
  split at h
  · rename_i ns
    obtain ⟨v, rfl, r⟩ := one_u p
    obtain ⟨q, rfl, s⟩ := r
    exact ⟨_, (ns.map V.int).length, rfl, .inl ⟨_, s.q, rfl⟩, by rw [List.length_map]; exact wpR_d re.rl (.int _) h⟩
  · rename_i z
    obtain ⟨v, rfl, r⟩ := one_u p
    cases ru_str r
    split at h
    · rename_i q
      exact ⟨_, z.length, rfl, ⟨of_decide_eq_true q, rfl⟩, wpR_d re.rl (.int _) h⟩
    · exact h.elim
  · obtain ⟨v, rfl, r⟩ := one_u p
    split at h
    · rename_i xs e
      obtain ⟨q, vs, rfl, s, r'⟩ := seq_q re.rl r e
      refine ⟨_, vs.length, rfl, ?_, ?_⟩
      · rcases s with s | s
        · exact .inl ⟨vs, s, rfl⟩
        · exact .inr ⟨vs, s, rfl⟩
      · rw [r'.len]; exact wpR_d re.rl (.int _) h
    · exact h.elim
  · exact h.elim
def cAbs : List U → Sto → Res U := fun us st => match us with
  | [.d (.int i)] => .ok (.d (.int (if i < 0 then -i else i))) st
  | _ => .no
theorem c_abs : SimC G (fun xs H Q => ∃ i, xs = [.int i] ∧ Q (.int (if i < 0 then -i else i)) H) cAbs := fun β H σ l st re xs us Q p h => by
  unfold cAbs at h
  split at h
  · exact ⟨_, int1 p, wpR_d re.rl (.int _) h⟩
  · exact h.elim
def cInt : List U → Sto → Res U := fun us st => match us with
  | [.d (.int i)] => .ok (.d (.int i)) st
  | [.d (.bool k)] => .ok (.d (.int (if k then 1 else 0))) st
  | _ => .no
theorem c_int : SimC G (fun xs H Q => (∃ i, xs = [.int i] ∧ Q (.int i) H) ∨ ∃ k, xs = [.bl k] ∧ Q (.int (if k then 1 else 0)) H) cInt := fun β H σ l st re xs us Q p h => by
  unfold cInt at h
  split at h
  · exact .inl ⟨_, int1 p, wpR_d re.rl (.int _) h⟩
  · obtain ⟨v, rfl, r⟩ := one_u p
    cases ru_bool r
    exact .inr ⟨_, rfl, wpR_d re.rl (.int _) h⟩
  · exact h.elim
def cMax2 : List U → Sto → Res U := fun us st => match us with
  | [.d (.int i), .d (.int j)] => .ok (.d (.int (if j > i then j else i))) st
  | _ => .no
theorem c_max2 : SimC G (fun xs H Q => ∃ i j, xs = [.int i, .int j] ∧ Q (.int (if j > i then j else i)) H) cMax2 := fun β H σ l st re xs us Q p h => by
  unfold cMax2 at h
  split at h
  · exact ⟨_, _, int2 p, wpR_d re.rl (.int _) h⟩
  · exact h.elim
def cMin2 : List U → Sto → Res U := fun us st => match us with
  | [.d (.int i), .d (.int j)] => .ok (.d (.int (if j < i then j else i))) st
  | _ => .no
def intsOf : List PyData → Option (List Int)
  | [] => some []
  | .int i :: r => (intsOf r).map (i :: ·)
  | _ :: _ => none
def boolsOf : List PyData → Option (List Bool)
  | [] => some []
  | .bool i :: r => (boolsOf r).map (i :: ·)
  | _ :: _ => none
theorem intsOf_eq : ∀ {xs : List PyData} {ns : List Int}, intsOf xs = some ns → xs = ns.map PyData.int
  | [], ns, h => by cases h; rfl
  | .int i :: r, ns, h => by
    have h' : (intsOf r).map (i :: ·) = some ns := h
    cases e : intsOf r with
    | none => rw [e] at h'; cases h'
    | some ms => rw [e] at h'; cases h'; rw [intsOf_eq e]; rfl
  | .none :: _, _, h => by cases h
  | .bool _ :: _, _, h => by cases h
  | .str _ :: _, _, h => by cases h
  | .list _ :: _, _, h => by cases h
  | .tuple _ :: _, _, h => by cases h
  | .dict _ :: _, _, h => by cases h
theorem boolsOf_eq : ∀ {xs : List PyData} {ns : List Bool}, boolsOf xs = some ns → xs = ns.map PyData.bool
  | [], ns, h => by cases h; rfl
  | .bool i :: r, ns, h => by
    have h' : (boolsOf r).map (i :: ·) = some ns := h
    cases e : boolsOf r with
    | none => rw [e] at h'; cases h'
    | some ms => rw [e] at h'; cases h'; rw [boolsOf_eq e]; rfl
  | .none :: _, _, h => by cases h
  | .int _ :: _, _, h => by cases h
  | .str _ :: _, _, h => by cases h
  | .list _ :: _, _, h => by cases h
  | .tuple _ :: _, _, h => by cases h
  | .dict _ :: _, _, h => by cases h
@[simp] theorem intsOf_map : ∀ (ns : List Int), intsOf (ns.map PyData.int) = some ns
  | [] => rfl
  | n :: ns => by show (intsOf (ns.map PyData.int)).map (n :: ·) = _; rw [intsOf_map ns]; rfl
@[simp] theorem boolsOf_map : ∀ (ns : List Bool), boolsOf (ns.map PyData.bool) = some ns
  | [] => rfl
  | n :: ns => by show (boolsOf (ns.map PyData.bool)).map (n :: ·) = _; rw [boolsOf_map ns]; rfl
def cInts (f : List Int → Option PyData) : List U → Sto → Res U := fun us st => match us with
  | [u] => (match (listOf st u).bind intsOf with
    | some ns => (match f ns with
      | some x => .ok (.d x) st
      | none => .no)
    | none => .no)
  | _ => .no
def maxI : List Int → Option Int
  | [] => none
  | x :: xs => some (xs.foldl (fun a b => if b > a then b else a) x)
def minI : List Int → Option Int
  | [] => none
  | x :: xs => some (xs.foldl (fun a b => if b < a then b else a) x)
theorem foldl_max (xs : List Int) : ∀ a, a ≤ xs.foldl (fun a b => if b > a then b else a) a ∧ ∀ y ∈ xs, y ≤ xs.foldl (fun a b => if b > a then b else a) a := by
  induction xs with
  | nil => intro a; simp
  | cons x xs ih =>
    intro a
    obtain ⟨h1, h2⟩ := ih (if x > a then x else a)
    rw [List.foldl_cons]
    have h3 : a ≤ (if x > a then x else a) ∧ x ≤ (if x > a then x else a) := by split <;> omega
    refine ⟨by omega, fun y hy => ?_⟩
    rcases List.mem_cons.mp hy with rfl | hy
    · omega
    · exact h2 y hy
theorem foldl_max_mem (xs : List Int) : ∀ a, xs.foldl (fun a b => if b > a then b else a) a = a ∨ xs.foldl (fun a b => if b > a then b else a) a ∈ xs := by
  induction xs with
  | nil => intro a; simp
  | cons x xs ih =>
    intro a
    rw [List.foldl_cons]
    rcases ih (if x > a then x else a) with h | h
    · rw [h]; split
      · right; simp
      · left; rfl
    · right; simp [h]
def cMaxL : List U → Sto → Res U := cInts fun ns => (maxI ns).map PyData.int
def cMinL : List U → Sto → Res U := cInts fun ns => (minI ns).map PyData.int
def cSum : List U → Sto → Res U := cInts fun ns => some (.int ns.sum)
theorem ints_q (rl : Rl G β H st) (h : RU G β (Ban G β st) H v u) {ns : List Int} (e : (listOf st u).bind intsOf = some ns) : ∃ p, v = .ref p ∧ SqL G.K H p (ns.map V.int) := by
  cases q : listOf st u with
  | none => rw [q] at e; cases e
  | some xs =>
    rw [q] at e
    have e2 := intsOf_eq (show intsOf xs = some ns from e)
    subst e2
    obtain ⟨p, vs, a, b, c⟩ := list_q rl h q
    rw [c.ints] at b
    exact ⟨p, a, b⟩
theorem bools_q (rl : Rl G β H st) (h : RU G β (Ban G β st) H v u) {ns : List Bool} (e : (listOf st u).bind boolsOf = some ns) : ∃ p, v = .ref p ∧ SqL G.K H p (ns.map V.bl) := by
  cases q : listOf st u with
  | none => rw [q] at e; cases e
  | some xs =>
    rw [q] at e
    have e2 := boolsOf_eq (show boolsOf xs = some ns from e)
    subst e2
    obtain ⟨p, vs, a, b, c⟩ := list_q rl h q
    rw [c.bools] at b
    exact ⟨p, a, b⟩
theorem c_maxL : SimC G (rMax G.K) cMaxL := fun β H σ l st re xs us Q p h => by
  unfold cMaxL cInts at h
  split at h
  · obtain ⟨v, rfl, r⟩ := one_u p
    split at h
    · rename_i ns e
      obtain ⟨q, rfl, s⟩ := ints_q re.rl r e
      cases ns with
      | nil => exact h.elim
      | cons n ns =>
        refine ⟨q, _, rfl, s, by simp, fun m hm hle => ?_⟩
        have e1 : m = ns.foldl (fun a b => if b > a then b else a) n := by
          have a1 := foldl_max ns n
          have a2 := foldl_max_mem ns n
          have b1 : ns.foldl (fun a b => if b > a then b else a) n ≤ m := hle _ (by rcases a2 with z | z <;> simp [z])
          rcases List.mem_cons.mp hm with z | z
          · omega
          · have := a1.2 m z; omega
        rw [e1]; exact wpR_d re.rl (.int _) h
    · exact h.elim
  · exact h.elim
def cBools (f : List Bool → Bool) : List U → Sto → Res U := fun us st => match us with
  | [u] => (match (listOf st u).bind boolsOf with
    | some ns => .ok (.d (.bool (f ns))) st
    | none => .no)
  | _ => .no
def cAll : List U → Sto → Res U := cBools fun ns => ns.all id
def cAny : List U → Sto → Res U := cBools fun ns => ns.any id
theorem c_all : SimC G (rAll G.K) cAll := fun β H σ l st re xs us Q p h => by
  unfold cAll cBools at h
  split at h
  · obtain ⟨v, rfl, r⟩ := one_u p
    split at h
    · rename_i ns e
      obtain ⟨q, rfl, s⟩ := bools_q re.rl r e
      exact ⟨q, ns, rfl, s, wpR_d re.rl (.bl _) h⟩
    · exact h.elim
  · exact h.elim
def cListOf : List U → Sto → Res (List PyData) := fun us st => match us with
  | [.scr ns] => .ok (ns.map .int) st
  | [u] => (match seqOf st u with
    | some xs => .ok xs st
    | none => .no)
  | _ => .no
theorem c_listOf : SimCN G (fun xs H Q => ∃ p ys, xs = [.ref p] ∧ (SqL G.K H p ys ∨ SqT G.K H p ys) ∧ ∀ l, H l = none → Q (.ref l) (upd H l (.lst ys))) cListOf := fun β H σ l st re xs us Q p h => by
  unfold cListOf at h
  split at h
  · rename_i ns
    obtain ⟨v, rfl, r⟩ := one_u p
    obtain ⟨q, rfl, s⟩ := r
    exact ⟨q, _, rfl, .inl s.q, fun z hz => h H β Fut.refl re.rl z _ hz (RTs.ofInts ns)⟩
  · obtain ⟨v, rfl, r⟩ := one_u p
    split at h
    · rename_i ys e
      obtain ⟨q, vs, rfl, s, r'⟩ := seq_q re.rl r e
      exact ⟨q, vs, rfl, s, fun z hz => h H β Fut.refl re.rl z vs hz r'⟩
    · exact h.elim
  · exact h.elim
def cTupOf : List U → Sto → Res U := fun us st => match us with
  | [.d (.tuple xs)] => .ok (.d (.tuple xs)) st
  | [u] => (match listOf st u with
    | some xs => .ok (.d (.tuple xs)) st
    | none => .no)
  | _ => .no
def tyName : PyData → String
  | .none => "NoneType"
  | .bool _ => "bool"
  | .int _ => "int"
  | .str _ => "str"
  | .list _ => "list"
  | .tuple _ => "tuple"
  | .dict _ => "dict"
def isiT (x : PyData) (T : String) : Bool := tyName x == T || (T == "int" && tyName x == "bool")
def tyOk (T : String) : Bool := ["int", "bool", "list", "tuple", "str"].contains T
theorem kit5 : ∀ n ∈ (["NoneType", "bool", "int", "str", "list", "tuple"] : List String), ∀ T ∈ (["int", "bool", "list", "tuple", "str"] : List String), kitB n T = some (n == T || (T == "int" && n == "bool")) := by decide +kernel
theorem isi_kit {K : PySem.W.Frag} {x : PyData} {T : String} (h : tyOk T = true) (hd : tyName x ≠ "dict") : PySem.W.kitOne K (.type (tyName x)) (.type T) = some (isiT x T) := by
  apply kit_ty
  refine kit5 _ ?_ T (List.contains_iff_mem.mp h)
  cases x with
  | dict k => exact absurd rfl hd
  | _ => simp [tyName]
theorem tyX (rl : Rl G β H st) (h : RU G β (Ban G β st) H v u) {x : PyData} (e : toTree st u = some x) : TyX G.K H v (.type (tyName x)) ∧ tyName x ≠ "dict" := by
  cases u with
  | d y =>
    cases e
    cases h with
    | non => exact ⟨.base .non, by decide⟩
    | bl b => exact ⟨.base (.bl b), by simp [tyName]⟩
    | int i => exact ⟨.base (.int i), by simp [tyName]⟩
    | str z => exact ⟨.base (.str z), by simp [tyName]⟩
    | lst a b => exact ⟨.base (.lst a.1), by show "list" ≠ "dict"; decide⟩
    | tup a b =>
      refine ⟨?_, by show "tuple" ≠ "dict"; decide⟩
      rcases a with ⟨a | ⟨o, a⟩, _⟩ | ⟨o, its, n, hk, hc, _⟩
      · exact .base (.tup a)
      · exact .fTuple a
      · exact .kTuple hk hc
  | flow => cases e
  | scr ns => cases e
  | dct es => cases e
  | ref i =>
    simp only [toTree] at e
    split at e
    · rename_i ys hy
      cases e
      obtain ⟨p, h1, rfl⟩ := h
      obtain ⟨q, vs, a, b, c⟩ := rl.ob i ys hy
      rw [h1] at a; cases a
      exact ⟨.base (.lst b), by show "list" ≠ "dict"; decide⟩
    · cases e
def eIsi (m : ME) (T : String) : ME := fun l st => (m l st).bind fun u st => match toTree st u with
  | some x => if tyOk T = true then .ok (.d (.bool (isiT x T))) st else .no
  | none => .no
theorem s_isi {t : TE} {m : ME} {T : String} (h : SimE G t m) : SimE G (tCB (rIsi G.K) (tCons t (tCons (tC (.ty T)) tNil))) (eIsi m T) := fun β H σ l st re Q q => by
  refine h β H σ l st re _ (wpR_bind q fun v u H1 β1 st1 f1 rl1 p1 h1 => ?_)
  show ∃ (x c : V) (t u : Value) (b : Bool), [v, .ty T] = [x, c] ∧ _
  split at h1
  · rename_i x e
    split at h1
    · rename_i hT
      obtain ⟨ty, nd⟩ := tyX rl1 p1 e
      exact ⟨v, .ty T, _, .type T, isiT x T, rfl, .ty T, ty, isi_kit hT nd, wpR_d rl1 (.bl _) h1⟩
    · exact h1.elim
  · exact h1.elim
def tTys : List String → TA
  | [] => tNil
  | T :: r => tCons (tC (.ty T)) (tTys r)
theorem tTys_run : ∀ (Ts : List String) (σ : L2.St) (H : Hp) (Q : List V → Hp → Prop), Q (Ts.map V.ty) H → tTys Ts σ H Q
  | [], _, _, _, h => h
  | T :: r, σ, H, Q, h => tTys_run r σ H (fun xs H2 => Q (.ty T :: xs) H2) h
def eIsiT (m : ME) (Ts : List String) : ME := fun l st => (m l st).bind fun u st => match toTree st u with
  | some x => if (Ts.all tyOk && decide (Ts.length ≤ 8)) = true then .ok (.d (.bool (Ts.any (isiT x)))) st else .no
  | none => .no
theorem kitAnyT {K : PySem.W.Frag} {x : PyData} (nd : tyName x ≠ "dict") : ∀ {Ts : List String}, Ts.all tyOk = true → PySem.W.kitAny K (.type (tyName x)) (Ts.map Value.type) = some (Ts.any (isiT x))
  | [], _ => kitAny_nil
  | T :: r, h => by
    rw [List.all_cons, Bool.and_eq_true] at h
    have ih := kitAnyT (K := K) nd h.2
    rw [List.any_cons]
    refine kitAny_cons (isi_kit h.1 nd) (fun e => ?_) fun e => ?_
    · rw [e, Bool.false_or]; exact ih
    · rw [e, Bool.true_or]
theorem cls_tys : ∀ (Ts : List String), Paired ClsV (Ts.map V.ty) (Ts.map Value.type)
  | [] => .nil
  | T :: r => .cons (.ty T) (cls_tys r)
theorem s_isiT {t : TE} {m : ME} {Ts : List String} (h : SimE G t m) : SimE G (tCB (rIsiT G.K) (tCons t (tCons (tTup (tTys Ts)) tNil))) (eIsiT m Ts) := fun β H σ l st re Q q => by
  refine h β H σ l st re _ (wpR_bind q fun v u H1 β1 st1 f1 rl1 p1 h1 => ?_)
  split at h1
  · rename_i x e
    split at h1
    · rename_i hT
      rw [Bool.and_eq_true] at hT
      obtain ⟨ty, nd⟩ := tyX rl1 p1 e
      refine tTys_run Ts σ H1 _ ⟨by rw [List.length_map]; exact Nat.le_trans (of_decide_eq_true hT.2) (by rw [sizeLine_eq]; decide), fun p hp => ?_⟩
      have f2 : Fut G β1 st1 H1 β1 st1 (upd H1 p (.tup (Ts.map V.ty))) := Fut.new hp
      obtain ⟨ty2, _⟩ := tyX (rl1.new hp) (f2.ru p1) e
      exact ⟨v, p, Ts.map V.ty, _, Ts.map Value.type, _, rfl, upd_same, cls_tys Ts, ty2, kitAnyT nd hT.1, h1 _ _ β1 f2 (rl1.new hp) (.bl _)⟩
    · exact h1.elim
  · exact h1.elim
def SimM (G : Gx) (T : String) (r : V → List V → Hp → VK → Prop) (f : U → List U → Sto → Res U) : Prop := ∀ β H σ l st, Re G β H σ l st → ∀ x u xs us Q, RU G β (Ban G β st) H x u → PUs G β st H xs us → wpR G β H σ st (PU G) (f u us st) Q → r x xs H Q
def isLst (st : Sto) (u : U) : Bool := (listOf st u).isSome
theorem tyV_l (rl : Rl G β H st) (h : RU G β (Ban G β st) H v u) (e : isLst st u = true) : tyV G.K "list" v H := by
  unfold isLst at e
  obtain ⟨xs, e⟩ := Option.isSome_iff_exists.mp e
  obtain ⟨p, vs, rfl, s, _⟩ := list_q rl h e
  exact .inl ⟨rfl, vs, s⟩
def eMethL (f : U → List U → Sto → Res U) (o : ME) (a : MA) : ME := fun l st => (o l st).bind fun x st => if isLst st x = true then (a l st).bind fun us st => f x us st else .no
theorem s_methL {r : V → List V → Hp → VK → Prop} {f : U → List U → Sto → Res U} {to : TE} {ta : TA} {o : ME} {a : MA} (hr : SimM G "list" r f) (ho : SimE G to o) (ha : SimA G ta a) : SimE G (tBM G.K "list" r to ta) (eMethL f o a) := fun β H σ l st re Q h => by
  refine ho β H σ l st re _ (wpR_bind h fun v x H1 β1 st1 f1 rl1 p1 h1 => ?_)
  have re1 := f1.re rl1 re
  split at h1
  · rename_i q
    refine ⟨tyV_l rl1 p1 q, ha β1 H1 σ l st1 re1 _ (wpR_bind h1 fun w y H2 β2 st2 f2 rl2 p2 h2 => ?_)⟩
    exact hr β2 H2 σ l st2 (f2.re rl2 re1) v x w y Q (f2.ru p1) p2 h2
  · exact h1.elim
def ownL (st : Sto) : U → Option (Nat × List PyData)
  | .ref i => match st.obs[i]? with | some (.lst xs) => some (i, xs) | _ => none
  | _ => none
theorem own_q (rl : Rl G β H st) (h : RU G β (Ban G β st) H v u) {i : Nat} {xs : List PyData} (e : ownL st u = some (i, xs)) : ∃ p vs, v = .ref p ∧ H p = some (.lst vs) ∧ RTs G.K (Ban G β st) H vs xs ∧ st.obs[i]? = some (.lst xs) ∧ β[i]? = some p := by
  unfold ownL at e
  split at e
  · rename_i j
    split at e
    · rename_i hy
      cases e
      obtain ⟨p, h1, rfl⟩ := h
      obtain ⟨q, vs, a, b, c⟩ := rl.ob _ _ hy
      rw [h1] at a; cases a
      exact ⟨p, vs, rfl, b, c, hy, h1⟩
    · cases e
  · cases e
def mAppend : U → List U → Sto → Res U := fun o us st => match ownL st o, us with
  | some (i, xs), [.d y] => if decide (xs.length < sizeLine) = true then .ok (.d .none) (st.put i (xs ++ [y])) else .no
  | _, _ => .no
theorem m_append : SimM G "list" rAppend mAppend := fun β H σ l st re x u xs us Q hx p h => by
  unfold mAppend at h
  split at h
  · rename_i i ys y e
    split at h
    · rename_i q
      obtain ⟨a, vs, rfl, h1, h2, h3, h4⟩ := own_q re.rl hx e
      obtain ⟨w, rfl, r⟩ := one_u p
      refine ⟨a, vs, w, rfl, rfl, h1, by rw [h2.len]; exact of_decide_eq_true q, ?_⟩
      obtain ⟨f, rl⟩ := put_own re.rl h3 h4 (h2.append (.cons r .nil))
      exact h _ _ β f rl .non
    · exact h.elim
  · exact h.elim
def mExtend : U → List U → Sto → Res U := fun o us st => match ownL st o, us with
  | some (i, xs), [u] => (match listOf st u with
    | some ys => if lenOk (xs.length + ys.length) = true then .ok (.d .none) (st.put i (xs ++ ys)) else .no
    | none => .no)
  | _, _ => .no
theorem m_extend : SimM G "list" rExtend mExtend := fun β H σ l st re x u xs us Q hx p h => by
  unfold mExtend at h
  split at h
  · rename_i i ys y e
    split at h
    · rename_i zs e2
      split at h
      · rename_i q
        obtain ⟨a, vs, rfl, h1, h2, h3, h4⟩ := own_q re.rl hx e
        obtain ⟨w, rfl, r⟩ := one_u p
        obtain ⟨b, ws, rfl, k1, k2⟩ := list_h re.rl r e2
        refine ⟨a, b, vs, ws, rfl, rfl, h1, k1, by rw [h2.len, k2.len]; exact of_decide_eq_true q, ?_⟩
        obtain ⟨f, rl⟩ := put_own re.rl h3 h4 (h2.append k2)
        exact h _ _ β f rl .non
      · exact h.elim
    · exact h.elim
  · exact h.elim
theorem RTs.dropLast {B : Addr → Prop} {K : PySem.W.Frag} {xs : List PyData} {vs : List V} (r : RTs K B H vs xs) : RTs K B H vs.dropLast xs.dropLast := by
  rw [List.dropLast_eq_take, List.dropLast_eq_take, r.len]
  exact r.take _
def mPop : U → List U → Sto → Res U := fun o us st => match ownL st o, us with
  | some (i, xs), [] => (match xs[xs.length - 1]? with
    | some y => .ok (.d y) (st.put i xs.dropLast)
    | none => .no)
  | _, _ => .no
def lOp (f : U → U → Sto → Res (List PyData)) (a b : ME) : ML := fun l st => (a l st).bind fun x st => (b l st).bind fun y st => f x y st
def fRep : U → U → Sto → Res (List PyData) := fun a b st => match listOf st a, b with
  | some xs, .d (.int k) => if (decide (-(2 ^ 63) ≤ k ∧ k < 2 ^ 63) && lenOk (xs.length * k.toNat)) = true then .ok (List.replicate k.toNat xs).flatten st else .no
  | _, _ => .no
theorem rts_rep {B : Addr → Prop} {K : PySem.W.Frag} {xs : List PyData} {vs : List V} (r : RTs K B H vs xs) : ∀ n, RTs K B H (List.replicate n vs).flatten (List.replicate n xs).flatten
  | 0 => .nil
  | n + 1 => by
    rw [List.replicate_succ, List.replicate_succ, List.flatten_cons, List.flatten_cons]
    exact r.append (rts_rep r n)
end
end NW
namespace NW
open PySem PySem.Spec PyProof.Rows L2
inductive Rp where
  | ok (d : PyData) (fresh : Bool) | ex (e : Exc) | no
inductive Rf where
  | ok (d : PyData) (fresh : Bool) (fl : Fl) | ex (e : Exc) (fl : Fl) | no
def startL (n : Nat) (us : List U) : Loc := us.map some ++ List.replicate (n - us.length) none
def outP (o : Out) : Rp := match o with
  | .rt (.d x) _ => .ok x false
  | .rt (.ref i) st => (match st.obs[i]? with
    | some (.lst xs) => .ok (.list xs) true
    | _ => .no)
  | .nx _ _ => .ok .none false
  | .ex e _ _ => .ex e
  | _ => .no
def outF (o : Out) : Rf := match o with
  | .rt (.d x) st => (match st.fl with
    | some f => .ok x false f
    | none => .no)
  | .rt (.ref i) st => (match st.obs[i]?, st.fl with
    | some (.lst xs), some f => .ok (.list xs) true f
    | _, _ => .no)
  | .nx _ st => (match st.fl with
    | some f => .ok .none false f
    | none => .no)
  | .ex e _ st => (match st.fl with
    | some f => .ex e f
    | none => .no)
  | _ => .no
def pureOf (n : Nat) (b : MS) (ds : List PyData) : Rp := outP (b (startL n (ds.map .d)) ⟨none, []⟩)
def flowOf (n : Nat) (b : MS) (ds : List PyData) (f : Fl) : Rf := outF (b (startL n (.flow :: ds.map .d)) ⟨some f, []⟩)
def NoTup (H : Hp) (O0 : Addr → Prop) : Prop := ∀ p, O0 p → H p ≠ none ∧ ∀ ws, ¬ Rd H p (.tup ws)
def Fresh (K : PySem.W.Frag) (O0 : Addr → Prop) (H H' : Hp) (v : V) (d : PyData) : Prop := ∃ p ws ys, v = .ref p ∧ H p = none ∧ H' p = some (.lst ws) ∧ d = .list ys ∧ RTs K O0 H' ws ys
def spP (K : PySem.W.Frag) (k : Nat) (m : List PyData → Rp) : Sp := fun vs H Q _ => ∃ (O0 : Addr → Prop) (ds : List PyData) (d : PyData) (fr : Bool), NoTup H O0 ∧ RTs K O0 H vs ds ∧ ds.length = k ∧ m ds = .ok d fr ∧
  ∀ v H', (∀ b o, H b = some o → H' b = some o) → RT K O0 H' v d → (fr = true → Fresh K O0 H H' v d) → Q v H'
def spF (K : PySem.W.Frag) (k : Nat) (m : List PyData → Fl → Rf) : Sp := fun vs H Q _ => ∃ (fa fb : Addr) (O0 : Addr → Prop) (f : Fl) (vs' : List V) (ds : List PyData) (d : PyData) (fr : Bool) (f' : Fl), vs = .ref fa :: vs' ∧ NoTup H O0 ∧ ¬ O0 fa ∧ H fa = some (.lst (flV fb f)) ∧
  H fb = some (.lst (f.cells.map V.int)) ∧ fb ≠ fa ∧ ¬ O0 fb ∧ RTs K (fun p => O0 p ∨ p = fa) H vs' ds ∧ ds.length + 1 = k ∧ m ds f = .ok d fr f' ∧
  ∀ v H', (∀ b o, H b = some o → b ≠ fa → H' b = some o) → H' fa = some (.lst (flV fb f')) → f'.cells = f.cells → RT K (fun p => O0 p ∨ p = fa) H' v d → (fr = true → Fresh K (fun p => O0 p ∨ p = fa) H H' v d) → Q v H'
theorem ints_inj : ∀ {a b : List Int}, a.map V.int = b.map V.int → a = b
  | [], [], _ => rfl
  | [], _ :: _, h => by cases h
  | _ :: _, [], h => by cases h
  | x :: a, y :: b, h => by
    rw [List.map_cons, List.map_cons] at h
    injection h with h1 h2
    injection h1 with h1
    rw [h1, ints_inj h2]
section
variable {P : Program} {w : World} {K : PySem.W.Frag} {mg : Str → Option Value} {base : Heap}
theorem start_len (N : List Str) {vs : List V} {us : List U} (h : vs.length = us.length) (hl : us.length ≤ N.length) : (L2.start N vs).length = (startL N.length us).length := by
  unfold L2.start startL; simp [h]
theorem start_get (N : List Str) {n : Nat} {vs : List V} {us : List U} {i : Nat} {u : U} (e : (startL n us)[i]? = some (some u)) : us[i]? = some u := by
  unfold startL at e
  by_cases h : i < us.length
  · rw [List.getElem?_append_left (by simpa using h)] at e
    rw [List.getElem?_map] at e
    cases q : us[i]? with
    | none => rw [q] at e; cases e
    | some w => rw [q] at e; cases e; rfl
  · rw [List.getElem?_append_right (by simpa using h)] at e
    have := List.getElem?_eq_some_iff.mp e
    obtain ⟨h1, h2⟩ := this
    rw [List.getElem_replicate] at h2; cases h2
theorem start_getV (N : List Str) {vs : List V} {i : Nat} {v : V} (e : vs[i]? = some v) : (L2.start N vs)[i]? = some (some v) := by
  unfold L2.start
  have h : i < vs.length := (List.getElem?_eq_some_iff.mp e).1
  rw [List.getElem?_append_left (by simpa using h), List.getElem?_map, e]; rfl
theorem rp_end {G : Gx} {H : Hp} {o : Out} {Q : VK} {d : PyData} {fr : Bool} (hG : G.K = K) (e : outP o = .ok d fr) (q : ∀ v H', (∀ b o, H b = some o → H' b = some o) → RT K G.O0 H' v d → (fr = true → Fresh K G.O0 H H' v d) → Q v H') :
    wpS G [] H ⟨none, []⟩ o { nx := fun _ H' => Q .non H', rt := Q } := by
  subst hG
  have own0 : ∀ b, ¬ Own G [] ⟨none, []⟩ b := fun b h => by
    rcases h with ⟨h, _⟩ | ⟨i, xs, h, _⟩
    · cases h
    · simp at h
  unfold outP at e
  split at e
  · cases e
    exact fun v H' β' f rl r => q v H' (fun b o h => (f.stay b o h (own0 b)).1) (RT.weak (fun a h => .inl h) _ _ r) (fun z => by cases z)
  · rename_i i st
    split at e
    · rename_i xs hx
      cases e
      intro v H' β' f rl r
      obtain ⟨p, h1, rfl⟩ := r
      obtain ⟨p', vs, a, b, c⟩ := rl.ob i xs hx
      rw [h1] at a; cases a
      have c' : RTs G.K G.O0 H' vs xs := RTs.weak (fun a h => .inl h) _ _ c
      have hf : H p = none := by
        obtain ⟨γ, e, hγ⟩ := f.ext
        rw [List.nil_append] at e; subst e
        exact hγ p (List.mem_of_getElem? h1)
      exact q _ H' (fun b o h => (f.stay b o h (own0 b)).1) (.lst ⟨b, fun z => (rl.o0 p z).2.1 (.inr ⟨i, _, hx, (by intro z; cases z), h1⟩)⟩ c') (fun _ => ⟨p, vs, xs, rfl, hf, b, rfl, c'⟩)
    · cases e
  · cases e
    exact fun σ' H' β' f re => q .non H' (fun b o h => (f.stay b o h (own0 b)).1) .non (fun z => by cases z)
  · cases e
  · cases e
theorem okP {x qual : Str} {st : Stmt} {f : Addr} {fd : FuncData} {N ps : List Str} {k : Nat} {b : MS} (F : Fun K x qual st f fd) (S : FnScope N ps (defScope st)) (hN : ps.length ≤ N.length)
    (hb : ∀ (cdv : Value) (A : Around) (outer : List Env) (s : Shared) (H : Hp) (E : XK), Room k (A.deeper (envOfC qual (defScope st) s.heap.objs.size f cdv)) →
      ∃ t, PSs (cxOf CX0 P w K mg base N qual (defScope st) f cdv A outer s H E).nox (defBody st) t ∧ ∀ G : Gx, G.K = K → SimS G t b) :
    FnOk P w K mg base CX0 (k + 1) f fd ps (spP K ps.length (pureOf N.length b)) := by
  refine F.ok S (fun vs H Q E h => ?_) (fun cdv A outer s H vs Q E hr h => ?_)
  · obtain ⟨O0, ds, d, fr, _, r, hl, _⟩ := h
    rw [r.len, hl]
  · obtain ⟨O0, ds, d, fr, hO, r, hl, e, q⟩ := h
    obtain ⟨t, ht, hs⟩ := hb cdv A outer s H E hr
    refine ⟨t, ht, ?_⟩
    have own0 : ∀ b, ¬ Own ⟨K, 0, 0, O0, fun _ => none, fun _ _ _ _ => False⟩ [] ⟨none, []⟩ b := fun b h => by
      rcases h with ⟨h, _⟩ | ⟨i, xs, h, _⟩
      · cases h
      · simp at h
    have re : Re ⟨K, 0, 0, O0, fun _ => none, fun _ _ _ _ => False⟩ [] H (L2.start N vs) (startL N.length (ds.map .d)) ⟨none, []⟩ := by
      refine ⟨⟨rfl, .nil, fun p hp => by simp at hp, fun i xs h => by simp at h, fun f h => (by cases h), fun p hp => ⟨(hO p hp).1, own0 p, (hO p hp).2⟩⟩, ⟨start_len N (by rw [r.len]; simp) (by simp; omega), fun i u e => ?_⟩⟩
      have e1 := start_get N (vs := vs) e
      rw [List.getElem?_map] at e1
      cases e2 : ds[i]? with
      | none => rw [e2] at e1; cases e1
      | some y =>
        rw [e2] at e1; cases e1
        obtain ⟨v, h1, h2⟩ := r.get e2
        exact ⟨v, start_getV N h1, RT.weak (fun a h => h.elim id fun z => (own0 a z).elim) _ _ h2⟩
    exact hs ⟨K, 0, 0, O0, fun _ => none, fun _ _ _ _ => False⟩ rfl [] H _ _ _ re _ (rp_end (K := K) rfl e q)
theorem rf_end {G : Gx} {H : Hp} {f : Fl} {o : Out} {Q : VK} {d : PyData} {fr : Bool} {f' : Fl} (hG : G.K = K) (hfb : H G.fb = some (.lst (f.cells.map V.int))) (hne : G.fb ≠ G.fa) (e : outF o = .ok d fr f')
    (q : ∀ v H', (∀ b o, H b = some o → b ≠ G.fa → H' b = some o) → H' G.fa = some (.lst (flV G.fb f')) → f'.cells = f.cells → RT K (fun p => G.O0 p ∨ p = G.fa) H' v d → (fr = true → Fresh K (fun p => G.O0 p ∨ p = G.fa) H H' v d) → Q v H') :
    wpS G [] H ⟨some f, []⟩ o { nx := fun _ H' => Q .non H', rt := Q } := by
  subst hG
  have own0 : ∀ b, Own G [] ⟨some f, []⟩ b → b = G.fa := fun b h => by
    rcases h with ⟨_, h⟩ | ⟨i, xs, h, _⟩
    · exact h
    · simp at h
  have bn : ∀ {β' : List Addr} {st' : Sto}, st'.fl = some f' → ∀ a, (G.O0 a ∨ a = G.fa) → Ban G β' st' a := fun h a z => z.imp id fun z => .inl ⟨by rw [h]; rfl, z⟩
  have fin : ∀ {β' : List Addr} {st' : Sto} {H' : Hp}, st'.fl = some f' → Fut G [] ⟨some f, []⟩ H β' st' H' → Rl G β' H' st' → (∀ b o, H b = some o → b ≠ G.fa → H' b = some o) ∧ H' G.fa = some (.lst (flV G.fb f')) ∧ f'.cells = f.cells := fun {β' st' H'} h f1 rl => by
    have s1 : ∀ b o, H b = some o → b ≠ G.fa → H' b = some o := fun b o hb n => (f1.stay b o hb fun z => n (own0 b z)).1
    obtain ⟨⟨h1, h2⟩, _⟩ := rl.flo f' h
    have h3 := s1 _ _ hfb hne
    rw [h2.1] at h3
    refine ⟨s1, h1, ints_inj ?_⟩
    injection h3 with h3; injection h3
  unfold outF at e
  split at e
  · rename_i x st
    split at e
    · rename_i g hg
      cases e
      intro v H' β' f1 rl r
      obtain ⟨a, b, c⟩ := fin hg f1 rl
      exact q v H' a b c (RT.weak (bn hg) _ _ r) (fun z => by cases z)
    · cases e
  · rename_i i st
    split at e
    · rename_i xs g hx hg
      cases e
      intro v H' β' f1 rl r
      obtain ⟨a0, b0, c0⟩ := fin hg f1 rl
      obtain ⟨p, h1, rfl⟩ := r
      obtain ⟨p', vs, a, b, c⟩ := rl.ob i xs hx
      rw [h1] at a; cases a
      have c' : RTs G.K (fun p => G.O0 p ∨ p = G.fa) H' vs xs := RTs.weak (bn hg) _ _ c
      have hf : H p = none := by
        obtain ⟨γ, e, hγ⟩ := f1.ext
        rw [List.nil_append] at e; subst e
        exact hγ p (List.mem_of_getElem? h1)
      refine q _ H' a0 b0 c0 (.lst ⟨b, fun z => ?_⟩ c') (fun _ => ⟨p, vs, xs, rfl, hf, b, rfl, c'⟩)
      rcases z with z | z
      · exact (rl.o0 p z).2.1 (.inr ⟨i, _, hx, (by intro z; cases z), h1⟩)
      · exact (rl.flo _ hg).2 (z ▸ List.mem_of_getElem? h1)
    · cases e
  · split at e
    · rename_i g hg
      cases e
      intro σ' H' β' f1 re
      obtain ⟨a, b, c⟩ := fin hg f1 re.rl
      exact q .non H' a b c .non (fun z => by cases z)
    · cases e
  · split at e <;> cases e
  · cases e
theorem okF {x qual : Str} {st : Stmt} {f : Addr} {fd : FuncData} {N ps : List Str} {k : Nat} {b : MS} (F : Fun K x qual st f fd) (S : FnScope N ps (defScope st)) (hN : ps.length ≤ N.length)
    (hb : ∀ (cdv : Value) (A : Around) (outer : List Env) (s : Shared) (H : Hp) (E : XK), Room k (A.deeper (envOfC qual (defScope st) s.heap.objs.size f cdv)) →
      ∃ t, PSs (cxOf CX0 P w K mg base N qual (defScope st) f cdv A outer s H E).nox (defBody st) t ∧ ∀ G : Gx, G.K = K → SimS G t b) :
    FnOk P w K mg base CX0 (k + 1) f fd ps (spF K ps.length (flowOf N.length b)) := by
  refine F.ok S (fun vs H Q E h => ?_) (fun cdv A outer s H vs Q E hr h => ?_)
  · obtain ⟨fa, fb, O0, g, vs', ds, d, fr, g', rfl, _, _, _, _, _, _, r, hl, _⟩ := h
    rw [List.length_cons, r.len, hl]
  · obtain ⟨fa, fb, O0, g, vs', ds, d, fr, g', rfl, hO, hO1, h1, h2, hne, hO2, r, hl, e, q⟩ := h
    obtain ⟨t, ht, hs⟩ := hb cdv A outer s H E hr
    refine ⟨t, ht, ?_⟩
    have own0 : ∀ b, Own ⟨K, fa, fb, O0, fun _ => none, fun _ _ _ _ => False⟩ [] ⟨some g, []⟩ b ↔ b = fa := fun b => ⟨fun h => by
      rcases h with ⟨_, h⟩ | ⟨i, xs, h, _⟩
      · exact h
      · simp at h, fun h => .inl ⟨rfl, h⟩⟩
    have bn : ∀ a, Ban ⟨K, fa, fb, O0, fun _ => none, fun _ _ _ _ => False⟩ [] ⟨some g, []⟩ a → (O0 a ∨ a = fa) := fun a h => h.imp id (own0 a).mp
    have re : Re ⟨K, fa, fb, O0, fun _ => none, fun _ _ _ _ => False⟩ [] H (L2.start N (.ref fa :: vs')) (startL N.length (.flow :: ds.map .d)) ⟨some g, []⟩ := by
      refine ⟨⟨rfl, .nil, fun p hp => by simp at hp, fun i xs h => by simp at h, fun f h => ?_, fun p hp => ⟨(hO p hp).1, fun z => hO1 ((own0 p).mp z ▸ hp), (hO p hp).2⟩⟩, ⟨start_len N (by simp [r.len]) (by simp; omega), fun i u e => ?_⟩⟩
      · cases h
        exact ⟨⟨h1, h2, fun z => (bn _ z).elim hO2 hne⟩, by simp⟩
      · have e1 := start_get N (vs := .ref fa :: vs') e
        cases i with
        | zero => simp at e1; subst e1; exact ⟨.ref fa, start_getV N rfl, rfl⟩
        | succ i =>
          rw [List.getElem?_cons_succ, List.getElem?_map] at e1
          cases e2 : ds[i]? with
          | none => rw [e2] at e1; cases e1
          | some y =>
            rw [e2] at e1; cases e1
            obtain ⟨v, h1, h2⟩ := r.get e2
            exact ⟨v, start_getV N (by simpa using h1), RT.weak bn _ _ h2⟩
    exact hs ⟨K, fa, fb, O0, fun _ => none, fun _ _ _ _ => False⟩ rfl [] H _ _ _ re _ (rf_end (K := K) rfl h2 hne e q)
end
def ctrees (st : Sto) : List U → Option (List PyData)
  | [] => some []
  | u :: us => match toTree st u, ctrees st us with
    | some x, some xs => some (x :: xs)
    | _, _ => none
def isRef : U → Bool
  | .ref _ => true
  | _ => false
mutual
def noLst : PyData → Bool
  | .list _ => false
  | .tuple xs => noLsts xs
  | _ => true
def noLsts : List PyData → Bool
  | [] => true
  | x :: xs => noLst x && noLsts xs
end
section
variable {G : Gx} {β β' : List Addr} {st st' : Sto} {H H' : Hp} {v : V} {u : U} {σ σ' : L2.St} {l l' : Loc} {D : Ends}
mutual
theorem RT.noLst {K : PySem.W.Frag} {B B' : Addr → Prop} (hB : ∀ p ws, Rd H p (.tup ws) → ¬ B' p) : ∀ (d : PyData) (v : V), noLst d = true → RT K B H v d → RT K B' H v d
  | .none, _, _, h => by cases h; exact .non
  | .bool b, _, _, h => by cases h; exact .bl b
  | .int i, _, _, h => by cases h; exact .int i
  | .str x, _, _, h => by cases h; exact .str x
  | .list ds, _, n, h => by simp [NW.noLst] at n
  | .tuple ds, _, n, h => by
    cases h with
    | tup hs ha => exact .tup (hs.imp (fun z => ⟨z.1, hB _ _ z.1⟩) id) (RTs.noLst hB ds _ (by simpa [NW.noLst] using n) ha)
  | .dict _, _, _, h => by cases h
theorem RTs.noLst {K : PySem.W.Frag} {B B' : Addr → Prop} (hB : ∀ p ws, Rd H p (.tup ws) → ¬ B' p) : ∀ (ds : List PyData) (vs : List V), noLsts ds = true → RTs K B H vs ds → RTs K B' H vs ds
  | [], _, _, h => by cases h; exact .nil
  | d :: ds, _, n, h => by
    rw [NW.noLsts, Bool.and_eq_true] at n
    cases h with
    | cons h1 h2 => exact .cons (RT.noLst hB d _ n.1 h1) (RTs.noLst hB ds _ n.2 h2)
end
theorem toTree_d {x : PyData} (e : toTree st u = some x) (n : isRef u = false) : u = .d x := by
  cases u with
  | d y => cases e; rfl
  | ref i => cases n
  | flow => cases e
  | scr k => cases e
  | dct k => cases e
theorem ctrees_r : ∀ {us : List U} {vs : List V} {ds : List PyData}, Paired (fun v u => RU G β (Ban G β st) H v u) vs us → ctrees st us = some ds → us.any isRef = false → RTs G.K (Ban G β st) H vs ds
  | [], _, ds, .nil, e, _ => by cases e; exact .nil
  | u :: us, _, ds, .cons h t, e, n => by
    rw [List.any_cons, Bool.or_eq_false_iff] at n
    unfold ctrees at e
    split at e
    · rename_i x xs e1 e2
      cases e
      cases toTree_d e1 n.1
      exact .cons h (ctrees_r t e2 n.2)
    · cases e
theorem ctrees_0 (rl : Rl G β H st) {B' : Addr → Prop} (hB : ∀ p, B' p → Ban G β st p ∧ p ∉ β) : ∀ {us : List U} {vs : List V} {ds : List PyData}, Paired (fun v u => RU G β (Ban G β st) H v u) vs us → ctrees st us = some ds → RTs G.K B' H vs ds
  | [], _, ds, .nil, e => by cases e; exact .nil
  | u :: us, _, ds, .cons h t, e => by
    unfold ctrees at e
    split at e
    · rename_i x xs e1 e2
      cases e
      refine .cons ?_ (ctrees_0 rl hB t e2)
      cases u with
      | d y => cases e1; exact RT.weak (fun p z => (hB p z).1) _ _ h
      | flow => cases e1
      | scr k => cases e1
      | dct k => cases e1
      | ref i =>
        simp only [toTree] at e1
        split at e1
        · rename_i ys hy
          cases e1
          obtain ⟨p, h1, rfl⟩ := h
          obtain ⟨q, vs, a, b, c⟩ := rl.ob i ys hy
          rw [h1] at a; cases a
          exact .lst ⟨b, fun z => (hB p z).2 (List.mem_of_getElem? h1)⟩ (RTs.weak (fun p z => (hB p z).1) _ _ c)
        · cases e1
    · cases e
theorem Rl.grown (rl : Rl G β H st) (k : ∀ b o, H b = some o → H' b = some o) : Fut G β st H β st H' ∧ Rl G β H' st := by
  have f : Fut G β st H β st H' := ⟨⟨[], by simp, by simp⟩, fun b h => by
    cases e : H b with
    | none => exact absurd e h
    | some o => rw [k b o e]; simp, fun b o h n => ⟨k b o h, n⟩⟩
  refine ⟨f, rl.len, rl.nodup, fun q hq => f.there q (rl.trk q hq), fun i xs h nd => ?_, fun g hg => ?_, fun q hq => rl.o0_fut f q hq (rl.o0 q hq).2.1⟩
  · obtain ⟨q, vs, a, b, c⟩ := rl.oo i xs h nd
    exact ⟨q, vs, a, k _ _ b, f.obr c⟩
  · obtain ⟨⟨a, b⟩, c⟩ := rl.flo g hg
    exact ⟨⟨k _ _ a, b.fut f⟩, c⟩
theorem Rl.noTupB (rl : Rl G β H st) : NoTup H (Ban G β st) := fun p h => ⟨fun e => rl.notBan e h, fun ws => rl.banNoTup h ws⟩
def fCallP (k : Nat) (m : List PyData → Rp) (us : List U) (st : Sto) : Res U := match ctrees st us with
  | some ds => if ds.length = k then (match m ds with
    | .ok d _ => if (!us.any isRef || noLst d) = true then .ok (.d d) st else .no
    | _ => .no) else .no
  | none => .no
def eCallP (k : Nat) (m : List PyData → Rp) (a : MA) : ME := fun l st => (a l st).bind (fCallP k m)
theorem s_callP {k : Nat} {m : List PyData → Rp} {ta : TA} {a : MA} {E : XK} (ha : SimA G ta a) : SimE G (tCall (spP G.K k m) [] E ta) (eCallP k m a) := fun β H σ l st re Q h => by
  refine ha β H σ l st re _ (wpR_bind h fun vs us H1 β1 st1 f1 rl1 p1 h1 => ?_)
  show spP G.K k m (vs ++ []) H1 Q E
  rw [List.append_nil]
  unfold fCallP at h1
  split at h1
  · rename_i ds e
    split at h1
    · rename_i hk
      split at h1
      · rename_i d fr e2
        split at h1
        · rename_i hc
          by_cases hr : us.any isRef = false
          · refine ⟨Ban G β1 st1, ds, d, fr, rl1.noTupB, ctrees_r p1 e hr, hk, e2, fun v H' kk rt _ => ?_⟩
            obtain ⟨f2, rl2⟩ := rl1.grown kk
            exact h1 v H' β1 f2 rl2 rt
          · have hr' : us.any isRef = true := by simpa using hr
            rw [hr'] at hc
            refine ⟨fun _ => False, ds, d, fr, fun p h => h.elim, ctrees_0 rl1 (fun p z => z.elim) p1 e, hk, e2, fun v H' kk rt _ => ?_⟩
            obtain ⟨f2, rl2⟩ := rl1.grown kk
            exact h1 v H' β1 f2 rl2 (RT.noLst (fun p ws z => rl2.tupB z) _ _ (by simpa using hc) rt)
        · exact h1.elim
      · exact h1.elim
    · exact h1.elim
  · exact h1.elim
def fCallF (k : Nat) (m : List PyData → Fl → Rf) (us : List U) (st : Sto) : Res U := match us, st.fl with
  | .flow :: us, some f => (match ctrees st us with
    | some ds => if ds.length + 1 = k then (match m ds f with
      | .ok d _ f' => if (!us.any isRef || noLst d) = true then .ok (.d d) { st with fl := some f' } else .no
      | _ => .no) else .no
    | none => .no)
  | _, _ => .no
def eCallF (k : Nat) (m : List PyData → Fl → Rf) (a : MA) : ME := fun l st => (a l st).bind (fCallF k m)
theorem s_callF {k : Nat} {m : List PyData → Fl → Rf} {ta : TA} {a : MA} {E : XK} (ha : SimA G ta a) : SimE G (tCall (spF G.K k m) [] E ta) (eCallF k m a) := fun β H σ l st re Q h => by
  refine ha β H σ l st re _ (wpR_bind h fun vs us H1 β1 st1 f1 rl1 p1 h1 => ?_)
  show spF G.K k m (vs ++ []) H1 Q E
  rw [List.append_nil]
  unfold fCallF at h1
  split at h1
  · rename_i us0 f hf
    split at h1
    · rename_i ds e
      split at h1
      · rename_i hk
        split at h1
        · rename_i d fr f' e2
          split at h1
          · rename_i hc
            have p1' : Paired (fun v u => RU G β1 (Ban G β1 st1) H1 v u) vs (.flow :: us0) := p1
            cases p1' with
            | cons r0 rs =>
              rename_i v0 vs0
              cases (show v0 = .ref G.fa from r0)
              obtain ⟨⟨a0, b0⟩, c0⟩ := rl1.flo f hf
              have ofa : Own G β1 st1 G.fa := .inl ⟨by rw [hf]; rfl, rfl⟩
              have hne : G.fb ≠ G.fa := fun e => b0.2 (.inr (e ▸ ofa))
              by_cases hr : us0.any isRef = false
              · have eb : ∀ p, (Ban G β1 st1 p ∧ p ≠ G.fa) ∨ p = G.fa ↔ Ban G β1 st1 p := fun p => ⟨fun h => h.elim (·.1) fun e => .inr (e ▸ ofa), fun h => by
                  by_cases e : p = G.fa
                  · exact .inr e
                  · exact .inl ⟨h, e⟩⟩
                refine ⟨G.fa, G.fb, fun p => Ban G β1 st1 p ∧ p ≠ G.fa, f, vs0, ds, d, fr, f', rfl, fun p h => rl1.noTupB p h.1, fun h => h.2 rfl, a0, b0.1, hne, fun h => b0.2 h.1, RTs.weak (fun p h => (eb p).mp h) _ _ (ctrees_r rs e hr), hk, e2, fun v H' kk hfa hcl rt _ => ?_⟩
                obtain ⟨f2, rl2⟩ := flow_end rl1 hf kk hfa hcl
                exact h1 v H' β1 f2 rl2 (RT.weak (fun p h => (eb p).mpr (h.imp id (own_fl hf p).mp)) _ _ rt)
              · have hr' : us0.any isRef = true := by simpa using hr
                rw [hr'] at hc
                have b1 : RTs G.K (fun p => False ∨ p = G.fa) H1 vs0 ds := ctrees_0 rl1 (fun p z => z.elim False.elim fun z => ⟨z ▸ .inr ofa, z ▸ c0⟩) rs e
                refine ⟨G.fa, G.fb, fun _ => False, f, vs0, ds, d, fr, f', rfl, fun p h => h.elim, fun h => h, a0, b0.1, hne, fun h => h, b1, hk, e2, fun v H' kk hfa hcl rt _ => ?_⟩
                obtain ⟨f2, rl2⟩ := flow_end rl1 hf kk hfa hcl
                exact h1 v H' β1 f2 rl2 (RT.noLst (fun p ws z => rl2.tupB z) _ _ (by simpa using hc) rt)
          · exact h1.elim
        · exact h1.elim
      · exact h1.elim
    · exact h1.elim
  · exact h1.elim
end
end NW
namespace NW
open PySem PySem.Spec PyProof.Rows L2
structure QE (X : Cx) (e : Expr) (t : TE) (m : ME) : Prop where
  pe : PE X e t
  sim : ∀ G : Gx, G.K = X.K → SimE G t m
structure QN (X : Cx) (e : Expr) (t : TE) (m : ML) : Prop where
  pe : PE X e t
  sim : ∀ G : Gx, G.K = X.K → SimN G t m
structure QT (X : Cx) (e : Expr) (t : TT) (m : MB) : Prop where
  pt : PT X e t
  sim : ∀ G : Gx, G.K = X.K → SimT G t m
structure QW (X : Cx) (e : Expr) (t : TT) (m : MB) : Prop where
  pw : PW X e t
  sim : ∀ G : Gx, G.K = X.K → SimT G t m
structure QA (X : Cx) (es : List Expr) (t : TA) (m : MA) : Prop where
  pa : PA X es t
  sim : ∀ G : Gx, G.K = X.K → SimA G t m
structure QO (X : Cx) (e : Option Expr) (t : TO) (m : MO) : Prop where
  po : L2.PO X e t
  sim : ∀ G : Gx, G.K = X.K → SimO G t m
structure QI (X : Cx) (tg e : Expr) (t : TI) (m : MI) : Prop where
  pi : PI X tg e t
  sim : ∀ G : Gx, G.K = X.K → SimI G t m
structure QG (X : Cx) (vs : List Nat) (e : Expr) (g : TG) (m : MT) : Prop where
  pg : PG X e g
  sim : ∀ G : Gx, G.K = X.K → SimG G vs g m
structure QGs (X : Cx) (vs : List Nat) (es : List Expr) (g : TGs) (m : MTs) : Prop where
  pgs : PGs X es g
  sim : ∀ G : Gx, G.K = X.K → SimGs G vs g m
  ne : ∀ ds l st, (m ds l st).noEx
structure QS (X : Cx) (s : Stmt) (t : TS) (m : MS) : Prop where
  ps : PS X s t
  sim : ∀ G : Gx, G.K = X.K → SimS G t m
structure QSs (X : Cx) (s : List Stmt) (t : TS) (m : MS) : Prop where
  pss : PSs X s t
  sim : ∀ G : Gx, G.K = X.K → SimS G t m
section
variable {X : Cx} {a b c e o i : Expr} {es : List Expr} {pos p pos2 : Pos} {ta tb tc te to ti : TE} {ma mb mc me mo mi : ME} {t u : TT} {mt mu : MB} {tA : TA} {mA : MA}
theorem q_var (i : Nat) {x : Str} (hN : X.N[i]? = some x := by rfl) (hv : Vis X.env.scope x := by first | exact Or.inl rfl | exact Or.inr (Or.inl rfl) | exact Or.inr (Or.inr rfl)) (hd : (x == ("__debug__" : Str)) = false := by decide)
    (hcd : (x == ("__classdict__" : Str)) = false := by decide) : QE X (.Name x pos) (tVar i) (eVar i) := ⟨pv i hN hv hd hcd, fun _ _ => s_var i⟩
theorem q_int {n : Int} {j : Nat} : QE X (.Constant (.int n) j pos) (tC (.int n)) (eC (.int n)) := ⟨pe_int, fun _ _ => s_int n⟩
theorem q_bl {n : Bool} {j : Nat} : QE X (.Constant (.bool n) j pos) (tC (.bl n)) (eC (.bool n)) := ⟨pe_bl, fun _ _ => s_bl n⟩
theorem q_str {z : Str} {j : Nat} : QE X (.Constant (.str z) j pos) (tC (.str z)) (eC (.str z)) := ⟨pe_str, fun _ _ => s_str z⟩
def IsC (K : PySem.W.Frag) (u : Value) (v : V) (x : PyData) : Prop := RelV v u ∧ ∀ B H, RT K B H v x
theorem q_sub (ha : QE X a ta ma) (hb : QE X b tb mb) : QE X (.BinOp a .Sub b pos) (tOp (rI0 fun i j => .int (i - j)) ta tb) (eOp fSub ma mb) := ⟨pe_op op_sub ha.pe hb.pe, fun G h => s_op r_sub (ha.sim G h) (hb.sim G h)⟩
theorem q_mod (ha : QE X a ta ma) (hb : QE X b tb mb) : QE X (.BinOp a .Mod b pos) (tOp (rI (fun _ j => j ≠ 0) fun i j => .int (i.fmod j)) ta tb) (eOp fMod ma mb) := ⟨pe_op op_modN ha.pe hb.pe, fun G h => s_op r_mod (ha.sim G h) (hb.sim G h)⟩
theorem q_div (hS : SeX X.prog X.base X.A X.stack) (ha : QE X a ta ma) (hb : QE X b tb mb) : QE X (.BinOp a .FloorDiv b pos) (tOp (rI CDivA fun i j => .int (i.fdiv j)) ta tb) (eOp fDiv ma mb) := ⟨pe_op (op_fdivA hS) ha.pe hb.pe, fun G h => s_op r_div (ha.sim G h) (hb.sim G h)⟩
theorem q_pow (ha : QE X a ta ma) (hb : QE X b tb mb) : QE X (.BinOp a .Pow b pos) (tOp (rI CPow fun i j => .int (i ^ j.toNat)) ta tb) (eOp fPow ma mb) := ⟨pe_op op_pow ha.pe hb.pe, fun G h => s_op r_pow (ha.sim G h) (hb.sim G h)⟩
theorem q_neg (n : Int) {j : Nat} {p2 : Pos} : QE X (.UnaryOp .USub (.Constant (.int n) j p2) pos) (tUn (rU fun i => .int (-i)) (tC (.int n))) (eC (.int (-n))) :=
  ⟨pe_un un_neg pe_int, fun G h β H σ l st re Q q => ⟨n, rfl, wpR_d re.rl (.int _) q⟩⟩
theorem q_gt (ha : QE X a ta ma) (hb : QE X b tb mb) : QE X (.Compare a [.Gt] [b] pos) (tOp (rI0 fun i j => .bl (decide (j < i))) ta tb) (eOp fGt ma mb) := ⟨pe_cmpR op_gt ha.pe hb.pe (nomark _), fun G h => s_op r_gt (ha.sim G h) (hb.sim G h)⟩
theorem q_eq {k : Nat} (hr : Room k X.A) (ha : QE X a ta ma) (hb : QE X b tb mb) : QE X (.Compare a [.Eq] [b] pos) (tOp (rEqD X.K) ta tb) (eOp (opEq false) ma mb) := ⟨pe_cmpR (op_eqD hr.units) ha.pe hb.pe (nomark _), fun G h => h ▸ s_op r_eq (ha.sim G h) (hb.sim G h)⟩
theorem q_in (ha : QE X a ta ma) (hb : QE X b tb mb) (hm : behindInMarks .In b = false := by rfl) : QE X (.Compare a [.In] [b] pos) (tOp (rIn X.K false) ta tb) (eOp (fIn false) ma mb) := ⟨pe_cmpR op_in_seq ha.pe hb.pe hm, fun G h => h ▸ s_op (r_in false) (ha.sim G h) (hb.sim G h)⟩
structure CR2 (X : Cx) (op : CmpOp) (r : R2) (f : U → U → Sto → Res U) : Prop where
  op : OpR X (compareOp op) r
  sim : ∀ G : Gx, SimR G r f
theorem qt_tru (h : QE X e te me) (he : ∀ whole, isTrue e X.env whole = (do let v ← whole; standAt e.pos; holding [v] (truthy v)) := by intro _; rfl) : QT X e (fun σ H Q => te σ H fun x H' => ∃ k, TruV X.K x H' k ∧ Q k H') (bTru me) := ⟨pt_truth h.pe he, fun G hG => hG ▸ s_tru (h.sim G hG)⟩
theorem qt_lt (ha : QE X a ta ma) (hb : QE X b tb mb) : QT X (.Compare a [.Lt] [b] pos) (tTest (tOp (rI0 fun i j => .bl (decide (i < j))) ta tb)) (bTest (eOp fLt ma mb)) := ⟨pt_cmpR op_lt ha.pe hb.pe (nomark _), fun G h => s_test (s_op r_lt (ha.sim G h) (hb.sim G h))⟩
theorem qt_gt (ha : QE X a ta ma) (hb : QE X b tb mb) : QT X (.Compare a [.Gt] [b] pos) (tTest (tOp (rI0 fun i j => .bl (decide (j < i))) ta tb)) (bTest (eOp fGt ma mb)) := ⟨pt_cmpR op_gt ha.pe hb.pe (nomark _), fun G h => s_test (s_op r_gt (ha.sim G h) (hb.sim G h))⟩
theorem qt_ge (ha : QE X a ta ma) (hb : QE X b tb mb) : QT X (.Compare a [.GtE] [b] pos) (tTest (tOp (rI0 fun i j => .bl (decide (j ≤ i))) ta tb)) (bTest (eOp fGe ma mb)) := ⟨pt_cmpR op_ge ha.pe hb.pe (nomark _), fun G h => s_test (s_op r_ge (ha.sim G h) (hb.sim G h))⟩
theorem qt_eq {k : Nat} (hr : Room k X.A) (ha : QE X a ta ma) (hb : QE X b tb mb) : QT X (.Compare a [.Eq] [b] pos) (tTest (tOp (rEqD X.K) ta tb)) (bTest (eOp (opEq false) ma mb)) := ⟨pt_cmpR (op_eqD hr.units) ha.pe hb.pe (nomark _), fun G h => h ▸ s_test (s_op r_eq (ha.sim G h) (hb.sim G h))⟩
theorem qt_ne {k : Nat} (hr : Room k X.A) (ha : QE X a ta ma) (hb : QE X b tb mb) : QT X (.Compare a [.NotEq] [b] pos) (tTest (tOp (rNeD X.K) ta tb)) (bTest (eOp (opEq true) ma mb)) := ⟨pt_cmpR (op_neD hr.units) ha.pe hb.pe (nomark _), fun G h => h ▸ s_test (s_op r_ne (ha.sim G h) (hb.sim G h))⟩
theorem qt_in (ha : QE X a ta ma) (hb : QE X b tb mb) (hm : behindInMarks .In b = false := by rfl) : QT X (.Compare a [.In] [b] pos) (tTest (tOp (rIn X.K false) ta tb)) (bTest (eOp (fIn false) ma mb)) := ⟨pt_cmpR op_in_seq ha.pe hb.pe hm, fun G h => h ▸ s_test (s_op (r_in false) (ha.sim G h) (hb.sim G h))⟩
theorem qt_not (ha : QT X a t mt) : QT X (.UnaryOp .Not a pos) (tNot t) (bNot mt) := ⟨pt_not ha.pt, fun G h => s_not (ha.sim G h)⟩
theorem qw_and1 (ha : QT X a t mt) : QW X (.BoolOp .And [a] pos) t mt := ⟨pw_and1 ha.pt, ha.sim⟩
theorem qw_or1 (ha : QT X a t mt) : QW X (.BoolOp .Or [a] pos) t mt := ⟨pw_or1 ha.pt, ha.sim⟩
theorem qw_and (ha : QT X a t mt) (hb : QW X (.BoolOp .And (b :: es) pos) u mu) : QW X (.BoolOp .And (a :: b :: es) pos) (tAnd t u) (bAnd mt mu) := ⟨pw_and ha.pt hb.pw, fun G h => s_and (ha.sim G h) (hb.sim G h)⟩
theorem qw_or (ha : QT X a t mt) (hb : QW X (.BoolOp .Or (b :: es) pos) u mu) : QW X (.BoolOp .Or (a :: b :: es) pos) (tOr t u) (bOr mt mu) := ⟨pw_or ha.pt hb.pw, fun G h => s_or (ha.sim G h) (hb.sim G h)⟩
theorem qt_w (h : QW X e t mt) : QT X e t mt := ⟨h.pw.pt, h.sim⟩
theorem q_one {op : BoolOp} (h : QE X a ta ma) : QE X (.BoolOp op [a] pos) ta ma := ⟨pe_one h.pe, h.sim⟩
theorem q_and (ha : QE X a ta ma) (hb : QE X (.BoolOp .And (b :: es) pos) tb mb) : QE X (.BoolOp .And (a :: b :: es) pos) (tAndV ta tb) (eAndV ma mb) := ⟨pe_and ha.pe hb.pe, fun G h => s_andV (ha.sim G h) (hb.sim G h)⟩
theorem qa_nil : QA X [] tNil aNil := ⟨pa_nil, fun _ _ => s_nil⟩
theorem qa_cons (ha : QE X e te me) (hr : QA X es tA mA) (hs : starEach (e :: es) X.env = (false, eval e X.env) :: starEach es X.env := by rfl) : QA X (e :: es) (tCons te tA) (aCons me mA) := ⟨pa_cons ha.pe hr.pa hs, fun G h => s_cons (ha.sim G h) (hr.sim G h)⟩
theorem q_tup {x1} (h : QA X es tA mA) : QE X (.Tuple es x1 pos) (tTup tA) (eTup mA) := ⟨pe_tup h.pa, fun G hG => s_tup (h.sim G hG)⟩
theorem qn_disp (h : QA X es tA mA) : QN X (.List es pos) (tLst tA) (lDisp mA) := ⟨pe_lst h.pa, fun G hG => n_disp (h.sim G hG)⟩
theorem q_frz {m : ML} (h : QN X e te m) : QE X e te (eFrz m) := ⟨h.pe, fun G hG => s_frz (h.sim G hG)⟩
theorem q_own {m : ML} (h : QN X e te m) : QE X e te (eOwn m) := ⟨h.pe, fun G hG => s_own (h.sim G hG)⟩
theorem q_ix (ha : QE X a ta ma) (hb : QE X b tb mb) (hs : PlainIx b := by exact fun _ _ => rfl) : QE X (.Subscript a b pos) (tOp (rIx X.K) ta tb) (eOp fIx ma mb) := ⟨pe_ix ix_seq ha.pe hb.pe hs, fun G h => h ▸ s_op r_ix (ha.sim G h) (hb.sim G h)⟩
theorem qo_none : QO X none tNoPart oNone := ⟨po_none, fun _ _ => s_oNone⟩
theorem qo_some (h : QE X e te me) : QO X (some e) (tPart te) (oSome me) := ⟨po_some h.pe, fun G hG => s_oSome (h.sim G hG)⟩
theorem q_len (hm : X.mg "len" = none) (h : QA X [e] tA mA) (hg : Gl X "len" := by rfl) (he : starEach (e :: []) X.env = (false, eval e X.env) :: starEach [] X.env := by rfl) (hpl : (backTo pos (starEach [] X.env)).any (·.1) = false := by rfl) : QE X (.Call (.Name "len" p) [e] [] pos) (tCB (fun xs H Q => ∃ x n, xs = [x] ∧ LenV X.K x H n ∧ Q (.int n) H) tA) (eCB cLen mA) :=
  ⟨pe_callB call_len hg hm PySem.boot_len h.pa (by decide) (by decide) he hpl, fun G hG => hG ▸ s_cb c_len (h.sim G hG)⟩
theorem q_abs (hm : X.mg "abs" = none) (h : QA X [e] tA mA) (hg : Gl X "abs" := by rfl) (he : starEach (e :: []) X.env = (false, eval e X.env) :: starEach [] X.env := by rfl) (hpl : (backTo pos (starEach [] X.env)).any (·.1) = false := by rfl) : QE X (.Call (.Name "abs" p) [e] [] pos) (tCB (fun xs H Q => ∃ i, xs = [.int i] ∧ Q (.int (if i < 0 then -i else i)) H) tA) (eCB cAbs mA) :=
  ⟨pe_callB call_abs hg hm boot_abs h.pa (by decide) (by decide) he hpl, fun G hG => s_cb c_abs (h.sim G hG)⟩
theorem q_intc (hm : X.mg "int" = none) (h : QA X [e] tA mA) (hg : Gl X "int" := by rfl) (he : starEach (e :: []) X.env = (false, eval e X.env) :: starEach [] X.env := by rfl) (hpl : (backTo pos (starEach [] X.env)).any (·.1) = false := by rfl) : QE X (.Call (.Name "int" p) [e] [] pos) (tCB (fun xs H Q => (∃ i, xs = [.int i] ∧ Q (.int i) H) ∨ ∃ k, xs = [.bl k] ∧ Q (.int (if k then 1 else 0)) H) tA) (eCB cInt mA) :=
  ⟨pe_callTy call_int1 hg hm boot_int h.pa (by decide) (by decide) he hpl, fun G hG => s_cb c_int (h.sim G hG)⟩
theorem q_max2 (hc : X.calm = true) (hm : X.mg "max" = none) (h : QA X [a, b] tA mA) (hg : Gl X "max" := by rfl) (he : starEach (a :: [b]) X.env = (false, eval a X.env) :: starEach [b] X.env := by rfl) (hpl : (backTo pos (starEach [b] X.env)).any (·.1) = false := by rfl) : QE X (.Call (.Name "max" p) [a, b] [] pos) (tCB (fun xs H Q => ∃ i j, xs = [.int i, .int j] ∧ Q (.int (if j > i then j else i)) H) tA) (eCB cMax2 mA) :=
  ⟨pe_callB (call_max2 hc) hg hm boot_max h.pa (by decide) (by decide) he hpl, fun G hG => s_cb c_max2 (h.sim G hG)⟩
theorem q_maxL (hc : X.calm = true) (hm : X.mg "max" = none) (h : QA X [e] tA mA) (hg : Gl X "max" := by rfl) (he : starEach (e :: []) X.env = (false, eval e X.env) :: starEach [] X.env := by rfl) (hpl : (backTo pos (starEach [] X.env)).any (·.1) = false := by rfl) : QE X (.Call (.Name "max" p) [e] [] pos) (tCB (rMax X.K) tA) (eCB cMaxL mA) :=
  ⟨pe_callB (cr_max hc) hg hm boot_max h.pa (by decide) (by decide) he hpl, fun G hG => hG ▸ s_cb c_maxL (h.sim G hG)⟩
theorem q_all (hc : X.calm = true) (hm : X.mg "all" = none) (h : QA X [e] tA mA) (hg : Gl X "all" := by rfl) (he : starEach (e :: []) X.env = (false, eval e X.env) :: starEach [] X.env := by rfl) (hpl : (backTo pos (starEach [] X.env)).any (·.1) = false := by rfl) : QE X (.Call (.Name "all" p) [e] [] pos) (tCB (rAll X.K) tA) (eCB cAll mA) :=
  ⟨pe_callB (cr_all hc) hg hm (by decide +kernel) h.pa (by decide) (by decide) he hpl, fun G hG => hG ▸ s_cb c_all (h.sim G hG)⟩
theorem qn_list (hm : X.mg "list" = none) (h : QA X [e] tA mA) (hg : Gl X "list" := by rfl) (he : starEach (e :: []) X.env = (false, eval e X.env) :: starEach [] X.env := by rfl) (hpl : (backTo pos (starEach [] X.env)).any (·.1) = false := by rfl) : QN X (.Call (.Name "list" p) [e] [] pos) (tCB (fun xs H Q => ∃ p ys, xs = [.ref p] ∧ (SqL X.K H p ys ∨ SqT X.K H p ys) ∧ ∀ l, H l = none → Q (.ref l) (upd H l (.lst ys))) tA) (lCB cListOf mA) :=
  ⟨pe_callTy call_list_of hg hm boot_list h.pa (by decide) (by decide) he hpl, fun G hG => hG ▸ n_cb c_listOf (h.sim G hG)⟩
theorem q_isi {T : String} {x : Str} {p3 : Pos} (hm : X.mg "isinstance" = none) (hT : X.mg x = none) (hv : bootBuiltins x = some (.type T)) (h : QE X e te me) (hg : Gl X "isinstance" := by rfl) (hgx : Gl X x := by rfl) (hnx : x ≠ "__name__" := by decide) (hdx : (x == ("__debug__" : Str)) = false := by decide)
    (he : starEach (e :: [.Name x p3]) X.env = (false, eval e X.env) :: starEach [.Name x p3] X.env := by rfl) (he2 : starEach ((.Name x p3) :: []) X.env = (false, eval (.Name x p3) X.env) :: starEach [] X.env := by rfl) (hpl : (backTo pos (starEach [.Name x p3] X.env)).any (·.1) = false := by rfl) :
    QE X (.Call (.Name "isinstance" p) [e, .Name x p3] [] pos) (tCB (rIsi X.K) (tCons te (tCons (tC (.ty T)) tNil))) (eIsi me T) :=
  ⟨pe_callB call_isi hg hm boot_isinstance (pa_cons h.pe (pa_cons (pe_bltn (v := .ty T) hgx hT hv rfl hnx hdx) pa_nil he2) he) (by decide) (by decide) he hpl, fun G hG => hG ▸ s_isi (h.sim G hG)⟩
structure QTys (X : Cx) (es : List Expr) (Ts : List String) : Prop where
  pa : PA X es (tTys Ts)
theorem qty_nil : QTys X [] [] := ⟨pa_nil⟩
theorem qty_cons {T : String} {x : Str} {p3 : Pos} {Ts : List String} (hT : X.mg x = none) (hv : bootBuiltins x = some (.type T)) (h : QTys X es Ts) (hgx : Gl X x := by rfl) (hnx : x ≠ "__name__" := by decide) (hdx : (x == ("__debug__" : Str)) = false := by decide)
    (hs : starEach (.Name x p3 :: es) X.env = (false, eval (.Name x p3) X.env) :: starEach es X.env := by rfl) : QTys X (.Name x p3 :: es) (T :: Ts) := ⟨pa_cons (pe_bltn (v := .ty T) hgx hT hv rfl hnx hdx) h.pa hs⟩
theorem q_isiT {Ts : List String} {x1 : Nat} {p3 : Pos} (hm : X.mg "isinstance" = none) (h : QE X e te me) (hT : QTys X es Ts) (hg : Gl X "isinstance" := by rfl)
    (he : starEach (e :: [.Tuple es x1 p3]) X.env = (false, eval e X.env) :: starEach [.Tuple es x1 p3] X.env := by rfl) (he2 : starEach ((.Tuple es x1 p3) :: []) X.env = (false, eval (.Tuple es x1 p3) X.env) :: starEach [] X.env := by rfl) (hpl : (backTo pos (starEach [.Tuple es x1 p3] X.env)).any (·.1) = false := by rfl) :
    QE X (.Call (.Name "isinstance" p) [e, .Tuple es x1 p3] [] pos) (tCB (rIsiT X.K) (tCons te (tCons (tTup (tTys Ts)) tNil))) (eIsiT me Ts) :=
  ⟨pe_callB call_isiT hg hm boot_isinstance (pa_cons h.pe (pa_cons (pe_tup hT.pa) pa_nil he2) he) (by decide) (by decide) he hpl, fun G hG => hG ▸ s_isiT (h.sim G hG)⟩
theorem q_append {apos : Pos} (ho : QE X o to mo) (ha : QA X [e] tA mA) (hbase : attributeBase o "append" X.env (eval o X.env) = eval o X.env := by rfl)
    (hfew : ((backTo pos (starEach (e :: []) X.env)).all (fun x => !x.1) && (backToKw pos (keywordEach [] X.env)).all (fun x => x.1.isSome) && decide ((e :: []).length + ([] : List Keyword).length + (if ([] : List Keyword).isEmpty then 0 else 1) < 30)) = true := by rfl)
    (hline : (apos.endLine == pos.line) = true := by rfl) (hs : starEach (e :: []) X.env = (false, eval e X.env) :: starEach [] X.env := by rfl) (hplain : (backTo pos (starEach [] X.env)).any (·.1) = false := by rfl) :
    QE X (.Call (.Attribute o "append" apos) [e] [] pos) (tBM X.K "list" rAppend to tA) (eMethL mAppend mo mA) :=
  ⟨pe_bm PySem.F.plainAttrs_list PySem.F.slot_list_append PySem.F.type_list_append mt_append ho.pe ha.pa hbase hfew hline hs hplain, fun G hG => hG ▸ s_methL m_append (ho.sim G hG) (ha.sim G hG)⟩
theorem q_extend {apos : Pos} (ho : QE X o to mo) (ha : QA X [e] tA mA) (hbase : attributeBase o "extend" X.env (eval o X.env) = eval o X.env := by rfl)
    (hfew : ((backTo pos (starEach (e :: []) X.env)).all (fun x => !x.1) && (backToKw pos (keywordEach [] X.env)).all (fun x => x.1.isSome) && decide ((e :: []).length + ([] : List Keyword).length + (if ([] : List Keyword).isEmpty then 0 else 1) < 30)) = true := by rfl)
    (hline : (apos.endLine == pos.line) = true := by rfl) (hs : starEach (e :: []) X.env = (false, eval e X.env) :: starEach [] X.env := by rfl) (hplain : (backTo pos (starEach [] X.env)).any (·.1) = false := by rfl) :
    QE X (.Call (.Attribute o "extend" apos) [e] [] pos) (tBM X.K "list" rExtend to tA) (eMethL mExtend mo mA) :=
  ⟨pe_bm PySem.F.plainAttrs_list PySem.F.slot_list_extend PySem.F.type_list_extend mt_extend ho.pe ha.pa hbase hfew hline hs hplain, fun G hG => hG ▸ s_methL m_extend (ho.sim G hG) (ha.sim G hG)⟩
theorem q_callP {k n : Nat} {f : Addr} {fd : FuncData} {ps : List Str} {m : List PyData → Rp} {x : Str} (F : FnOk X.prog X.w X.K X.mg X.base CX0 k f fd ps (spP X.K n m)) (hr : Room k X.A) (hm : X.mg x = some (.ref f)) (hk : PySem.W.keepIn X.K (.ref f) = true) (hb : Binds X.K fd ps [])
    (ha : QA X (e :: es) tA mA) (hg : Gl X x := by rfl) (hdb : (x == ("__debug__" : Str)) = false := by decide) (he : starEach (e :: es) X.env = (false, eval e X.env) :: starEach es X.env := by rfl) (hpl : (backTo pos (starEach es X.env)).any (·.1) = false := by rfl) :
    QE X (.Call (.Name x p) (e :: es) [] pos) (tCall (spP X.K n m) [] E0 tA) (eCallP n m mA) :=
  ⟨pe_call F hr hg hm hk hb .nil pass0 ha.pa hdb he hpl, fun G hG => hG ▸ s_callP (ha.sim G hG)⟩
theorem q_callF {k n : Nat} {f : Addr} {fd : FuncData} {ps : List Str} {m : List PyData → Fl → Rf} {x : Str} (F : FnOk X.prog X.w X.K X.mg X.base CX0 k f fd ps (spF X.K n m)) (hr : Room k X.A) (hm : X.mg x = some (.ref f)) (hk : PySem.W.keepIn X.K (.ref f) = true) (hb : Binds X.K fd ps [])
    (ha : QA X (e :: es) tA mA) (hg : Gl X x := by rfl) (hdb : (x == ("__debug__" : Str)) = false := by decide) (he : starEach (e :: es) X.env = (false, eval e X.env) :: starEach es X.env := by rfl) (hpl : (backTo pos (starEach es X.env)).any (·.1) = false := by rfl) :
    QE X (.Call (.Name x p) (e :: es) [] pos) (tCall (spF X.K n m) [] E0 tA) (eCallF n m mA) :=
  ⟨pe_call F hr hg hm hk hb .nil pass0 ha.pa hdb he hpl, fun G hG => hG ▸ s_callF (ha.sim G hG)⟩
end
end NW
namespace NW
open PySem PySem.Spec PyProof.Rows L2
section
variable {X : Cx} {a b c e o i tg : Expr} {es : List Expr} {pos p p2 pos2 : Pos} {ta tb tc te to ti : TE} {ma mb mc me mo mi : ME} {t u : TT} {mt mu : MB} {tA : TA} {mA : MA}
theorem qi_any (h : QE X e te me) : QI X tg e (iAny X.K te) (mAny me) := ⟨pi_any h.pe, fun G hG => hG ▸ i_any (h.sim G hG)⟩
theorem qi_r1 (hm : X.mg "range" = none) (h : QA X [a] tA mA) (hg : Gl X "range" := by rfl) (hs : starEach [a] X.env = [(false, eval a X.env)] := by rfl) : QI X tg (.Call (.Name "range" p) [a] [] pos) (iRng1 tA) (mR1 mA) := ⟨pi_range1 hg hm h.pa hs, fun G hG => i_r1 (h.sim G hG)⟩
theorem qg_name (i : Nat) {x : Str} (hN : X.N.Nodup) (hi : X.N[i]? = some x := by rfl) (hx : L2.Loc X.env.scope x := by first | exact Or.inl rfl | exact Or.inr rfl) (hf : X.fn x = true ∨ X.env.scope.names.lookup x = some .local := by first | exact .inl rfl | exact .inr rfl) : QG X [i] (.Name x pos) (gName i) (gNameM i) := ⟨pg_name hN hi hx hf, fun G _ => g_name i⟩
theorem qgs_nil : QGs X [] [] gNil gNilM := ⟨pgs_nil, fun _ _ => g_nil, gNil_noEx⟩
theorem qgs_cons {vs ws : List Nat} {g : TG} {gs : TGs} {m : MT} {ms : MTs} (h1 : QG X vs e g m) (n1 : ∀ u l st, (m u l st).noEx) (h2 : QGs X ws es gs ms) (hs : (assignEach (e :: es) X.env).map (·.2) = assign e X.env :: (assignEach es X.env).map (·.2) := by rfl) : QGs X (vs ++ ws) (e :: es) (gCons g gs) (gConsM m ms) :=
  ⟨pgs_cons h1.pg h2.pgs hs, fun G h => g_cons (h1.sim G h) (h2.sim G h) h2.ne, gCons_noEx n1 h2.ne⟩
theorem qg_tup {vs : List Nat} {gs : TGs} {ms : MTs} {k : Nat} {n : Nat} (hc : X.calm = true) (h : QGs X vs es gs ms) (hn : (assignEach es X.env).length = n := by rfl) (hst : (assignEach es X.env).findIdx? (·.1) = none := by rfl) : QG X vs (.Tuple es k pos) (gTup X.K n gs) (gTupM n ms) := ⟨pg_tup hc h.pgs hn hst, fun G hG => hG ▸ g_tup (h.sim G hG)⟩
theorem qg_sub (ho : QE X o to mo) (hi : QE X i ti mi) (ha : ∀ v, assign (.Subscript o i pos) X.env v = (do
      let ov ← holding [v] (eval o X.env)
      let iv ← holding [v, ov] (eval i X.env)
      standAt pos
      holding [v, ov, iv] (setItem ov iv v)
      release [v, ov, iv] []) := by intro _; rfl) : QG X [] (.Subscript o i pos) (gSub to ti rSetL) (gSubM mo mi) := ⟨pg_sub ho.pe hi.pe set_list ha, fun G hG => g_sub (ho.sim G hG) (hi.sim G hG)⟩
variable {s : Stmt} {rest body : List Stmt} {ts us : TS} {m n : MS}
theorem qss_nil : QSs X [] tNext sNext := ⟨pss_nil, fun _ _ => t_next⟩
theorem qss_cons (h1 : QS X s ts m) (h2 : QSs X rest us n) : QSs X (s :: rest) (tSeq ts us) (sSeq m n) := ⟨pss_cons h1.ps h2.pss, fun G h => t_seq (h1.sim G h) (h2.sim G h)⟩
theorem qss_one (h1 : QS X s ts m) : QSs X [s] ts m := ⟨pss_one h1.ps, h1.sim⟩
theorem qs_set (i : Nat) {x : Str} (hN : X.N.Nodup) (he : QE X e te me) (hi : X.N[i]? = some x := by rfl) (hx : L2.Loc X.env.scope x := by first | exact Or.inl rfl | exact Or.inr rfl) (hs : swapsWith e (some (.Name x p2)) pos.line X.env = pure false := by rfl)
    (hf : X.fn x = true ∨ X.env.scope.names.lookup x = some .local := by first | exact .inl rfl | exact .inr rfl) : QS X (.Assign [.Name x p2] e pos) (tAsg te (gName i)) (sAsg i me) := ⟨ps_set hN hi hx he.pe hs hf, fun G h => t_asg (he.sim G h)⟩
theorem qs_asg {vs : List Nat} {g : TG} {mg' : MT} (he : QE X e te me) (hg : QG X vs tg g mg') (hs : swapsWithSole [tg] e pos.line X.env = pure false := by rfl) (hw : swappedStores [tg] e X.env = pure none := by rfl) (h1 : (assignEach [tg] X.env).map (·.2) = [assign tg X.env] := by rfl) :
    QS X (.Assign [tg] e pos) (tAsg te g) (sAsgG me mg') := ⟨ps_asg he.pe hg.pg hs hw h1, fun G h => t_asgG (he.sim G h) (hg.sim G h)⟩
theorem qs_par (i j : Nat) {x y : Str} {px py pt : Pos} {kt k2 : Nat} {pt2 : Pos} (hc : X.calm = true) (hN : X.N.Nodup) (ha : QA X [a, b] tA mA) (hij : i ≠ j := by decide) (hi : X.N[i]? = some x := by rfl) (hj : X.N[j]? = some y := by rfl) (hx : X.env.scope.names.lookup x = some .local := by rfl) (hy : X.env.scope.names.lookup y = some .local := by rfl)
    (hw : swappedStores [.Tuple [.Name x px, .Name y py] kt pt] (.Tuple [a, b] k2 pt2) X.env = pure (some [x, y]) := by rfl) (hs : swapsWithSole [.Tuple [.Name x px, .Name y py] kt pt] (.Tuple [a, b] k2 pt2) pos.line X.env = pure false := by rfl) :
    QS X (.Assign [.Tuple [.Name x px, .Name y py] kt pt] (.Tuple [a, b] k2 pt2) pos) (tPar i j tA) (sPar i j mA) := ⟨ps_par hc hN hi hj hij hx hy ha.pa hw hs, fun G h => t_par (ha.sim G h)⟩
theorem qs_expr (he : QE X e te me) (hs : swapsWith e none pos.line X.env = pure false := by rfl) : QS X (.Expr e pos) (tDrop te) (sDrop me) := ⟨ps_expr he.pe hs, fun G h => t_drop (he.sim G h)⟩
theorem qs_ret (he : QE X e te me) : QS X (.Return (some e) pos) (tRet te) (sRet me) := ⟨ps_ret he.pe, fun G h => t_ret (he.sim G h)⟩
theorem qs_if {ct : TT} {cm : MB} {x y : List Stmt} (hc : QT X c ct cm) (ha : QSs X x ts m) (hb : QSs X y us n) : QS X (.If c x y pos) (tIfS ct ts us) (sIf cm m n) := ⟨ps_if hc.pt ha.pss hb.pss, fun G h => t_if (hc.sim G h) (ha.sim G h) (hb.sim G h)⟩
theorem qs_while {ct : TT} {cm : MB} (hp : PassesOwn (model X.prog X.w) X.A X.env X.xe) (hc : QT X c ct cm) (hb : QSs X body ts m) : QS X (.While c body [] pos) (tWhile ct ts) (sWhile cm m) := ⟨ps_while hp hc.pt hb.pss, fun G h => t_while (hc.sim G h) (hb.sim G h)⟩
theorem qs_for {wi : TI} {im : MI} {vs : List Nat} {g : TG} {gm : MT} (hp : PassesOwn (model X.prog X.w) X.A X.env X.xe) (hc : X.calm = true) (hi : QI X tg e wi im) (hg : QG X vs tg g gm) (hb : QSs X body ts m) (hs : ∀ x, foldedSetIterable e X.env x = pure x := by intro _; rfl) :
    QS X (.For tg e body [] pos) (tFor wi g ts) (sFor im gm m) := ⟨ps_for hp hc hi.pi hg.pg hb.pss hs, fun G h => t_for (hi.sim G h) (hg.sim G h) (hb.sim G h)⟩
structure QTs (X : Cx) (ifs : List Expr) (t : TT) (m : MB) : Prop where
  pts : PTs X ifs t
  sim : ∀ G : Gx, G.K = X.K → SimT G t m
def bYes : MB := fun _ st => .ok true st
theorem qts_nil : QTs X [] tYes bYes := ⟨pts_nil, fun G _ β H σ l st re Q h => wpR_b re.rl h⟩
theorem qn_lc {elt tg iter : Expr} {ifs : List Expr} {scope : Scope} (own : List (Str × Nat)) {wi : TI} {g : TG} {tt : TT} {te : TE} {im : MI} {ws : List Nat} {gm : MT} {cm : MB} {em : ME} (hc : X.calm = true) (hN : X.N.Nodup) (hi : QI X tg iter wi im)
    {N : List Str} {sc : Scope} (hNN : X.N = N) (hss : X.env.scope = sc) (ok : blkC N sc scope own = true)
    (hg : ∀ (s : Shared) (H : Hp) (C : Addr) (cl : List (Str × Addr)) (fp : List Addr), QG (X.blk s H scope (compEnvC scope cl C X.env) fp) ws tg g gm)
    (ht : ∀ (s : Shared) (H : Hp) (C : Addr) (cl : List (Str × Addr)) (fp : List Addr), QTs (X.blk s H scope (compEnvC scope cl C X.env) fp) ifs tt cm)
    (he : ∀ (s : Shared) (H : Hp) (C : Addr) (cl : List (Str × Addr)) (fp : List Addr), QE (X.blk s H scope (compEnvC scope cl C X.env) fp) elt te em)
    (hsub : ∀ i ∈ ws, i ∈ own.map (·.2)) (hs : ∀ x, foldedSetIterable iter X.env x = pure x := by intro _; rfl) :
    QN X (.ListComp elt [⟨tg, iter, ifs, 0⟩] scope pos) (tLc wi g tt te (own.map (·.2))) (lLc im (own.map (·.2)) gm cm em) :=
  ⟨pe_lc hc hN hi.pi (by rw [hNN, hss]; exact blkOk_by ok) (fun s H C cl fp => (hg s H C cl fp).pg) (fun s H C cl fp => (ht s H C cl fp).pts) (fun s H C cl fp => (he s H C cl fp).pe) hs,
    fun G h => n_lc (hi.sim G h) (fun D => (hg X.s_0 (fun _ => none) 0 [] []).sim (G.ban D) h) hsub (fun D => (ht X.s_0 (fun _ => none) 0 [] []).sim (G.ban D) h) (fun D => (he X.s_0 (fun _ => none) 0 [] []).sim (G.ban D) h)⟩
theorem qs_setLc {elt tg iter : Expr} {ifs : List Expr} {scope : Scope} {y : Str} {py : Pos} (iy : Nat) (own : List (Str × Nat)) (fz : Bool) {wi : TI} {g : TG} {tt : TT} {te : TE} {im : MI} {ws : List Nat} {gm : MT} {cm : MB} {em : ME} (hc : X.calm = true) (hN : X.N.Nodup)
    (hsw : swapsWith (.ListComp elt [⟨tg, iter, ifs, 0⟩] scope pos) (some (.Name y py)) pos2.line X.env = pure true) (hi : QI X tg iter wi im)
    {N : List Str} {sc : Scope} (hNN : X.N = N) (hss : X.env.scope = sc) (ok : blkC N sc scope own = true)
    (hg : ∀ (s : Shared) (H : Hp) (C : Addr) (cl : List (Str × Addr)) (fp : List Addr), QG (X.blk s H scope (compEnvC scope cl C X.env) fp) ws tg g gm)
    (ht : ∀ (s : Shared) (H : Hp) (C : Addr) (cl : List (Str × Addr)) (fp : List Addr), QTs (X.blk s H scope (compEnvC scope cl C X.env) fp) ifs tt cm)
    (he : ∀ (s : Shared) (H : Hp) (C : Addr) (cl : List (Str × Addr)) (fp : List Addr), QE (X.blk s H scope (compEnvC scope cl C X.env) fp) elt te em)
    (hsub : ∀ i ∈ ws, i ∈ own.map (·.2)) (hyi : X.N[iy]? = some y := by rfl) (hyl : X.env.scope.names.lookup y = some .local := by rfl) (hs : ∀ x, foldedSetIterable iter X.env x = pure x := by intro _; rfl) :
    QS X (.Assign [.Name y py] (.ListComp elt [⟨tg, iter, ifs, 0⟩] scope pos) pos2) (tAsg (tLc wi g tt te (own.map (·.2))) (gName iy)) (sAsg iy (if fz = true then eFrz (lLc im (own.map (·.2)) gm cm em) else eOwn (lLc im (own.map (·.2)) gm cm em))) :=
  ⟨ps_setLc hc hN hyi hyl hsw hi.pi (by rw [hNN, hss]; exact blkOk_by ok) (fun s H C cl fp => (hg s H C cl fp).pg) (fun s H C cl fp => (ht s H C cl fp).pts) (fun s H C cl fp => (he s H C cl fp).pe) hs,
    fun G h => t_asg (by
      have z := n_lc (hi.sim G h) (fun D => (hg X.s_0 (fun _ => none) 0 [] []).sim (G.ban D) h) hsub (fun D => (ht X.s_0 (fun _ => none) 0 [] []).sim (G.ban D) h) (fun D => (he X.s_0 (fun _ => none) 0 [] []).sim (G.ban D) h)
      cases fz with
      | true => exact s_frz z
      | false => exact s_own z)⟩
end
end NW
namespace NW
open PySem PySem.Spec PyProof.Rows L2
section
variable {G : Gx} {β β' : List Addr} {st st' : Sto} {H H' : Hp} {v : V} {u : U} {σ σ' : L2.St} {l l' : Loc}
def rAddS : R2 := fun x y H Q => ∃ i j, x = .str i ∧ y = .str j ∧ i.length + j.length ≤ sizeLine ∧ Q (.str (i ++ j)) H
def rAddA (K : PySem.W.Frag) : R2 := fun x y H Q => (rI0 (fun i j => .int (i + j)) x y H Q ∨ rAddS x y H Q) ∨ (rCatA K x y H Q ∨ rCat x y H Q)
theorem op_addA {X : Cx} : OpR X (binaryOp .Add) (rAddA X.K) := (op_add.or op_add_str).or (op_catA.or op_cat)
def fAddA : U → U → Sto → Res U := fun a b st => match a, b with
  | .d (.int i), .d (.int j) => .ok (.d (.int (i + j))) st
  | .d (.str x), .d (.str y) => if lenOk (x.length + y.length) = true then .ok (.d (.str (x ++ y))) st else .no
  | .d (.tuple xs), .d (.tuple ys) => if lenOk (xs.length + ys.length) = true then .ok (.d (.tuple (xs ++ ys))) st else .no
  | a, b => (match listOf st a, listOf st b with
    | some xs, some ys => if lenOk (xs.length + ys.length) = true then .ok (.d (.list (xs ++ ys))) st else .no
    | _, _ => .no)
theorem r_addA : SimR G (rAddA G.K) fAddA := fun β H σ l st re x y a b Q hx hy h => by
  unfold fAddA at h
  split at h
  · rename_i i j
    cases ru_int hx; cases ru_int hy
    exact .inl (.inl ⟨i, j, rfl, rfl, wpR_d re.rl (.int _) h⟩)
  · rename_i i j
    cases ru_str hx; cases ru_str hy
    split at h
    · rename_i q
      exact .inl (.inr ⟨i, j, rfl, rfl, of_decide_eq_true q, wpR_d re.rl (.str _) h⟩)
    · exact h.elim
  · rename_i xs ys
    split at h
    · rename_i q
      obtain ⟨p, vs, rfl, s1, r1⟩ := tup_q hx (xs := xs) rfl
      obtain ⟨p', ws, rfl, s2, r2⟩ := tup_q hy (xs := ys) rfl
      refine .inr (.inl ⟨p, p', vs, ws, rfl, rfl, s1, s2, by rw [r1.len, r2.len]; exact of_decide_eq_true q, fun e => ?_, fun e1 e => ?_, fun e1 e2 z hz => ?_⟩)
      · subst e
        have e0 : xs = [] := by have := r1.len; simp at this; exact List.eq_nil_of_length_eq_zero this.symm
        subst e0
        exact wpR_u re.rl hy h
      · subst e
        have e0 : ys = [] := by have := r2.len; simp at this; exact List.eq_nil_of_length_eq_zero this.symm
        subst e0
        rw [List.append_nil] at h
        exact wpR_u re.rl hx h
      · obtain ⟨f4, rl4, rt⟩ := new_tup re.rl hz (r1.append r2)
        exact h _ _ β f4 rl4 rt
    · exact h.elim
  · split at h
    · rename_i xs ys e1 e2
      split at h
      · rename_i q
        obtain ⟨p, vs, rfl, h1, r1⟩ := list_h re.rl hx e1
        obtain ⟨p', ws, rfl, h2, r2⟩ := list_h re.rl hy e2
        refine .inr (.inr ⟨p, p', vs, ws, rfl, rfl, h1, h2, by rw [r1.len, r2.len]; exact of_decide_eq_true q, fun z hz => ?_⟩)
        obtain ⟨f4, rl4, rt⟩ := new_lst re.rl hz (r1.append r2)
        exact h _ _ β f4 rl4 rt
      · exact h.elim
    · exact h.elim
theorem tuple_mul1 (l : Addr) (items : Array Value) (n : Nat) (dd : Option Addr) (sl : Array (Option Value)) (x : Int) (u : Tok) (c0 : (decide (x < -(2 ^ 63)) || decide (x ≥ 2 ^ 63)) = false) (c1 : (items.isEmpty || x == 1) = true) :
    Meets (Builtin.«tuple.__mul__» ⟨[.ref l, .int x u], []⟩) (fun _ R s => s.heap.get? l = some { cls := .type "tuple", dict := dd, data := .seq items n, slots := sl } ∧ R (.ok (.ret (Value.ref l))) s) :=
  .of_wp fun prog w A R s h => by
    obtain ⟨hp, g, d, tk, os⟩ := s
    obtain ⟨hl, h⟩ := h
    have f1 := AutoSeq1.idx_int
    wp_walk using wpAny_loadPart' hl
    repeat (first
      | (refine wpAny_ite_false (decide_eq_false (by rw [c0]; exact Bool.false_ne_true)) ?_; wp_walk using wpAny_loadPart' hl)
      | (refine wpAny_ite_true (decide_eq_true c1) ?_; wp_walk using wpAny_loadPart' hl))
    exact ⟨_, rfl, h⟩
def rRep1T (K : PySem.W.Frag) : R2 := fun x y H Q => ∃ l k xs, x = .ref l ∧ y = .int k ∧ SqT K H l xs ∧ (xs = [] ∨ k = 1) ∧ -(2 ^ 62) ≤ k ∧ k < 2 ^ 62 ∧ Q (.ref l) H
theorem op_rep1T {X : Cx} : OpR X (binaryOp .Mult) (rRep1T X.K) := by
  intro pins s σ H x y v u Q I rx ry h
  obtain ⟨l, k, xs, rfl, rfl, hT, h1, h2, h3, q⟩ := h
  cases rx
  obtain ⟨t, rfl⟩ := ry
  obtain ⟨its, r, ⟨⟨cls, dd, data, sl⟩, ho, hc, n, hd⟩, hs⟩ := I.tuple hT
  simp only at hc hd
  subst hc hd
  have hle : its.length = xs.length := r.length.symm
  have c0 : (decide (k < -(2 ^ 63)) || decide (k ≥ 2 ^ 63)) = false := by
    rw [decide_eq_false (by omega), decide_eq_false (by omega)] <;> rfl
  have c1 : (its.toArray.isEmpty || k == 1) = true := by
    rcases h1 with h1 | h1
    · have : its = [] := List.eq_nil_of_length_eq_zero (by rw [hle, h1]; rfl)
      rw [this]; rfl
    · rw [h1]; simp
  exact wpAny_binaryOp_repeat_ref (T := "tuple") (U := "int") (by decide) ⟨_, ho, rfl⟩ (fun s' => typeIs_int s' k t) noFill_tuple_mul F.fills_int_mul F.slot_int_rmul repeat_tuple F.slot_int_index.lookup
    (call_meets F.slot_int_rmul (typeIs_int s k t) F.entry_int_rmul (F.args_int_rmul_2 _ _) (int_rmul_tuple k t l its.toArray n dd sl)
      ⟨ho, rfl, ⟨_, ho, rfl⟩, call_meets F.slot_tuple_mul ⟨_, ho, rfl⟩ F.entry_tuple_mul (F.args_tuple_mul_2 _ _) (tuple_mul1 l its.toArray n dd sl k t c0 c1) ⟨ho, ⟨.ref l, H, I, rfl, q⟩⟩⟩)
def rMulA (K : PySem.W.Frag) : R2 := fun x y H Q => (rI CMulW (fun i j => .int (i * j)) x y H Q ∨ rRep x y H Q) ∨ (rRepT K x y H Q ∨ rRep1T K x y H Q)
theorem op_mulA {X : Cx} : OpR X (binaryOp .Mult) (rMulA X.K) := (op_mulW.or op_rep).or (op_repT.or op_rep1T)
def fMulA : U → U → Sto → Res U := fun a b st => match a, b with
  | .d (.int i), .d (.int j) => if mulC i j = true then .ok (.d (.int (i * j))) st else .no
  | .d (.tuple xs), .d (.int k) => if decide (2 ≤ k ∧ k ≤ 1000 ∧ xs.length ≤ 1000 ∧ xs ≠ []) = true then .ok (.d (.tuple (List.replicate k.toNat xs).flatten)) st
    else if decide ((xs = [] ∨ k = 1) ∧ -(2 ^ 62) ≤ k ∧ k < 2 ^ 62) = true then .ok (.d (.tuple xs)) st else .no
  | a, .d (.int k) => (match listOf st a with
    | some xs => if (decide (-(2 ^ 63) ≤ k ∧ k < 2 ^ 63) && lenOk (xs.length * k.toNat)) = true then .ok (.d (.list (List.replicate k.toNat xs).flatten)) st else .no
    | none => .no)
  | _, _ => .no
theorem r_mulA : SimR G (rMulA G.K) fMulA := fun β H σ l st re x y a b Q hx hy h => by
  unfold fMulA at h
  split at h
  · rename_i i j
    cases ru_int hx; cases ru_int hy
    split at h
    · rename_i q
      have q' := of_decide_eq_true q
      exact .inl (.inl ⟨i, j, rfl, rfl, q', wpR_d re.rl (.int _) h⟩)
    · exact h.elim
  · rename_i xs k
    cases ru_int hy
    obtain ⟨p, vs, rfl, s1, r1⟩ := tup_q hx (xs := xs) rfl
    split at h
    · rename_i q
      have q := of_decide_eq_true q
      refine .inr (.inl ⟨p, k, vs, rfl, rfl, s1, fun e => q.2.2.2 (List.eq_nil_of_length_eq_zero (by rw [← r1.len, e]; rfl)), q.1, q.2.1, by rw [r1.len]; exact q.2.2.1, fun z hz => ?_⟩)
      obtain ⟨f4, rl4, rt⟩ := new_tup re.rl hz (rts_rep r1 k.toNat)
      exact h _ _ β f4 rl4 rt
    · split at h
      · rename_i q
        have q := of_decide_eq_true q
        refine .inr (.inr ⟨p, k, vs, rfl, rfl, s1, q.1.imp (fun e => List.eq_nil_of_length_eq_zero (by rw [r1.len, e]; rfl)) id, q.2.1, q.2.2, ?_⟩)
        exact wpR_u re.rl hx h
      · exact h.elim
  · rename_i k _ _
    cases ru_int hy
    split at h
    · rename_i xs e1
      split at h
      · rename_i q
        rw [Bool.and_eq_true] at q
        obtain ⟨p, vs, rfl, h1, r1⟩ := list_h re.rl hx e1
        have q1 := of_decide_eq_true q.1
        refine .inl (.inr ⟨p, k, vs, rfl, rfl, h1, q1.1, q1.2, by rw [r1.len]; exact of_decide_eq_true q.2, fun z hz => ?_⟩)
        obtain ⟨f4, rl4, rt⟩ := new_lst re.rl hz (rts_rep r1 _)
        exact h _ _ β f4 rl4 rt
      · exact h.elim
    · exact h.elim
  · exact h.elim
def rSlAny (K : PySem.W.Frag) : V → Option Int → Option Int → Hp → VK → Prop := fun x lo hi H Q => (rSlL K x lo hi H Q ∨ rSlA K x lo hi H Q) ∨ rSlS x lo hi H Q
theorem sl_any {X : Cx} : SlR X (rSlAny X.K) := (sl_list.or sl_tupA).or sl_str
def fSl (u : U) (a b : Option Int) (st : Sto) : Res U := match u with
  | .d (.tuple xs) => .ok (.d (.tuple (cutD xs a b))) st
  | .d (.str z) => if lenOk z.length = true then .ok (.d (.str (cutS z a b))) st else .no
  | u => (match listOf st u with
    | some xs => .ok (.d (.list (cutD xs a b))) st
    | none => .no)
def eSlAny (m : ME) (lo hi : MO) : ME := fun l st => (m l st).bind fun u st => (lo l st).bind fun a st => (hi l st).bind fun b st => fSl u a b st
theorem s_slAny {t : TE} {tl th : TO} {m : ME} {lo hi : MO} (h : SimE G t m) (h1 : SimO G tl lo) (h2 : SimO G th hi) : SimE G (tSl (rSlAny G.K) t tl th) (eSlAny m lo hi) := fun β H σ l st re Q q => by
  refine h β H σ l st re _ (wpR_bind q fun v u H1 β1 st1 f1 rl1 p1 q1 => ?_)
  have re1 := f1.re rl1 re
  refine h1 β1 H1 σ l st1 re1 _ (wpR_bind q1 fun a a' H2 β2 st2 f2 rl2 p2 q2 => ?_)
  cases (show a = a' from p2)
  have re2 := f2.re rl2 re1
  refine h2 β2 H2 σ l st2 re2 _ (wpR_bind q2 fun b b' H3 β3 st3 f3 rl3 p3 q3 => ?_)
  cases (show b = b' from p3)
  have p4 := f3.ru (f2.ru p1)
  unfold fSl at q3
  split at q3
  · rename_i xs
    obtain ⟨p, vs, rfl, s, r⟩ := tup_q p4 (xs := xs) rfl
    refine .inl (.inr ⟨p, vs, rfl, s, fun w => ?_, fun w z hz => ?_⟩)
    · rw [r.len] at w
      rw [cut_whole w] at q3
      exact wpR_u rl3 p4 q3
    · obtain ⟨f4, rl4, rt⟩ := new_tup rl3 hz (r.cut a b)
      exact q3 _ _ β3 f4 rl4 rt
  · rename_i z
    cases ru_str p4
    split at q3
    · rename_i hz
      exact .inr ⟨z, rfl, of_decide_eq_true hz, wpR_d rl3 (.str _) q3⟩
    · exact q3.elim
  · split at q3
    · rename_i xs e
      obtain ⟨p, vs, rfl, s, r⟩ := list_q rl3 p4 e
      refine .inl (.inl ⟨p, vs, rfl, s, fun z hz => ?_⟩)
      obtain ⟨f4, rl4, rt⟩ := new_lst rl3 hz (r.cut a b)
      exact q3 _ _ β3 f4 rl4 rt
    · exact q3.elim
end
section
variable {X : Cx} {a b c e o i : Expr} {es : List Expr} {pos p pos2 : Pos} {ta tb tc te to ti : TE} {ma mb mc me mo mi : ME} {t u : TT} {mt mu : MB} {tA : TA} {mA : MA}
theorem q_addA (ha : QE X a ta ma) (hb : QE X b tb mb) : QE X (.BinOp a .Add b pos) (tOp (rAddA X.K) ta tb) (eOp fAddA ma mb) := ⟨pe_op op_addA ha.pe hb.pe, fun G h => h ▸ s_op r_addA (ha.sim G h) (hb.sim G h)⟩
theorem q_mulA (ha : QE X a ta ma) (hb : QE X b tb mb) : QE X (.BinOp a .Mult b pos) (tOp (rMulA X.K) ta tb) (eOp fMulA ma mb) := ⟨pe_op op_mulA ha.pe hb.pe, fun G h => h ▸ s_op r_mulA (ha.sim G h) (hb.sim G h)⟩
theorem q_slA {lo hi : Option Expr} {tl th : TO} {ml mh : MO} (he : QE X e te me) (hl : QO X lo tl ml) (hh : QO X hi th mh) : QE X (.Subscript e (.Slice lo hi none pos2) pos) (tSl (rSlAny X.K) te tl th) (eSlAny me ml mh) := ⟨pe_slice sl_any he.pe hl.po hh.po, fun G h => h ▸ s_slAny (he.sim G h) (hl.sim G h) (hh.sim G h)⟩
end
structure DefIn (K : PySem.W.Frag) (mg : Str → Option Value) (x : Str) (st : Stmt) (ps : List Str) : Prop where
  ex : ∃ f fd, Fun K x x st f fd ∧ mg x = some (.ref f) ∧ Binds K fd ps []
structure Cal (P : Program) (w : World) (K : PySem.W.Frag) (mg : Str → Option Value) (base : Heap) (k : Nat) (x : Str) (ps : List Str) (sp : Sp) : Prop where
  ex : ∃ f fd, FnOk P w K mg base CX0 k f fd ps sp ∧ mg x = some (.ref f) ∧ PySem.W.keepIn K (.ref f) = true ∧ Binds K fd ps []
structure ConIn (K : PySem.W.Frag) (mg : Str → Option Value) (x : Str) (d : PyData) : Prop where
  ex : ∃ u v, mg x = some u ∧ IsC K u v d
section
variable {P : Program} {w : World} {K : PySem.W.Frag} {mg : Str → Option Value} {base : Heap} {N ps : List Str} {x : Str} {st : Stmt} {k : Nat} {b : MS}
theorem calP (D : DefIn K mg x st ps) (S : FnScope N ps (defScope st)) (hN : ps.length ≤ N.length)
    (hb : ∀ (f : Addr) (cdv : Value) (A : Around) (outer : List Env) (s : Shared) (H : Hp) (E : XK), Room k (A.deeper (envOfC x (defScope st) s.heap.objs.size f cdv)) →
      ∃ t, QSs (cxOf CX0 P w K mg base N x (defScope st) f cdv A outer s H E).nox (defBody st) t b) : Cal P w K mg base (k + 1) x ps (spP K ps.length (pureOf N.length b)) := by
  obtain ⟨f, fd, F, hm, hb'⟩ := D.ex
  refine ⟨f, fd, okP F S hN (fun cdv A outer s H E hr => ?_), hm, F.kp, hb'⟩
  obtain ⟨t, h⟩ := hb f cdv A outer s H E hr
  exact ⟨t, h.pss, fun G hG => h.sim G hG⟩
theorem calF (D : DefIn K mg x st ps) (S : FnScope N ps (defScope st)) (hN : ps.length ≤ N.length)
    (hb : ∀ (f : Addr) (cdv : Value) (A : Around) (outer : List Env) (s : Shared) (H : Hp) (E : XK), Room k (A.deeper (envOfC x (defScope st) s.heap.objs.size f cdv)) →
      ∃ t, QSs (cxOf CX0 P w K mg base N x (defScope st) f cdv A outer s H E).nox (defBody st) t b) : Cal P w K mg base (k + 1) x ps (spF K ps.length (flowOf N.length b)) := by
  obtain ⟨f, fd, F, hm, hb'⟩ := D.ex
  refine ⟨f, fd, okF F S hN (fun cdv A outer s H E hr => ?_), hm, F.kp, hb'⟩
  obtain ⟨t, h⟩ := hb f cdv A outer s H E hr
  exact ⟨t, h.pss, fun G hG => h.sim G hG⟩
end
section
variable {X : Cx} {e : Expr} {es : List Expr} {pos p : Pos} {tA : TA} {mA : MA}
theorem q_calP {k j n : Nat} {ps : List Str} {m : List PyData → Rp} {x : Str} (C : Cal X.prog X.w X.K X.mg X.base k x ps (spP X.K n m)) (hr : Room j X.A) (hkj : k ≤ j) (ha : QA X (e :: es) tA mA) (hg : Gl X x := by rfl) (hdb : (x == ("__debug__" : Str)) = false := by decide)
    (he : starEach (e :: es) X.env = (false, eval e X.env) :: starEach es X.env := by rfl) (hpl : (backTo pos (starEach es X.env)).any (·.1) = false := by rfl) :
    QE X (.Call (.Name x p) (e :: es) [] pos) (tCall (spP X.K n m) [] E0 tA) (eCallP n m mA) := by
  obtain ⟨f, fd, F, hm, hk, hb⟩ := C.ex
  exact q_callP F (hr.mono hkj) hm hk hb ha hg hdb he hpl
theorem q_calF {k j n : Nat} {ps : List Str} {m : List PyData → Fl → Rf} {x : Str} (C : Cal X.prog X.w X.K X.mg X.base k x ps (spF X.K n m)) (hr : Room j X.A) (hkj : k ≤ j) (ha : QA X (e :: es) tA mA) (hg : Gl X x := by rfl) (hdb : (x == ("__debug__" : Str)) = false := by decide)
    (he : starEach (e :: es) X.env = (false, eval e X.env) :: starEach es X.env := by rfl) (hpl : (backTo pos (starEach es X.env)).any (·.1) = false := by rfl) :
    QE X (.Call (.Name x p) (e :: es) [] pos) (tCall (spF X.K n m) [] E0 tA) (eCallF n m mA) := by
  obtain ⟨f, fd, F, hm, hk, hb⟩ := C.ex
  exact q_callF F (hr.mono hkj) hm hk hb ha hg hdb he hpl
end
end NW
namespace NW
open PySem PySem.Spec PyProof.Rows L2
def fl0 (ns : List Int) : Fl := ⟨ns, 0, 0, 1, 0⟩
def spFl (K : PySem.W.Frag) : Sp := fun vs H Q _ => ∃ (a : Addr) (ns : List Int), vs = [.ref a] ∧ SqL K H a (ns.map V.int) ∧
  ∀ H' fa fb, (∀ b o, H b = some o → H' b = some o) → H fa = none → fb ≠ fa → H' fa = some (.lst (flV fb (fl0 ns))) → H' fb = some (.lst (ns.map V.int)) → Q (.ref fa) H'
def spLaw (K : PySem.W.Frag) : Sp := fun vs H Q _ => ∃ (a : Addr) (ns : List Int), vs = [.ref a] ∧ SqL K H a (ns.map V.int) ∧ ns.length ≤ 63 ∧ ∀ H', Q (.bl true) H'
section
variable {P : Program} {w : World} {K : PySem.W.Frag} {mg : Str → Option Value} {base : Heap} {N ps : List Str} {x : Str} {st : Stmt} {k : Nat} {b : MS}
theorem calFl (D : DefIn K mg x st ps) (S : FnScope N ps (defScope st)) (hps : ps.length = 1) (hN : ps.length ≤ N.length)
    (hsem : ∀ ns, b (startL N.length [.scr ns]) ⟨none, []⟩ = .rt (.ref 0) ⟨none, [.lst [.list (ns.map .int), .int 0, .int 0, .int 1, .int 0]]⟩)
    (hb : ∀ (f : Addr) (cdv : Value) (A : Around) (outer : List Env) (s : Shared) (H : Hp) (E : XK), Room k (A.deeper (envOfC x (defScope st) s.heap.objs.size f cdv)) →
      ∃ t, QSs (cxOf CX0 P w K mg base N x (defScope st) f cdv A outer s H E).nox (defBody st) t b) : Cal P w K mg base (k + 1) x ps (spFl K) := by
  obtain ⟨f, fd, F, hm, hb'⟩ := D.ex
  refine ⟨f, fd, F.ok S (fun vs H Q E h => ?_) (fun cdv A outer s H vs Q E hr h => ?_), hm, F.kp, hb'⟩
  · obtain ⟨a, ns, rfl, _⟩ := h
    exact hps.symm
  · obtain ⟨a, ns, rfl, hS, q⟩ := h
    obtain ⟨t, h⟩ := hb f cdv A outer s H E hr
    refine ⟨t, h.pss, ?_⟩
    have own0 : ∀ b, ¬ Own ⟨K, 0, 0, fun _ => False, fun _ => none, fun _ _ _ _ => False⟩ [] ⟨none, []⟩ b := fun b h => by
      rcases h with ⟨h, _⟩ | ⟨i, xs, h, _⟩
      · cases h
      · simp at h
    have re : Re ⟨K, 0, 0, fun _ => False, fun _ => none, fun _ _ _ _ => False⟩ [] H (L2.start N [.ref a]) (startL N.length [.scr ns]) ⟨none, []⟩ := by
      refine ⟨⟨rfl, .nil, fun p hp => by simp at hp, fun i xs h => by simp at h, fun f h => (by cases h), fun p hp => hp.elim⟩, ⟨start_len N rfl (by simp; omega), fun i u e => ?_⟩⟩
      have e1 := start_get N (vs := [.ref a]) e
      cases i with
      | succ i => simp at e1
      | zero =>
        simp at e1; subst e1
        refine ⟨.ref a, start_getV N rfl, a, rfl, hS.imp (fun z => ⟨z, fun w => w.elim id (own0 a)⟩) id⟩
    refine h.sim ⟨K, 0, 0, fun _ => False, fun _ => none, fun _ _ _ _ => False⟩ rfl [] H _ _ _ re _ ?_
    rw [hsem ns]
    intro v H' β' f1 rl r
    obtain ⟨p, h1, rfl⟩ := r
    obtain ⟨p', vs, a1, b1, c1⟩ := rl.ob 0 _ rfl
    rw [h1] at a1; cases a1
    have own1 : Own ⟨K, 0, 0, fun _ => False, fun _ => none, fun _ _ _ _ => False⟩ β' ⟨none, [.lst [.list (ns.map .int), .int 0, .int 0, .int 1, .int 0]]⟩ p := .inr ⟨0, _, rfl, (by intro z; cases z), h1⟩
    have c1' : RTs K (Ban ⟨K, 0, 0, fun _ => False, fun _ => none, fun _ _ _ _ => False⟩ β' ⟨none, [.lst [.list (ns.map .int), .int 0, .int 0, .int 1, .int 0]]⟩) H' vs [.list (ns.map .int), .int 0, .int 0, .int 1, .int 0] := c1
    cases c1' with
    | cons x1 y1 =>
      cases x1 with
      | lst hs hr1 =>
        rename_i fb ws
        cases y1 with
        | cons x2 y2 => cases y2 with
          | cons x3 y3 => cases y3 with
            | cons x4 y4 => cases y4 with
              | cons x5 y5 =>
                cases y5; cases x2; cases x3; cases x4; cases x5
                have e1 := hr1.ints
                subst e1
                have hf : H p = none := by
                  obtain ⟨γ, e, hγ⟩ := f1.ext
                  rw [List.nil_append] at e; subst e
                  exact hγ p (List.mem_of_getElem? h1)
                exact q H' p fb (fun b o h => (f1.stay b o h (own0 b)).1) hf (fun e => hs.2 (.inr (e ▸ own1))) b1 hs.1
end
section
variable {K : PySem.W.Frag} {mg : Str → Option Value} {x : Str} {st : Stmt} {ps : List Str}
theorem defIn_mk {h : Heap} {f : Addr} {oc : Value} {od an : Option Addr} {osl : Array (Option Value)} {kV doc pm cdv ct : Value} (X : K.In h) (G : h.Ns mainGlobals mg) (a : PySem.W.nsIn K mainGlobals x = some (some (.ref f)))
    (l : K.lookup f = some ⟨oc, od, .func (PySem.W.fnOf x x (defArgs st) (defBody st) (defScope st) .none kV doc pm an cdv ct), osl⟩) (c : PySem.W.codeIn K cdv x = true) (k : PySem.W.keepIn K (.ref f) = true)
    (hb : ∀ (kV doc pm : Value) (an : Option Addr) (cdv ct : Value) (us : List Value), us.length = ps.length → bindArgs (PySem.W.fnOf x x (defArgs st) (defBody st) (defScope st) .none kV doc pm an cdv ct) ⟨us, []⟩ = pure (ps.zip us)) : DefIn K mg x st ps :=
  ⟨f, _, fun_mk l c k, PySem.W.mg_of X G a, (fun_mk l c k).binds hb⟩
end
end NW
namespace NW
open PySem PySem.Spec PyProof.Rows L2
def Res.To {α : Type} (r : Res α) (P : α → Sto → Prop) : Prop := match r with
  | .ok a s => P a s
  | _ => False
def Out.To (o : Out) (N : Loc → Sto → Prop) (R : U → Sto → Prop) : Prop := match o with
  | .nx l s => N l s
  | .rt u s => R u s
  | _ => False
def Rp.To (r : Rp) (P : PyData → Prop) : Prop := match r with
  | .ok d _ => P d
  | _ => False
def Rf.To (r : Rf) (P : PyData → Fl → Prop) : Prop := match r with
  | .ok d _ f => P d f
  | _ => False
section
variable {α γ : Type} {P : α → Sto → Prop} {N : Loc → Sto → Prop} {R : U → Sto → Prop} {l : Loc} {st : Sto} {Q : U → Sto → Prop}
@[simp] theorem to_ok {a : α} : (Res.ok a st).To P ↔ P a st := Iff.rfl
@[simp] theorem to_no : (Res.no : Res α).To P ↔ False := Iff.rfl
@[simp] theorem to_bind {r : Res γ} {k : γ → Sto → Res α} : (r.bind k).To P ↔ r.To fun a s => (k a s).To P := by cases r <;> exact Iff.rfl
@[simp] theorem to_ite {c : Prop} [Decidable c] {a b : Res α} : (if c then a else b).To P ↔ if c then a.To P else b.To P := by split <;> exact Iff.rfl
@[simp] theorem to_iteO {c : Prop} [Decidable c] {a b : Out} : (if c then a else b).To N R ↔ if c then a.To N R else b.To N R := by split <;> exact Iff.rfl
@[simp] theorem to_nx : (Out.nx l st).To N R ↔ N l st := Iff.rfl
@[simp] theorem to_rt {u : U} : (Out.rt u st).To N R ↔ R u st := Iff.rfl
@[simp] theorem to_noO : Out.no.To N R ↔ False := Iff.rfl
@[simp] theorem to_out {r : Res γ} {k : γ → Sto → Out} : (r.out l k).To N R ↔ r.To fun a s => (k a s).To N R := by cases r <;> exact Iff.rfl
@[simp] theorem to_seq {o : Out} {k : Loc → Sto → Out} : (o.seq k).To N R ↔ o.To (fun l s => (k l s).To N R) R := by cases o <;> exact Iff.rfl
theorem Res.To.mono {r : Res α} {P' : α → Sto → Prop} (h : r.To P) (k : ∀ a s, P a s → P' a s) : r.To P' := by
  cases r with
  | ok a s => exact k a s h
  | _ => exact h
theorem Out.To.mono {o : Out} {N' : Loc → Sto → Prop} {R' : U → Sto → Prop} (h : o.To N R) (k : ∀ l s, N l s → N' l s) (k2 : ∀ u s, R u s → R' u s) : o.To N' R' := by
  cases o with
  | nx a s => exact k a s h
  | rt a s => exact k2 a s h
  | _ => exact h
@[simp] theorem to_var {i : Nat} : (eVar i l st).To Q ↔ ∃ u, l[i]? = some (some u) ∧ Q u st := by
  unfold eVar
  split
  · rename_i u e; simp [e]
  · rename_i h
    constructor
    · exact fun z => z.elim
    · rintro ⟨u, e, _⟩; exact (h u e).elim
@[simp] theorem to_c {x : PyData} : (eC x l st).To Q ↔ Q (.d x) st := Iff.rfl
@[simp] theorem to_op {f : U → U → Sto → Res U} {a b : ME} : (eOp f a b l st).To Q ↔ (a l st).To fun x s => (b l s).To fun y s => (f x y s).To Q := by unfold eOp; simp
@[simp] theorem to_addI {i j : Int} : (fAddA (.d (.int i)) (.d (.int j)) st).To Q ↔ Q (.d (.int (i + j))) st := Iff.rfl
@[simp] theorem to_subI {i j : Int} : (fSub (.d (.int i)) (.d (.int j)) st).To Q ↔ Q (.d (.int (i - j))) st := Iff.rfl
@[simp] theorem to_mulI {i j : Int} : (fMulA (.d (.int i)) (.d (.int j)) st).To Q ↔ mulC i j = true ∧ Q (.d (.int (i * j))) st := by unfold fMulA; simp
@[simp] theorem to_modI {i j : Int} : (fMod (.d (.int i)) (.d (.int j)) st).To Q ↔ j ≠ 0 ∧ Q (.d (.int (i.fmod j))) st := by unfold fMod oI; simp
@[simp] theorem to_divI {i j : Int} : (fDiv (.d (.int i)) (.d (.int j)) st).To Q ↔ divC i j = true ∧ Q (.d (.int (i.fdiv j))) st := by unfold fDiv oI; simp
@[simp] theorem to_powI {i j : Int} : (fPow (.d (.int i)) (.d (.int j)) st).To Q ↔ (0 ≤ j ∧ j ≤ 1000000 ∧ i.natAbs < 2 ^ 64) ∧ Q (.d (.int (i ^ j.toNat))) st := by unfold fPow oI; simp
@[simp] theorem to_lt {i j : Int} : (fLt (.d (.int i)) (.d (.int j)) st).To Q ↔ Q (.d (.bool (decide (i < j)))) st := Iff.rfl
@[simp] theorem to_le {i j : Int} : (fLe (.d (.int i)) (.d (.int j)) st).To Q ↔ Q (.d (.bool (decide (i ≤ j)))) st := Iff.rfl
@[simp] theorem to_gt {i j : Int} : (fGt (.d (.int i)) (.d (.int j)) st).To Q ↔ Q (.d (.bool (decide (j < i)))) st := Iff.rfl
@[simp] theorem to_ge {i j : Int} : (fGe (.d (.int i)) (.d (.int j)) st).To Q ↔ Q (.d (.bool (decide (j ≤ i)))) st := Iff.rfl
@[simp] theorem to_eqD {x y : PyData} {neg : Bool} : (opEq neg (.d x) (.d y) st).To Q ↔ (SeqAt.shaped x = true ∧ SeqAt.shaped y = true) ∧ Q (.d (.bool (if neg then !PyData.eqv x y else PyData.eqv x y))) st := by
  unfold opEq toTree; simp
@[simp] theorem shaped_int {i : Int} : SeqAt.shaped (.int i) = true := rfl
@[simp] theorem shaped_bool {i : Bool} : SeqAt.shaped (.bool i) = true := rfl
@[simp] theorem shaped_none : SeqAt.shaped .none = true := rfl
@[simp] theorem eqv_int {i j : Int} : PyData.eqv (.int i) (.int j) = decide (i = j) := by simp [PyData.eqv, BEq.beq]
@[simp] theorem eqv_bool {i j : Bool} : PyData.eqv (.bool i) (.bool j) = decide (i = j) := by cases i <;> cases j <;> rfl
@[simp] theorem to_isN {u : U} {neg : Bool} : (fIsN neg u (.d .none) st).To Q ↔ Q (.d (.bool (if neg then !isNon u else isNon u))) st := Iff.rfl
@[simp] theorem to_ixT {xs : List PyData} {i : Int} : (fIx (.d (.tuple xs)) (.d (.int i)) st).To Q ↔ ∃ x, ((idxN xs.length i).bind fun j => xs[j]?) = some x ∧ Q (.d x) st := by
  show (match (idxN xs.length i).bind fun j => xs[j]? with
        | some x => Res.ok (U.d x) st
        | none => .no).To Q ↔ _
  cases (idxN xs.length i).bind fun j => xs[j]? <;> simp
@[simp] theorem to_ixL {xs : List PyData} {i : Int} : (fIx (.d (.list xs)) (.d (.int i)) st).To Q ↔ ∃ x, ((idxN xs.length i).bind fun j => xs[j]?) = some x ∧ Q (.d x) st := by
  show (match (idxN xs.length i).bind fun j => xs[j]? with
        | some x => Res.ok (U.d x) st
        | none => .no).To Q ↔ _
  cases (idxN xs.length i).bind fun j => xs[j]? <;> simp
@[simp] theorem to_ixF {i : Int} : (fIx .flow (.d (.int i)) st).To Q ↔ ∃ f u, st.fl = some f ∧ flAt f i = some u ∧ Q u st := by
  show (match st.fl with
      | some f => (match flAt f i with
        | some u => Res.ok u st
        | none => .no)
      | none => .no).To Q ↔ _
  cases st.fl with
  | none => simp
  | some f => cases h : flAt f i <;> simp [h]
@[simp] theorem to_ixS {ns : List Int} {i : Int} : (fIx (.scr ns) (.d (.int i)) st).To Q ↔ ∃ x, ((idxN ns.length i).bind fun j => ns[j]?) = some x ∧ Q (.d (.int x)) st := by
  show (match (idxN ns.length i).bind fun j => ns[j]? with
        | some x => Res.ok (U.d (.int x)) st
        | none => .no).To Q ↔ _
  cases (idxN ns.length i).bind fun j => ns[j]? <;> simp
theorem idxN_nat {n j : Nat} (h : j < n) : idxN n (j : Int) = some j := by
  unfold idxN; rw [if_pos (by omega), if_pos (by omega)]; simp
@[simp] theorem flAt_0 {f : Fl} : flAt f 0 = some (.scr f.cells) := rfl
@[simp] theorem flAt_1 {f : Fl} : flAt f 1 = some (.d (.int f.place)) := rfl
@[simp] theorem flAt_2 {f : Fl} : flAt f 2 = some (.d (.int f.held)) := rfl
@[simp] theorem flAt_3 {f : Fl} : flAt f 3 = some (.d (.int f.seed)) := rfl
@[simp] theorem flAt_4 {f : Fl} : flAt f 4 = some (.d (.int f.many)) := rfl
@[simp] theorem flPut_1 {f : Fl} {x : Int} : flPut f 1 x = some { f with place := x } := rfl
@[simp] theorem flPut_2 {f : Fl} {x : Int} : flPut f 2 x = some { f with held := x } := rfl
@[simp] theorem flPut_3 {f : Fl} {x : Int} : flPut f 3 x = some { f with seed := x } := rfl
@[simp] theorem flPut_4 {f : Fl} {x : Int} : flPut f 4 x = some { f with many := x } := rfl
@[simp] theorem to_bTest {m : ME} {P : Bool → Sto → Prop} : (bTest m l st).To P ↔ (m l st).To fun u s => ∃ b, u = .d (.bool b) ∧ P b s := by
  unfold bTest
  rw [to_bind]
  cases m l st with
  | ok u s =>
    simp only [to_ok]
    split
    · rename_i b; simp
    · rename_i h
      simp only [to_no, false_iff]
      rintro ⟨b, rfl, _⟩; exact h b rfl
  | _ => exact Iff.rfl
@[simp] theorem to_bAnd {a b : MB} {P : Bool → Sto → Prop} : (bAnd a b l st).To P ↔ (a l st).To fun c s => if c = true then (b l s).To P else P false s := by unfold bAnd; simp
@[simp] theorem to_bOr {a b : MB} {P : Bool → Sto → Prop} : (bOr a b l st).To P ↔ (a l st).To fun c s => if c = true then P true s else (b l s).To P := by unfold bOr; simp
@[simp] theorem to_bNot {a : MB} {P : Bool → Sto → Prop} : (bNot a l st).To P ↔ (a l st).To fun c s => P (!c) s := by unfold bNot; simp
@[simp] theorem to_bYes {P : Bool → Sto → Prop} : (bYes l st).To P ↔ P true st := Iff.rfl
@[simp] theorem to_bTruB {m : ME} {P : Bool → Sto → Prop} : (bTru m l st).To P ↔ (m l st).To fun u s => ∃ b, truD s u = some b ∧ P b s := by
  unfold bTru
  rw [to_bind]
  cases m l st with
  | ok u s => simp only [to_ok]; cases truD s u <;> simp
  | _ => exact Iff.rfl
@[simp] theorem truD_bool {b : Bool} : truD st (.d (.bool b)) = some b := rfl
@[simp] theorem truD_int {i : Int} : truD st (.d (.int i)) = some (i != 0) := rfl
@[simp] theorem to_eAndV {a b : ME} : (eAndV a b l st).To Q ↔ (a l st).To fun u s => ∃ c, u = .d (.bool c) ∧ if c = true then (b l s).To Q else Q (.d (.bool false)) s := by
  unfold eAndV
  rw [to_bind]
  cases a l st with
  | ok u s =>
    simp only [to_ok]
    split
    · rename_i b; simp
    · rename_i h
      simp only [to_no, false_iff]
      rintro ⟨b, rfl, _⟩; exact h b rfl
  | _ => exact Iff.rfl
@[simp] theorem to_eOrV {a b : ME} : (eOrV a b l st).To Q ↔ (a l st).To fun u s => ∃ c, u = .d (.bool c) ∧ if c = true then Q (.d (.bool true)) s else (b l s).To Q := by
  unfold eOrV
  rw [to_bind]
  cases a l st with
  | ok u s =>
    simp only [to_ok]
    split
    · rename_i b; simp
    · rename_i h
      simp only [to_no, false_iff]
      rintro ⟨b, rfl, _⟩; exact h b rfl
  | _ => exact Iff.rfl
@[simp] theorem to_eNotV {a : ME} : (eNotV a l st).To Q ↔ (a l st).To fun u s => ∃ c, u = .d (.bool c) ∧ Q (.d (.bool (!c))) s := by
  unfold eNotV
  rw [to_bind]
  cases a l st with
  | ok u s =>
    simp only [to_ok]
    split
    · rename_i b; simp
    · rename_i h
      simp only [to_no, false_iff]
      rintro ⟨b, rfl, _⟩; exact h b rfl
  | _ => exact Iff.rfl
@[simp] theorem to_aNil {P : List U → Sto → Prop} : (aNil l st).To P ↔ P [] st := Iff.rfl
@[simp] theorem to_aCons {a : ME} {r : MA} {P : List U → Sto → Prop} : (aCons a r l st).To P ↔ (a l st).To fun u s => (r l s).To fun us s => P (u :: us) s := by unfold aCons; simp
@[simp] theorem lenOk_small {n : Nat} : lenOk n = true ↔ n ≤ 16777216 := by unfold lenOk; rw [sizeLine_eq]; simp
@[simp] theorem to_eTup {a : MA} : (eTup a l st).To Q ↔ (a l st).To fun us s => ∃ ds, treesOf us = some ds ∧ ds.length ≤ 16777216 ∧ Q (.d (.tuple ds)) s := by
  unfold eTup
  rw [to_bind]
  cases a l st with
  | ok u s => simp only [to_ok]; cases treesOf u <;> simp
  | _ => exact Iff.rfl
@[simp] theorem treesOf_nil : treesOf [] = some [] := rfl
@[simp] theorem treesOf_cons {x : PyData} {us : List U} : treesOf (.d x :: us) = (treesOf us).map (x :: ·) := rfl
@[simp] theorem to_lDisp {a : MA} {P : List PyData → Sto → Prop} : (lDisp a l st).To P ↔ (a l st).To fun us s => ∃ ds, treesOf us = some ds ∧ ds.length ≤ 16777216 ∧ P ds s := by
  unfold lDisp
  rw [to_bind]
  cases a l st with
  | ok u s => simp only [to_ok]; cases treesOf u <;> simp
  | _ => exact Iff.rfl
@[simp] theorem to_eFrz {m : ML} : (eFrz m l st).To Q ↔ (m l st).To fun xs s => Q (.d (.list xs)) s := by unfold eFrz; simp
@[simp] theorem to_eOwn {m : ML} : (eOwn m l st).To Q ↔ (m l st).To fun xs s => Q (.ref s.obs.length) (s.add xs) := by unfold eOwn; simp
@[simp] theorem to_eCB {f : List U → Sto → Res U} {a : MA} : (eCB f a l st).To Q ↔ (a l st).To fun us s => (f us s).To Q := by unfold eCB; simp
@[simp] theorem to_lCB {f : List U → Sto → Res (List PyData)} {a : MA} {P : List PyData → Sto → Prop} : (lCB f a l st).To P ↔ (a l st).To fun us s => (f us s).To P := by unfold lCB; simp
@[simp] theorem to_callP {k : Nat} {m : List PyData → Rp} {a : MA} : (eCallP k m a l st).To Q ↔ (a l st).To fun us s => (fCallP k m us s).To Q := by unfold eCallP; simp
@[simp] theorem to_callF {k : Nat} {m : List PyData → Fl → Rf} {a : MA} : (eCallF k m a l st).To Q ↔ (a l st).To fun us s => (fCallF k m us s).To Q := by unfold eCallF; simp
theorem ctrees_d {ds : List PyData} : ctrees st (ds.map .d) = some ds := by
  induction ds with
  | nil => rfl
  | cons x xs ih => rw [List.map_cons, ctrees, ih]; rfl
theorem any_d {ds : List PyData} : (ds.map U.d).any isRef = false := by
  induction ds with
  | nil => rfl
  | cons x xs ih => rw [List.map_cons, List.any_cons, ih]; rfl
theorem fCallP_d {k : Nat} {m : List PyData → Rp} {ds : List PyData} (hk : ds.length = k) : (fCallP k m (ds.map .d) st).To Q ↔ (m ds).To fun d => Q (.d d) st := by
  unfold fCallP
  rw [ctrees_d]
  simp only [hk, if_true, any_d]
  cases m ds <;> simp [Rp.To]
theorem fCallF_d {k : Nat} {m : List PyData → Fl → Rf} {ds : List PyData} {f : Fl} (hf : st.fl = some f) (hk : ds.length + 1 = k) : (fCallF k m (.flow :: ds.map .d) st).To Q ↔ (m ds f).To fun d f' => Q (.d d) { st with fl := some f' } := by
  unfold fCallF
  simp only [hf]
  rw [ctrees_d]
  simp only [hk, if_true, any_d]
  cases m ds f <;> simp [Rf.To]
@[simp] theorem callP_1 {m : List PyData → Rp} {x : PyData} : (fCallP 1 m [.d x] st).To Q ↔ (m [x]).To fun d => Q (.d d) st := fCallP_d (ds := [x]) rfl
@[simp] theorem callP_2 {m : List PyData → Rp} {x y : PyData} : (fCallP 2 m [.d x, .d y] st).To Q ↔ (m [x, y]).To fun d => Q (.d d) st := fCallP_d (ds := [x, y]) rfl
@[simp] theorem callP_3 {m : List PyData → Rp} {x y z : PyData} : (fCallP 3 m [.d x, .d y, .d z] st).To Q ↔ (m [x, y, z]).To fun d => Q (.d d) st := fCallP_d (ds := [x, y, z]) rfl
@[simp] theorem callP_4 {m : List PyData → Rp} {x y z w : PyData} : (fCallP 4 m [.d x, .d y, .d z, .d w] st).To Q ↔ (m [x, y, z, w]).To fun d => Q (.d d) st := fCallP_d (ds := [x, y, z, w]) rfl
@[simp] theorem callF_1 {m : List PyData → Fl → Rf} {f : Fl} {o : List Ob} : (fCallF 1 m [.flow] ⟨some f, o⟩).To Q ↔ (m [] f).To fun d f' => Q (.d d) ⟨some f', o⟩ := fCallF_d (ds := []) rfl rfl
@[simp] theorem callF_2 {m : List PyData → Fl → Rf} {x : PyData} {f : Fl} {o : List Ob} : (fCallF 2 m [.flow, .d x] ⟨some f, o⟩).To Q ↔ (m [x] f).To fun d f' => Q (.d d) ⟨some f', o⟩ := fCallF_d (ds := [x]) rfl rfl
@[simp] theorem callF_3 {m : List PyData → Fl → Rf} {x y : PyData} {f : Fl} {o : List Ob} : (fCallF 3 m [.flow, .d x, .d y] ⟨some f, o⟩).To Q ↔ (m [x, y] f).To fun d f' => Q (.d d) ⟨some f', o⟩ := fCallF_d (ds := [x, y]) rfl rfl
@[simp] theorem callF_4 {m : List PyData → Fl → Rf} {x y z : PyData} {f : Fl} {o : List Ob} : (fCallF 4 m [.flow, .d x, .d y, .d z] ⟨some f, o⟩).To Q ↔ (m [x, y, z] f).To fun d f' => Q (.d d) ⟨some f', o⟩ := fCallF_d (ds := [x, y, z]) rfl rfl
@[simp] theorem to_cAbs {i : Int} : (cAbs [.d (.int i)] st).To Q ↔ Q (.d (.int (if i < 0 then -i else i))) st := Iff.rfl
@[simp] theorem to_cIntI {i : Int} : (cInt [.d (.int i)] st).To Q ↔ Q (.d (.int i)) st := Iff.rfl
@[simp] theorem to_cIntB {b : Bool} : (cInt [.d (.bool b)] st).To Q ↔ Q (.d (.int (if b then 1 else 0))) st := Iff.rfl
@[simp] theorem to_cLenT {xs : List PyData} : (cLen [.d (.tuple xs)] st).To Q ↔ Q (.d (.int xs.length)) st := Iff.rfl
@[simp] theorem to_cLenL {xs : List PyData} : (cLen [.d (.list xs)] st).To Q ↔ Q (.d (.int xs.length)) st := Iff.rfl
@[simp] theorem to_cLenS {ns : List Int} : (cLen [.scr ns] st).To Q ↔ Q (.d (.int ns.length)) st := Iff.rfl
@[simp] theorem to_cAll {bs : List Bool} : (cAll [.d (.list (bs.map .bool))] st).To Q ↔ Q (.d (.bool (bs.all id))) st := by
  unfold cAll cBools listOf; simp
@[simp] theorem to_cAny {bs : List Bool} : (cAny [.d (.list (bs.map .bool))] st).To Q ↔ Q (.d (.bool (bs.any id))) st := by
  unfold cAny cBools listOf; simp
@[simp] theorem to_isi {m : ME} {T : String} : (eIsi m T l st).To Q ↔ (m l st).To fun u s => ∃ x, toTree s u = some x ∧ tyOk T = true ∧ Q (.d (.bool (isiT x T))) s := by
  unfold eIsi
  rw [to_bind]
  cases m l st with
  | ok u s => simp only [to_ok]; cases toTree s u <;> simp
  | _ => exact Iff.rfl
@[simp] theorem toTree_d' {x : PyData} : toTree st (.d x) = some x := rfl
@[simp] theorem to_sNext : (sNext l st).To N R ↔ N l st := Iff.rfl
@[simp] theorem to_sSeq {a b : MS} : (sSeq a b l st).To N R ↔ (a l st).To (fun l s => (b l s).To N R) R := by unfold sSeq; simp
@[simp] theorem to_sAsg {i : Nat} {m : ME} : (sAsg i m l st).To N R ↔ (m l st).To fun u s => N (l.set i (some u)) s := by unfold sAsg; simp
@[simp] theorem to_sDrop {m : ME} : (sDrop m l st).To N R ↔ (m l st).To fun _ s => N l s := by unfold sDrop; simp
@[simp] theorem to_sRet {m : ME} : (sRet m l st).To N R ↔ (m l st).To R := by unfold sRet; simp
@[simp] theorem to_sIf {c : MB} {a b : MS} : (sIf c a b l st).To N R ↔ (c l st).To fun k s => if k = true then (a l s).To N R else (b l s).To N R := by unfold sIf; simp
theorem to_sPar0 {i j : Nat} {a : MA} : (sPar i j a l st).To N R ↔ (a l st).To fun us s => ∃ u w, us = [u, w] ∧ N ((l.set i (some u)).set j (some w)) s := by
  unfold sPar
  rw [to_out]
  cases a l st with
  | ok us s =>
    simp only [to_ok]
    show (match us with | [u, w] => Out.nx ((l.set i (some u)).set j (some w)) s | _ => .no).To N R ↔ _
    split
    · rename_i u w
      exact ⟨fun z => ⟨u, w, rfl, z⟩, fun ⟨u', w', e, z⟩ => by cases e; exact z⟩
    · rename_i h
      constructor
      · exact fun z => z.elim
      · rintro ⟨u, w, rfl, _⟩; exact (h u w rfl).elim
  | _ => exact Iff.rfl
@[simp] theorem to_sPar {i j : Nat} {a b : ME} : (sPar i j (aCons a (aCons b aNil)) l st).To N R ↔ (a l st).To fun u s => (b l s).To fun w s => N ((l.set i (some u)).set j (some w)) s := by
  rw [to_sPar0, to_aCons]
  refine iff_of_eq (congrArg _ (funext fun u => funext fun s => propext ?_))
  rw [to_aCons]
  refine iff_of_eq (congrArg _ (funext fun w => funext fun s => propext ?_))
  rw [to_aNil]
  exact ⟨fun ⟨u', w', e, z⟩ => by cases e; exact z, fun z => ⟨u, w, rfl, z⟩⟩
@[simp] theorem to_sAsgG {m : ME} {t : MT} : (sAsgG m t l st).To N R ↔ (m l st).To fun u s => (t u l s).To N := by unfold sAsgG; simp
@[simp] theorem to_gName {i : Nat} {u : U} {P : Loc → Sto → Prop} : (gNameM i u l st).To P ↔ P (l.set i (some u)) st := Iff.rfl
@[simp] theorem to_gTup {n : Nat} {r : MTs} {xs : List PyData} {P : Loc → Sto → Prop} : (gTupM n r (.d (.tuple xs)) l st).To P ↔ xs.length = n ∧ (r xs l st).To P := by
  unfold gTupM; simp
@[simp] theorem to_gCons {t : MT} {r : MTs} {x : PyData} {xs : List PyData} {P : Loc → Sto → Prop} : (gConsM t r (x :: xs) l st).To P ↔ (t (.d x) l st).To fun l s => (r xs l s).To P := by unfold gConsM; simp
@[simp] theorem to_gNil {P : Loc → Sto → Prop} : (gNilM [] l st).To P ↔ P l st := Iff.rfl
@[simp] theorem to_gSubF {o i : ME} {x : Int} {P : Loc → Sto → Prop} : (gSubM o i (.d (.int x)) l st).To P ↔ (o l st).To fun ou s => (i l s).To fun iu s => (match ou, iu with
  | .flow, .d (.int j) => ∃ f f', s.fl = some f ∧ flPut f j x = some f' ∧ P l { s with fl := some f' }
  | .ref k, .d (.int j) => ∃ xs n, s.obs[k]? = some (.lst xs) ∧ idxN xs.length j = some n ∧ P l (s.put k (xs.set n (.int x)))
  | _, _ => False) := by
  unfold gSubM
  rw [to_bind]
  refine iff_of_eq (congrArg _ (funext fun ou => funext fun s => propext ?_))
  rw [to_bind]
  refine iff_of_eq (congrArg _ (funext fun iu => funext fun s => propext ?_))
  cases ou <;> cases iu <;> try exact Iff.rfl
  · rename_i k y
    cases y <;> try exact Iff.rfl
    rename_i j
    show (match s.obs[k]? with
      | some (.lst xs) => (match idxN xs.length j with
        | some n => Res.ok l (s.put k (xs.set n (.int x)))
        | none => .no)
      | _ => .no).To P ↔ _
    split
    · rename_i xs e
      split
      · rename_i n en; simp [e, en]
      · rename_i en; simp [e, en]
    · rename_i h
      constructor
      · exact fun z => z.elim
      · rintro ⟨xs, n, e, _⟩; exact (h xs e).elim
  · rename_i y
    cases y <;> try exact Iff.rfl
    rename_i j
    show (match s.fl with
      | some f => (match flPut f j x with
        | some f' => Res.ok l { s with fl := some f' }
        | none => .no)
      | none => .no).To P ↔ _
    cases s.fl with
    | none => simp
    | some f => cases e : flPut f j x <;> simp [e]
end
def retP (P : PyData → Prop) (u : U) (s : Sto) : Prop := match u with
  | .d x => P x
  | .ref i => ∃ xs, s.obs[i]? = some (Ob.lst xs) ∧ P (.list xs)
  | _ => False
def retF (P : PyData → Fl → Prop) (u : U) (s : Sto) : Prop := match u with
  | .d x => ∃ f, s.fl = some f ∧ P x f
  | .ref i => ∃ xs f, s.obs[i]? = some (Ob.lst xs) ∧ s.fl = some f ∧ P (.list xs) f
  | _ => False
section
variable {st : Sto} {P : PyData → Prop} {PF : PyData → Fl → Prop}
@[simp] theorem retP_d {x : PyData} : retP P (.d x) st ↔ P x := Iff.rfl
@[simp] theorem retP_ref {i : Nat} : retP P (.ref i) st ↔ ∃ xs, st.obs[i]? = some (Ob.lst xs) ∧ P (.list xs) := Iff.rfl
@[simp] theorem retF_d {x : PyData} : retF PF (.d x) st ↔ ∃ f, st.fl = some f ∧ PF x f := Iff.rfl
@[simp] theorem retF_ref {i : Nat} : retF PF (.ref i) st ↔ ∃ xs f, st.obs[i]? = some (Ob.lst xs) ∧ st.fl = some f ∧ PF (.list xs) f := Iff.rfl
theorem outP_to {o : Out} : (outP o).To P ↔ o.To (fun _ _ => P .none) (retP P) := by
  cases o with
  | rt u s =>
    cases u with
    | ref i =>
      show (match s.obs[i]? with | some (.lst xs) => Rp.ok (.list xs) true | _ => .no).To P ↔ ∃ xs, s.obs[i]? = some (Ob.lst xs) ∧ P (.list xs)
      split
      · rename_i xs e; simp [e, Rp.To]
      · rename_i h
        constructor
        · exact fun z => z.elim
        · rintro ⟨xs, e, _⟩; exact (h xs e).elim
    | _ => exact Iff.rfl
  | _ => exact Iff.rfl
theorem pure_to {n : Nat} {b : MS} {ds : List PyData} : (pureOf n b ds).To P ↔ (b (startL n (ds.map .d)) ⟨none, []⟩).To (fun _ _ => P .none) (retP P) := outP_to
theorem outF_to {o : Out} : (outF o).To PF ↔ o.To (fun _ s => ∃ f, s.fl = some f ∧ PF .none f) (retF PF) := by
  cases o with
  | rt u s =>
    cases u with
    | d x =>
      show (match s.fl with | some f => Rf.ok x false f | none => .no).To PF ↔ ∃ f, s.fl = some f ∧ PF x f
      cases s.fl <;> simp [Rf.To]
    | ref i =>
      show (match s.obs[i]?, s.fl with | some (.lst xs), some f => Rf.ok (.list xs) true f | _, _ => .no).To PF ↔ ∃ xs f, s.obs[i]? = some (Ob.lst xs) ∧ s.fl = some f ∧ PF (.list xs) f
      split
      · rename_i xs f e e2; simp [e, e2, Rf.To]
      · rename_i h
        constructor
        · exact fun z => z.elim
        · rintro ⟨xs, f, e, e2, _⟩; exact (h xs f e e2).elim
    | _ => exact Iff.rfl
  | nx l s =>
    show (match s.fl with | some f => Rf.ok .none false f | none => .no).To PF ↔ ∃ f, s.fl = some f ∧ PF .none f
    cases s.fl <;> simp [Rf.To]
  | ex e l s =>
    show (match s.fl with | some f => Rf.ex e f | none => .no).To PF ↔ False
    cases s.fl <;> exact Iff.rfl
  | _ => exact Iff.rfl
theorem flow_to {n : Nat} {b : MS} {ds : List PyData} {f : Fl} : (flowOf n b ds f).To PF ↔ (b (startL n (.flow :: ds.map .d)) ⟨some f, []⟩).To (fun _ s => ∃ f, s.fl = some f ∧ PF .none f) (retF PF) := outF_to
theorem Rp.To.mono {r : Rp} {P' : PyData → Prop} (h : r.To P) (k : ∀ d, P d → P' d) : r.To P' := by
  cases r with
  | ok a s => exact k a h
  | _ => exact h
theorem Rf.To.mono {r : Rf} {P' : PyData → Fl → Prop} (h : r.To PF) (k : ∀ d f, PF d f → P' d f) : r.To P' := by
  cases r with
  | ok a s f => exact k a f h
  | _ => exact h
theorem while_to {c : MB} {b : MS} {N : Loc → Sto → Prop} {R : U → Sto → Prop} {I : Nat → Loc → Sto → Prop}
    (step : ∀ n l st, I n l st → (c l st).To fun k s => if k = true then (b l s).To (fun l s => ∃ m, m < n ∧ I m l s) R else N l s) : ∀ (n : Nat) (l : Loc) (st : Sto), I n l st → (sWhile c b l st).To N R := by
  intro n l st h
  have key : ∀ (k n : Nat), n < k → ∀ l st, I n l st → (whileN c b k l st).To N R := by
    intro k
    induction k with
    | zero => intro n hn; omega
    | succ k ih =>
      intro n hn l st h
      rw [whileN, to_out]
      refine (step n l st h).mono fun q s hq => ?_
      rw [to_iteO]
      split
      · rename_i hq'
        rw [if_pos hq'] at hq
        cases e : b l s with
        | nx l' s' =>
          rw [e] at hq
          obtain ⟨m, hm, h'⟩ := hq
          exact ih m (by omega) l' s' h'
        | rt u s' => rw [e] at hq; exact hq
        | _ => rw [e] at hq; exact hq.elim
      · rename_i hq'
        rw [if_neg hq'] at hq
        exact hq
  have z := key (n + 1) n (Nat.lt_succ_self n) l st h
  have hne : whileN c b (n + 1) l st ≠ .no := by
    intro e; rw [e] at z; exact z
  rw [sWhile_of (n + 1) rfl hne]
  exact z
theorem for_to {d : ItD} {t : MT} {b : MS} {N : Loc → Sto → Prop} {R : U → Sto → Prop} {I : List PyData → Loc → Sto → Prop} (hk : ∀ xs l st, I xs l st → d.chk st)
    (step : ∀ x xs l st, I (x :: xs) l st → (t (.d x) l st).To fun l s => (b l s).To (I xs) R) (fin : ∀ l st, I [] l st → N l st) : ∀ (xs : List PyData) (l : Loc) (st : Sto), I xs l st → (forM d t b xs l st).To N R
  | [], l, st, h => by
    rw [forM, if_pos (hk _ _ _ h)]; exact fin l st h
  | x :: xs, l, st, h => by
    rw [forM, if_pos (hk _ _ _ h), to_out]
    refine (step x xs l st h).mono fun l1 s1 h1 => ?_
    cases e : b l1 s1 with
    | nx l2 s2 => rw [e] at h1; exact for_to hk step fin xs l2 s2 h1
    | rt u s2 => rw [e] at h1; exact h1
    | _ => rw [e] at h1; exact h1.elim
theorem chk_nil {xs : List PyData} : (ItD.mk xs []).chk st := fun p h => by cases h
@[simp] theorem to_sFor {mi : MI} {t : MT} {b : MS} {l : Loc} {N : Loc → Sto → Prop} {R : U → Sto → Prop} : (sFor mi t b l st).To N R ↔ (mi l st).To fun d s => (forM d t b d.items l s).To N R := by unfold sFor; simp
@[simp] theorem to_mR1 {a : MA} {l : Loc} {Q : ItD → Sto → Prop} : (mR1 a l st).To Q ↔ (a l st).To fun us s => ∃ j, us = [.d (.int j)] ∧ rOk j = true ∧ Q ⟨rangeD 0 1 j.toNat, []⟩ s := by
  unfold mR1
  rw [to_bind]
  cases a l st with
  | ok us s =>
    simp only [to_ok]
    split
    · rename_i j; simp
    · rename_i h
      constructor
      · exact fun z => z.elim
      · rintro ⟨j, rfl, _⟩; exact (h j rfl).elim
  | _ => exact Iff.rfl
@[simp] theorem to_mR2 {a : MA} {l : Loc} {Q : ItD → Sto → Prop} : (mR2 a l st).To Q ↔ (a l st).To fun us s => ∃ i j, us = [.d (.int i), .d (.int j)] ∧ (rOk i = true ∧ rOk j = true) ∧ Q ⟨rangeD i 1 (j - i).toNat, []⟩ s := by
  unfold mR2
  rw [to_bind]
  cases a l st with
  | ok us s =>
    simp only [to_ok]
    split
    · rename_i i j
      rw [to_ite]
      constructor
      · intro z
        split at z
        · rename_i h; exact ⟨i, j, rfl, (Bool.and_eq_true _ _).mp h, z⟩
        · exact z.elim
      · rintro ⟨i', j', e, h, z⟩
        cases e
        rw [if_pos ((Bool.and_eq_true _ _).mpr h)]; exact z
    · rename_i h
      constructor
      · exact fun z => z.elim
      · rintro ⟨i, j, rfl, _⟩; exact (h i j rfl).elim
  | _ => exact Iff.rfl
@[simp] theorem to_mAny {m : ME} {l : Loc} {Q : ItD → Sto → Prop} : (mAny m l st).To Q ↔ (m l st).To fun u s => ∃ xs own, srcOf s u = some (xs, own) ∧ Q ⟨xs, own⟩ s := by
  unfold mAny
  rw [to_bind]
  cases m l st with
  | ok u s =>
    simp only [to_ok]
    cases e : srcOf s u with
    | none => simp
    | some p => exact ⟨fun z => ⟨p.1, p.2, rfl, z⟩, fun ⟨xs, own, e, z⟩ => by cases e; exact z⟩
  | _ => exact Iff.rfl
@[simp] theorem to_mRev {m : ME} {l : Loc} {Q : ItD → Sto → Prop} : (mRev m l st).To Q ↔ (m l st).To fun u s => ∃ xs own, srcOf s u = some (xs, own) ∧ Q ⟨xs.reverse, own⟩ s := by
  unfold mRev
  rw [to_bind]
  cases m l st with
  | ok u s =>
    simp only [to_ok]
    cases e : srcOf s u with
    | none => simp
    | some p => exact ⟨fun z => ⟨p.1, p.2, rfl, z⟩, fun ⟨xs, own, e, z⟩ => by cases e; exact z⟩
  | _ => exact Iff.rfl
@[simp] theorem srcOf_list {xs : List PyData} : srcOf st (.d (.list xs)) = some (xs, []) := rfl
@[simp] theorem srcOf_tuple {xs : List PyData} : srcOf st (.d (.tuple xs)) = some (xs, []) := rfl
theorem lc_to {d : ItD} {vs : List Nat} {t : MT} {c : MB} {m : ME} {l : Loc} {P : List PyData → Sto → Prop} {I : List PyData → List PyData → Sto → Prop} (hk : ∀ xs acc st, I xs acc st → d.chk st)
    (step : ∀ x xs acc st, I (x :: xs) acc st → (t (.d x) (wipeL l vs) st).To fun l1 s => (c l1 s).To fun b s => if b = true then (m l1 s).To fun u s => ∃ y, u = .d y ∧ I xs (acc ++ [y]) s else I xs acc s)
    (fin : ∀ acc st, I [] acc st → P acc st) : ∀ (xs acc : List PyData) (st : Sto), I xs acc st → (lcM d vs t c m l xs st).To fun ys s => P (acc ++ ys) s
  | [], acc, st, h => by
    rw [lcM, if_pos (hk _ _ _ h)]
    show P (acc ++ []) st
    rw [List.append_nil]; exact fin acc st h
  | x :: xs, acc, st, h => by
    rw [lcM, if_pos (hk _ _ _ h)]
    have h1 := step x xs acc st h
    cases e1 : t (.d x) (wipeL l vs) st with
    | ok l1 s1 =>
      rw [e1] at h1
      show ((c l1 s1).noX.bind _).To _
      have h2 : (c l1 s1).To _ := h1
      cases e2 : c l1 s1 with
      | ok b s2 =>
        rw [e2] at h2
        have h3 : if b = true then (m l1 s2).To fun u s => ∃ y, u = .d y ∧ I xs (acc ++ [y]) s else I xs acc s2 := h2
        show (if b = true then _ else _ : Res (List PyData)).To _
        rw [to_ite]
        cases b with
        | true =>
          rw [if_pos rfl] at h3 ⊢
          cases e3 : m l1 s2 with
          | ok u s3 =>
            rw [e3] at h3
            obtain ⟨y, rfl, h4⟩ := h3
            show ((lcM d vs t c m l xs s3).bind fun ys st => .ok (y :: ys) st).To _
            rw [to_bind]
            refine (lc_to hk step fin xs (acc ++ [y]) s3 h4).mono fun ys s h5 => ?_
            rw [List.append_assoc] at h5
            exact h5
          | ex e s3 => rw [e3] at h3; exact h3.elim
          | no => rw [e3] at h3; exact h3.elim
        | false =>
          rw [if_neg Bool.false_ne_true] at h3 ⊢
          exact lc_to hk step fin xs acc s2 h3
      | ex e s2 => rw [e2] at h2; exact h2.elim
      | no => rw [e2] at h2; exact h2.elim
    | ex e s1 => rw [e1] at h1; exact h1.elim
    | no => rw [e1] at h1; exact h1.elim
@[simp] theorem to_lLc {mi : MI} {vs : List Nat} {t : MT} {c : MB} {m : ME} {l : Loc} {P : List PyData → Sto → Prop} : (lLc mi vs t c m l st).To P ↔ (mi l st).To fun d s => d.items.length ≤ 16777216 ∧ (lcM d vs t c m l d.items s).To P := by
  unfold lLc
  rw [to_bind]
  cases mi l st with
  | ok d s => simp
  | _ => exact Iff.rfl
end
end NW
namespace NW
open PySem PySem.Spec PyProof.Rows L2
section
variable {l : Loc} {st : Sto} {Q : U → Sto → Prop} {P : Option Int → Sto → Prop}
@[simp] theorem to_oNone : (oNone l st).To P ↔ P none st := Iff.rfl
@[simp] theorem to_oSome {m : ME} : (oSome m l st).To P ↔ (m l st).To fun u s => ∃ i, u = .d (.int i) ∧ P (some i) s := by
  unfold oSome
  rw [to_bind]
  cases m l st with
  | ok u s =>
    simp only [to_ok]
    split
    · rename_i i; simp
    · rename_i h
      simp only [to_no, false_iff]
      rintro ⟨i, rfl, _⟩; exact h i rfl
  | _ => exact Iff.rfl
@[simp] theorem to_eSlAny {m : ME} {lo hi : MO} : (eSlAny m lo hi l st).To Q ↔ (m l st).To fun u s => (lo l s).To fun a s => (hi l s).To fun b s => (fSl u a b s).To Q := by unfold eSlAny; simp
@[simp] theorem to_slT {xs : List PyData} {a b : Option Int} : (fSl (.d (.tuple xs)) a b st).To Q ↔ Q (.d (.tuple (cutD xs a b))) st := Iff.rfl
@[simp] theorem to_slL {xs : List PyData} {a b : Option Int} : (fSl (.d (.list xs)) a b st).To Q ↔ Q (.d (.list (cutD xs a b))) st := Iff.rfl
@[simp] theorem to_addL {xs ys : List PyData} : (fAddA (.d (.list xs)) (.d (.list ys)) st).To Q ↔ xs.length + ys.length ≤ 16777216 ∧ Q (.d (.list (xs ++ ys))) st := by
  show (if lenOk (xs.length + ys.length) = true then Res.ok (U.d (.list (xs ++ ys))) st else .no).To Q ↔ _
  rw [to_ite]; simp only [lenOk_small, to_ok, to_no]; split
  · rename_i h; exact ⟨fun z => ⟨h, z⟩, fun z => z.2⟩
  · rename_i h; exact ⟨fun z => z.elim, fun z => h z.1⟩
@[simp] theorem to_addT {xs ys : List PyData} : (fAddA (.d (.tuple xs)) (.d (.tuple ys)) st).To Q ↔ xs.length + ys.length ≤ 16777216 ∧ Q (.d (.tuple (xs ++ ys))) st := by
  show (if lenOk (xs.length + ys.length) = true then Res.ok (U.d (.tuple (xs ++ ys))) st else .no).To Q ↔ _
  rw [to_ite]; simp only [lenOk_small, to_ok, to_no]; split
  · rename_i h; exact ⟨fun z => ⟨h, z⟩, fun z => z.2⟩
  · rename_i h; exact ⟨fun z => z.elim, fun z => h z.1⟩
end
end NW
namespace NW
open PySem PySem.Spec PyProof.Rows L2
section
variable {P : Program} {w : World} {K : PySem.W.Frag} {mg : Str → Option Value} {base : Heap} {N ps : List Str} {x : Str} {st : Stmt} {k n : Nat}
theorem calP0 (D : DefIn K mg x st ps) (S : FnScope N ps (defScope st)) : Cal P w K mg base k x ps (spP K n fun _ => .no) := by
  obtain ⟨f, fd, F, hm, hb'⟩ := D.ex
  refine ⟨f, fd, ⟨fun vs H Q E h => ?_, fun A outer s H args us vs Q E hr he hb hv h => ?_⟩, hm, F.kp, hb'⟩
  · obtain ⟨O0, ds, d, fr, _, _, _, e, _⟩ := h; cases e
  · obtain ⟨O0, ds, d, fr, _, _, _, e, _⟩ := h; cases e
theorem calF0 (D : DefIn K mg x st ps) (S : FnScope N ps (defScope st)) : Cal P w K mg base k x ps (spF K n fun _ _ => .no) := by
  obtain ⟨f, fd, F, hm, hb'⟩ := D.ex
  refine ⟨f, fd, ⟨fun vs H Q E h => ?_, fun A outer s H args us vs Q E hr he hb hv h => ?_⟩, hm, F.kp, hb'⟩
  · obtain ⟨fa, fb, O0, g, vs', ds, d, fr, g', _, _, _, _, _, _, _, _, _, e, _⟩ := h; cases e
  · obtain ⟨fa, fb, O0, g, vs', ds, d, fr, g', _, _, _, _, _, _, _, _, _, e, _⟩ := h; cases e
end
end NW
namespace NW
open PySem PySem.Spec PyProof.Rows L2
@[simp] theorem put_mk {f : Option Fl} {o : List Ob} {i : Nat} {xs : List PyData} : Sto.put ⟨f, o⟩ i xs = ⟨f, o.set i (.lst xs)⟩ := rfl
@[simp] theorem add_mk {f : Option Fl} {o : List Ob} {xs : List PyData} : Sto.add ⟨f, o⟩ xs = ⟨f, o ++ [.lst xs]⟩ := rfl
section
variable {l : Loc} {st : Sto} {Q : U → Sto → Prop}
@[simp] theorem listOf_ref {i : Nat} {xs : List PyData} : listOf st (.ref i) = some xs ↔ st.obs[i]? = some (.lst xs) := by
  show (match st.obs[i]? with | some (.lst xs) => some xs | _ => none) = some xs ↔ _
  split
  · rename_i ys e; simp [e]
  · rename_i h
    exact ⟨fun w => by simp at w, fun w => (h _ w).elim⟩
@[simp] theorem toTree_ref {i : Nat} {x : PyData} : toTree st (.ref i) = some x ↔ ∃ xs, st.obs[i]? = some (.lst xs) ∧ x = .list xs := by
  show (match st.obs[i]? with | some (.lst xs) => some (PyData.list xs) | _ => none) = some x ↔ _
  split
  · rename_i ys e; simp [e, eq_comm]
  · rename_i h
    exact ⟨fun w => by simp at w, fun ⟨ys, w, _⟩ => (h _ w).elim⟩
theorem seqOf_ref {i : Nat} : seqOf st (.ref i) = listOf st (.ref i) := by
  unfold seqOf
  cases listOf st (.ref i) <;> rfl
@[simp] theorem isLst_ref {i : Nat} : isLst st (.ref i) = true ↔ ∃ xs, st.obs[i]? = some (.lst xs) := by
  unfold isLst
  rw [Option.isSome_iff_exists]
  exact exists_congr fun xs => listOf_ref
@[simp] theorem isLst_list {xs : List PyData} : isLst st (.d (.list xs)) = true := rfl
@[simp] theorem to_ixR {k : Nat} {i : Int} : (fIx (.ref k) (.d (.int i)) st).To Q ↔ ∃ xs x, st.obs[k]? = some (.lst xs) ∧ ((idxN xs.length i).bind fun j => xs[j]?) = some x ∧ Q (.d x) st := by
  show (match seqOf st (.ref k) with
      | some xs => (match (idxN xs.length i).bind fun j => xs[j]? with
        | some x => Res.ok (U.d x) st
        | none => .no)
      | none => .no).To Q ↔ _
  rw [seqOf_ref]
  cases e : listOf st (.ref k) with
  | none =>
    refine ⟨fun w => w.elim, fun ⟨xs, x, h, _⟩ => ?_⟩
    rw [listOf_ref.mpr h] at e; cases e
  | some ys =>
    have e' := listOf_ref.mp e
    show (match (idxN ys.length i).bind fun j => ys[j]? with
        | some x => Res.ok (U.d x) st
        | none => .no).To Q ↔ _
    cases h : (idxN ys.length i).bind fun j => ys[j]? with
    | none =>
      refine ⟨fun w => w.elim, fun ⟨xs, x, h1, h2, _⟩ => ?_⟩
      rw [e'] at h1; cases h1; rw [h] at h2; cases h2
    | some x =>
      refine ⟨fun w => ⟨ys, x, e', h, w⟩, fun ⟨xs, x, h1, h2, h3⟩ => ?_⟩
      rw [e'] at h1; cases h1; rw [h] at h2; cases h2; exact h3
@[simp] theorem to_eMethL {f : U → List U → Sto → Res U} {o : ME} {a : MA} : (eMethL f o a l st).To Q ↔ (o l st).To fun x s => isLst s x = true ∧ (a l s).To fun us s => (f x us s).To Q := by
  unfold eMethL
  rw [to_bind]
  refine iff_of_eq (congrArg _ (funext fun x => funext fun s => propext ?_))
  rw [to_ite]
  split
  · rename_i h; simp [h]
  · rename_i h; simp [h]
@[simp] theorem ownL_ref {i j : Nat} {xs : List PyData} : ownL st (.ref i) = some (j, xs) ↔ st.obs[i]? = some (.lst xs) ∧ j = i := by
  show (match st.obs[i]? with | some (.lst xs) => some (i, xs) | _ => none) = some (j, xs) ↔ _
  split
  · rename_i ys e; simp [e, eq_comm, and_comm]
  · rename_i h
    exact ⟨fun w => by simp at w, fun ⟨w, _⟩ => (h _ w).elim⟩
@[simp] theorem to_append {k : Nat} {y : PyData} : (mAppend (.ref k) [.d y] st).To Q ↔ ∃ xs, st.obs[k]? = some (.lst xs) ∧ xs.length < 16777216 ∧ Q (.d .none) (st.put k (xs ++ [y])) := by
  unfold mAppend
  cases e : ownL st (.ref k) with
  | none =>
    refine ⟨fun w => w.elim, fun ⟨xs, h, _⟩ => ?_⟩
    rw [ownL_ref.mpr ⟨h, rfl⟩] at e; cases e
  | some p =>
    obtain ⟨j, ys⟩ := p
    obtain ⟨e1, rfl⟩ := ownL_ref.mp e
    show (if decide (ys.length < sizeLine) = true then Res.ok (U.d .none) (st.put j (ys ++ [y])) else .no).To Q ↔ _
    rw [to_ite]
    simp only [decide_eq_true_eq, sizeLine_eq]
    split
    · rename_i h
      exact ⟨fun w => ⟨ys, e1, h, w⟩, fun ⟨xs, h1, _, w⟩ => by rw [e1] at h1; cases h1; exact w⟩
    · rename_i h
      exact ⟨fun w => w.elim, fun ⟨xs, h1, h2, w⟩ => by rw [e1] at h1; cases h1; exact (h h2).elim⟩
@[simp] theorem srcOf_ref {i : Nat} {xs : List PyData} {own : List (Nat × List PyData)} : srcOf st (.ref i) = some (xs, own) ↔ st.obs[i]? = some (.lst xs) ∧ own = [(i, xs)] := by
  show (match st.obs[i]? with | some (.lst xs) => some (xs, [(i, xs)]) | _ => none) = some (xs, own) ↔ _
  split
  · rename_i ys e
    rw [e]
    constructor
    · intro h; cases h; exact ⟨rfl, rfl⟩
    · rintro ⟨h, rfl⟩; cases h; rfl
  · rename_i h
    exact ⟨fun w => by simp at w, fun ⟨w, _⟩ => (h _ w).elim⟩
end
end NW
namespace NW
open PySem PySem.Spec PyProof.Rows L2
def Sto.die (st : Sto) (i : Nat) : Sto := { st with obs := st.obs.set i .dead }
@[simp] theorem die_mk {f : Option Fl} {o : List Ob} {i : Nat} : Sto.die ⟨f, o⟩ i = ⟨f, o.set i .dead⟩ := rfl
section
variable {G : Gx} {β : List Addr} {st : Sto} {H : Hp} {v : V} {i : Nat} {p : Addr} {xs : List PyData}
theorem Own.die {q : Addr} (h : Own G β (st.die i) q) : Own G β st q := by
  rcases h with h | ⟨j, ys, h1, nd, h2⟩
  · exact .inl h
  · by_cases e : j = i
    · subst e
      simp only [Sto.die] at h1
      by_cases hj : j < st.obs.length
      · rw [List.getElem?_set_self hj] at h1; cases h1; exact absurd rfl nd
      · rw [List.getElem?_eq_none (by simp; omega)] at h1; cases h1
    · exact .inr ⟨j, ys, by simpa [Sto.die, List.getElem?_set_ne (Ne.symm e)] using h1, nd, h2⟩
def eDie (m : ME) : ME := fun l st => (m l st).bind fun u st => match u with
  | .ref i => (match st.obs[i]? with
    | some (.lst xs) => .ok (.d (.list xs)) (st.die i)
    | _ => .no)
  | u => .ok u st
end
section
variable {l : Loc} {st : Sto} {Q : U → Sto → Prop}
@[simp] theorem to_eDie {m : ME} : (eDie m l st).To Q ↔ (m l st).To fun u s => match u with
    | .ref i => ∃ xs, s.obs[i]? = some (Ob.lst xs) ∧ Q (.d (.list xs)) (s.die i)
    | u => Q u s := by
  unfold eDie
  rw [to_bind]
  refine iff_of_eq (congrArg _ (funext fun u => funext fun s => propext ?_))
  cases u with
  | ref i =>
    show (match s.obs[i]? with
      | some (.lst xs) => Res.ok (U.d (.list xs)) (s.die i)
      | _ => .no).To Q ↔ _
    split
    · rename_i xs e; simp [e]
    · rename_i h
      constructor
      · exact fun z => z.elim
      · rintro ⟨xs, e, _⟩; exact (h xs e).elim
  | _ => exact Iff.rfl
end
end NW
namespace NW
open PySem PySem.Spec PyProof.Rows L2
section
variable {l : Loc} {st : Sto} {Q : U → Sto → Prop}
theorem to_eqG {a b : U} {neg : Bool} : (opEq neg a b st).To Q ↔ ∃ x y, (toTree st a = some x ∧ toTree st b = some y) ∧ (SeqAt.shaped x = true ∧ SeqAt.shaped y = true) ∧ Q (.d (.bool (if neg then !PyData.eqv x y else PyData.eqv x y))) st := by
  unfold opEq
  cases e1 : toTree st a with
  | none => simp
  | some x =>
    cases e2 : toTree st b with
    | none => simp
    | some y =>
      simp
      exact ⟨fun h => ⟨x, y, ⟨rfl, rfl⟩, h⟩, fun ⟨_, _, ⟨h1, h2⟩, h⟩ => by cases h1; cases h2; exact h⟩
@[simp] theorem to_eqRD {i : Nat} {y : PyData} {neg : Bool} : (opEq neg (.ref i) (.d y) st).To Q ↔ ∃ xs, st.obs[i]? = some (Ob.lst xs) ∧ (SeqAt.shaped (.list xs) = true ∧ SeqAt.shaped y = true) ∧ Q (.d (.bool (if neg then !PyData.eqv (.list xs) y else PyData.eqv (.list xs) y))) st := by
  rw [to_eqG]
  constructor
  · rintro ⟨x, z, ⟨h1, h2⟩, h3, h4⟩
    obtain ⟨xs, h5, rfl⟩ := toTree_ref.mp h1
    cases h2
    exact ⟨xs, h5, h3, h4⟩
  · rintro ⟨xs, h1, h2, h3⟩
    exact ⟨_, _, ⟨toTree_ref.mpr ⟨xs, h1, rfl⟩, rfl⟩, h2, h3⟩
@[simp] theorem to_eqDR {i : Nat} {y : PyData} {neg : Bool} : (opEq neg (.d y) (.ref i) st).To Q ↔ ∃ xs, st.obs[i]? = some (Ob.lst xs) ∧ (SeqAt.shaped y = true ∧ SeqAt.shaped (.list xs) = true) ∧ Q (.d (.bool (if neg then !PyData.eqv y (.list xs) else PyData.eqv y (.list xs)))) st := by
  rw [to_eqG]
  constructor
  · rintro ⟨x, z, ⟨h1, h2⟩, h3, h4⟩
    obtain ⟨xs, h5, rfl⟩ := toTree_ref.mp h2
    cases h1
    exact ⟨xs, h5, h3, h4⟩
  · rintro ⟨xs, h1, h2, h3⟩
    exact ⟨_, _, ⟨rfl, toTree_ref.mpr ⟨xs, h1, rfl⟩⟩, h2, h3⟩
@[simp] theorem to_eqRR {i j : Nat} {neg : Bool} : (opEq neg (.ref i) (.ref j) st).To Q ↔ ∃ xs ys, (st.obs[i]? = some (Ob.lst xs) ∧ st.obs[j]? = some (Ob.lst ys)) ∧ (SeqAt.shaped (.list xs) = true ∧ SeqAt.shaped (.list ys) = true) ∧ Q (.d (.bool (if neg then !PyData.eqv (.list xs) (.list ys) else PyData.eqv (.list xs) (.list ys)))) st := by
  rw [to_eqG]
  constructor
  · rintro ⟨x, z, ⟨h1, h2⟩, h3, h4⟩
    obtain ⟨xs, h5, rfl⟩ := toTree_ref.mp h1
    obtain ⟨ys, h6, rfl⟩ := toTree_ref.mp h2
    exact ⟨xs, ys, ⟨h5, h6⟩, h3, h4⟩
  · rintro ⟨xs, ys, ⟨h1, h1'⟩, h2, h3⟩
    exact ⟨_, _, ⟨toTree_ref.mpr ⟨xs, h1, rfl⟩, toTree_ref.mpr ⟨ys, h1', rfl⟩⟩, h2, h3⟩
theorem addG {a b : U} (ha : ∀ xs, a = .d xs → ∃ ys, xs = .list ys) (hb : (∃ i, a = .ref i) ∨ ∃ j, b = .ref j) : (fAddA a b st).To Q ↔ ∃ xs ys, (listOf st a = some xs ∧ listOf st b = some ys) ∧ xs.length + ys.length ≤ 16777216 ∧ Q (.d (.list (xs ++ ys))) st := by
  have e : fAddA a b st = (match listOf st a, listOf st b with
    | some xs, some ys => if lenOk (xs.length + ys.length) = true then .ok (.d (.list (xs ++ ys))) st else .no
    | _, _ => .no) := by
    unfold fAddA
    split
    · rename_i i j
      obtain ⟨ys, e⟩ := ha _ rfl; cases e
    · obtain ⟨ys, e⟩ := ha _ rfl; cases e
    · obtain ⟨ys, e⟩ := ha _ rfl; cases e
    · rfl
  rw [e]
  cases e1 : listOf st a with
  | none => simp
  | some x =>
    cases e2 : listOf st b with
    | none => simp
    | some y =>
      show (if lenOk (x.length + y.length) = true then Res.ok (U.d (.list (x ++ y))) st else .no).To Q ↔ _
      rw [to_ite]
      simp only [lenOk_small]
      split
      · rename_i h; exact ⟨fun w => ⟨x, y, ⟨rfl, rfl⟩, h, w⟩, fun ⟨_, _, ⟨w1, w2⟩, _, w⟩ => by cases w1; cases w2; exact w⟩
      · rename_i h; exact ⟨fun w => w.elim, fun ⟨_, _, ⟨w1, w2⟩, w3, w⟩ => by cases w1; cases w2; exact (h w3).elim⟩
@[simp] theorem to_addRL {i : Nat} {ys : List PyData} : (fAddA (.ref i) (.d (.list ys)) st).To Q ↔ ∃ xs, st.obs[i]? = some (Ob.lst xs) ∧ xs.length + ys.length ≤ 16777216 ∧ Q (.d (.list (xs ++ ys))) st := by
  rw [addG (fun xs e => by cases e) (.inl ⟨i, rfl⟩)]
  constructor
  · rintro ⟨xs, zs, ⟨h1, h2⟩, h3, h4⟩
    cases h2
    exact ⟨xs, listOf_ref.mp h1, h3, h4⟩
  · rintro ⟨xs, h1, h3, h4⟩
    exact ⟨xs, ys, ⟨listOf_ref.mpr h1, rfl⟩, h3, h4⟩
@[simp] theorem to_addLR {i : Nat} {ys : List PyData} : (fAddA (.d (.list ys)) (.ref i) st).To Q ↔ ∃ xs, st.obs[i]? = some (Ob.lst xs) ∧ ys.length + xs.length ≤ 16777216 ∧ Q (.d (.list (ys ++ xs))) st := by
  rw [addG (fun xs e => by cases e; exact ⟨_, rfl⟩) (.inr ⟨i, rfl⟩)]
  constructor
  · rintro ⟨xs, zs, ⟨h1, h2⟩, h3, h4⟩
    cases h1
    exact ⟨zs, listOf_ref.mp h2, h3, h4⟩
  · rintro ⟨xs, h1, h3, h4⟩
    exact ⟨ys, xs, ⟨rfl, listOf_ref.mpr h1⟩, h3, h4⟩
@[simp] theorem to_addRR {i j : Nat} : (fAddA (.ref i) (.ref j) st).To Q ↔ ∃ xs ys, (st.obs[i]? = some (Ob.lst xs) ∧ st.obs[j]? = some (Ob.lst ys)) ∧ xs.length + ys.length ≤ 16777216 ∧ Q (.d (.list (xs ++ ys))) st := by
  rw [addG (fun xs e => by cases e) (.inl ⟨i, rfl⟩)]
  simp only [listOf_ref]
@[simp] theorem to_slR {i : Nat} {a b : Option Int} : (fSl (.ref i) a b st).To Q ↔ ∃ xs, st.obs[i]? = some (Ob.lst xs) ∧ Q (.d (.list (cutD xs a b))) st := by
  show (match listOf st (.ref i) with
    | some xs => Res.ok (U.d (.list (cutD xs a b))) st
    | none => .no).To Q ↔ _
  cases e : listOf st (.ref i) with
  | none => exact ⟨fun w => w.elim, fun ⟨xs, h, _⟩ => by rw [listOf_ref.mpr h] at e; cases e⟩
  | some xs =>
    have e' := listOf_ref.mp e
    exact ⟨fun w => ⟨xs, e', w⟩, fun ⟨ys, h, w⟩ => by rw [e'] at h; cases h; exact w⟩
theorem refL {α : Type} {i : Nat} {k : List PyData → Res α} {P : α → Sto → Prop} : (match seqOf st (.ref i) with | some xs => k xs | none => Res.no).To P ↔ ∃ xs, st.obs[i]? = some (Ob.lst xs) ∧ (k xs).To P := by
  rw [seqOf_ref]
  cases e : listOf st (.ref i) with
  | none => exact ⟨fun w => w.elim, fun ⟨xs, h, _⟩ => by rw [listOf_ref.mpr h] at e; cases e⟩
  | some xs =>
    have e' := listOf_ref.mp e
    exact ⟨fun w => ⟨xs, e', w⟩, fun ⟨ys, h, w⟩ => by rw [e'] at h; cases h; exact w⟩
@[simp] theorem to_lenR {i : Nat} : (cLen [.ref i] st).To Q ↔ ∃ xs, st.obs[i]? = some (Ob.lst xs) ∧ Q (.d (.int xs.length)) st := refL (k := fun xs => Res.ok (U.d (.int xs.length)) st)
@[simp] theorem to_listOfR {i : Nat} {P : List PyData → Sto → Prop} : (cListOf [.ref i] st).To P ↔ ∃ xs, st.obs[i]? = some (Ob.lst xs) ∧ P xs st := refL (k := fun xs => Res.ok xs st)
@[simp] theorem to_listOfL {xs : List PyData} {P : List PyData → Sto → Prop} : (cListOf [.d (.list xs)] st).To P ↔ P xs st := Iff.rfl
@[simp] theorem to_listOfT {xs : List PyData} {P : List PyData → Sto → Prop} : (cListOf [.d (.tuple xs)] st).To P ↔ P xs st := Iff.rfl
@[simp] theorem to_tupR {i : Nat} : (cTupOf [.ref i] st).To Q ↔ ∃ xs, st.obs[i]? = some (Ob.lst xs) ∧ Q (.d (.tuple xs)) st := by
  show (match listOf st (.ref i) with
    | some xs => Res.ok (U.d (.tuple xs)) st
    | none => .no).To Q ↔ _
  rw [← seqOf_ref]
  exact refL (k := fun xs => Res.ok (U.d (.tuple xs)) st)
theorem to_gSubG {o i : ME} {y : PyData} {P : Loc → Sto → Prop} (hy : ∀ x, y ≠ .int x) : (gSubM o i (.d y) l st).To P ↔ (o l st).To fun ou s => (i l s).To fun iu s => (match ou, iu with
  | .ref k, .d (.int j) => ∃ xs n, s.obs[k]? = some (.lst xs) ∧ idxN xs.length j = some n ∧ P l (s.put k (xs.set n y))
  | _, _ => False) := by
  unfold gSubM
  rw [to_bind]
  refine iff_of_eq (congrArg _ (funext fun ou => funext fun s => propext ?_))
  rw [to_bind]
  refine iff_of_eq (congrArg _ (funext fun iu => funext fun s => propext ?_))
  cases ou with
  | ref k =>
    cases iu with
    | d z =>
      cases z with
      | int j =>
        show (match s.obs[k]? with
          | some (.lst xs) => (match idxN xs.length j with
            | some n => Res.ok l (s.put k (xs.set n y))
            | none => .no)
          | _ => .no).To P ↔ _
        split
        · rename_i xs e
          split
          · rename_i n en; simp [e, en]
          · rename_i en; simp [e, en]
        · rename_i h
          constructor
          · exact fun z => z.elim
          · rintro ⟨xs, n, e, _⟩; exact (h xs e).elim
      | _ => exact Iff.rfl
    | _ => exact Iff.rfl
  | flow =>
    cases iu with
    | d z =>
      cases z with
      | int j =>
        cases y with
        | int x => exact absurd rfl (hy x)
        | _ => exact Iff.rfl
      | _ => exact Iff.rfl
    | _ => exact Iff.rfl
  | _ => exact Iff.rfl
@[simp] theorem to_gSubT {o i : ME} {ys : List PyData} {P : Loc → Sto → Prop} : (gSubM o i (.d (.tuple ys)) l st).To P ↔ (o l st).To fun ou s => (i l s).To fun iu s => (match ou, iu with
  | .ref k, .d (.int j) => ∃ xs n, s.obs[k]? = some (.lst xs) ∧ idxN xs.length j = some n ∧ P l (s.put k (xs.set n (.tuple ys)))
  | _, _ => False) := to_gSubG (fun x h => by cases h)
@[simp] theorem to_gSubL {o i : ME} {ys : List PyData} {P : Loc → Sto → Prop} : (gSubM o i (.d (.list ys)) l st).To P ↔ (o l st).To fun ou s => (i l s).To fun iu s => (match ou, iu with
  | .ref k, .d (.int j) => ∃ xs n, s.obs[k]? = some (.lst xs) ∧ idxN xs.length j = some n ∧ P l (s.put k (xs.set n (.list ys)))
  | _, _ => False) := to_gSubG (fun x h => by cases h)
@[simp] theorem to_maxL {ns : List Int} : (cMaxL [.d (.list (ns.map .int))] st).To Q ↔ ∃ m, maxI ns = some m ∧ Q (.d (.int m)) st := by
  unfold cMaxL cInts
  show (match intsOf (ns.map PyData.int) with | some ns => (match (maxI ns).map PyData.int with | some x => Res.ok (U.d x) st | none => .no) | none => .no).To Q ↔ _
  rw [intsOf_map]
  show (match (maxI ns).map PyData.int with | some x => Res.ok (U.d x) st | none => .no).To Q ↔ _
  cases maxI ns <;> simp
@[simp] theorem to_minL {ns : List Int} : (cMinL [.d (.list (ns.map .int))] st).To Q ↔ ∃ m, minI ns = some m ∧ Q (.d (.int m)) st := by
  unfold cMinL cInts
  show (match intsOf (ns.map PyData.int) with | some ns => (match (minI ns).map PyData.int with | some x => Res.ok (U.d x) st | none => .no) | none => .no).To Q ↔ _
  rw [intsOf_map]
  show (match (minI ns).map PyData.int with | some x => Res.ok (U.d x) st | none => .no).To Q ↔ _
  cases minI ns <;> simp
@[simp] theorem to_sumL {ns : List Int} : (cSum [.d (.list (ns.map .int))] st).To Q ↔ Q (.d (.int ns.sum)) st := by
  unfold cSum cInts
  show (match intsOf (ns.map PyData.int) with | some ns => Res.ok (U.d (.int ns.sum)) st | none => .no).To Q ↔ _
  rw [intsOf_map]
  exact Iff.rfl
end
theorem lc_mapA {α : Type} {f g : α → PyData} {d : ItD} {vs : List Nat} {t : MT} {c : MB} {m : ME} {l : Loc} {st : Sto} {P : List PyData → Sto → Prop} {as : List α} (hk : d.chk st)
    (h : ∀ a, a ∈ as → (t (.d (f a)) (wipeL l vs) st).To fun l1 s => (c l1 s).To fun b s => b = true ∧ (m l1 s).To fun u s => u = .d (g a) ∧ s = st) (fin : P (as.map g) st) : (lcM d vs t c m l (as.map f) st).To P := by
  refine (lc_to (I := fun ys acc s => s = st ∧ ∃ zs ws, as = zs ++ ws ∧ ys = ws.map f ∧ acc = zs.map g) (P := fun ys s => ys = as.map g ∧ s = st) (fun _ _ _ z => z.1 ▸ hk) ?_ ?_ (as.map f) [] st ⟨rfl, [], as, rfl, rfl, rfl⟩).mono ?_
  · rintro x ys acc s ⟨rfl, zs, ws, e1, e2, rfl⟩
    cases ws with
    | nil => cases e2
    | cons a ws =>
      cases e2
      refine (h a (by rw [e1]; simp)).mono ?_
      rintro l1 s1 h1
      refine h1.mono ?_
      rintro b s2 ⟨rfl, h2⟩
      rw [if_pos rfl]
      refine h2.mono ?_
      rintro u s3 ⟨rfl, rfl⟩
      exact ⟨_, rfl, rfl, zs ++ [a], ws, by rw [e1]; simp, rfl, by simp⟩
  · rintro acc s ⟨rfl, zs, ws, e1, e2, rfl⟩
    have : ws = [] := by cases ws with | nil => rfl | cons c bs => cases e2
    subst this
    simp [e1]
  · rintro ys s ⟨rfl, rfl⟩
    exact fin
theorem range_map {n : Nat} : rangeD 0 1 n = (List.range n).map fun (i : Nat) => PyData.int i := by
  unfold rangeD
  refine List.map_congr_left fun i _ => ?_
  simp
end NW
namespace NW
open PySem PySem.Spec PyProof.Rows L2
theorem meets_enumerate_newB {v : Value} {o : Obj} {H : Heap → Prop} (B : Begins v o H) :
    Meets (Builtin.«enumerate.__new__» ⟨[.type "enumerate", v], []⟩) (fun _ R s => H s.heap ∧
      R (.ok (.ret (.ref (s.heap.push o).objs.size)))
        { s with heap := (s.heap.push o).push { cls := .type "enumerate", data := .fields #[.none, .bool false, .ref s.heap.objs.size, rawInt 0, .none, .none] } }) :=
  .of_wp fun prog w A R s h => by
    obtain ⟨hp, g, d, tk, os⟩ := s; obtain ⟨h1, h⟩ := h
    have hsub := sub_enumerate
    have q1 : ∀ {A' : Around} {E : Value → Shared → Prop} {Q : Value → Shared → Prop}, Q (.ref hp.objs.size) ⟨(hp.push o), g, d, tk, os⟩ → wpAny (model prog w) A' (pyIter v) Q E ⟨hp, g, d, tk, os⟩ :=
      fun q => B.iter prog w _ _ ⟨hp, g, d, tk, os⟩ _ (B.keeps _ _ h1 fun b o' e => e) q
    wp_walk
    refine wpAny_stack_any fun st => wpAny_pure ?_
    split
    · rename_i c _ _ _ _ _
      cases (c == Value.type "enumerate")
      · wp_walk using q1
        exact ⟨_, rfl, h⟩
      · wp_walk using q1
        exact ⟨_, rfl, h⟩
    · wp_walk using q1
      exact ⟨_, rfl, h⟩
section
variable {prog : Program} {w : World} {A : Around} {E : Value → Shared → Prop} {s : Shared}
theorem call_enumerate_tuple {l : Addr} {items : Array Value} {Q : Value → Shared → Prop} (hL : s.heap.IsTuple l items)
    (h : ∀ h', IsEnum h' (s.heap.objs.size + 1) s.heap.objs.size 0 .none → h'.IsTupleIter s.heap.objs.size l 0 → h'.objs.size = s.heap.objs.size + 2 →
      (∀ b o, s.heap.get? b = some o → h'.get? b = some o) → Q (.ref (s.heap.objs.size + 1)) { s with heap := h' }) :
    wpAny (model prog w) A (call (.type "enumerate") [.ref l]) Q E s := by
  refine callType_new F.called_enumerate (by decide) (F.typeCall_enumerate_1 _) (F.newCall_enumerate_1 _) (fun obj => F.args_object_init_2 obj _) F.entry_enumerate_new
    (meets_enumerate_newB (begins_tuple l items)) ⟨hL, ?_⟩
  have hz : (s.heap.push { cls := .type "tuple_iterator", data := .fields #[.ref l, .int 0 0] }).objs.size = s.heap.objs.size + 1 := Heap.size_push ..
  show _ ∧ _
  rw [hz]
  have he : IsEnum ((s.heap.push { cls := .type "tuple_iterator", data := .fields #[.ref l, .int 0 0] }).push
      { cls := .type "enumerate", data := .fields #[.none, .bool false, .ref s.heap.objs.size, rawInt 0, .none, .none] }) (s.heap.objs.size + 1) s.heap.objs.size 0 .none := by
    have := Heap.get?_push_size (s.heap.push { cls := .type "tuple_iterator", data := .fields #[.ref l, .int 0 0] })
      (o := { cls := .type "enumerate", data := .fields #[.none, .bool false, .ref s.heap.objs.size, rawInt 0, .none, .none] }) rfl
    rw [hz] at this; exact this
  refine ⟨⟨_, he, rfl⟩, h _ he ⟨_, Heap.get?_push_of_some _ (Heap.get?_push_size _ rfl), rfl, rfl⟩ (by rw [Heap.size_push, hz]) fun b o x => Heap.get?_push_of_some _ (Heap.get?_push_of_some _ x)⟩
end
theorem Draws.tupEnd {prog : Program} {w : World} {A : Around} (hh : A.handled = none) (it t : Addr) (hne : t ≠ it) (items : Array Value) (n : Nat) (hn : items[n]? = none) :
    Draws prog w A it [it, t] n (fun _ _ => False) (fun i h => i = n ∧ h.IsTupleIter it t n ∧ h.IsTuple t items) where
  live := fun _ _ st => let ⟨o, ho, _⟩ := st.2.1; ⟨o, ho⟩
  frame := fun _ _ _ st hk => ⟨st.1, st.2.1.at fun o e => hk it (by simp) o e, st.2.2.at fun o e => hk t (by simp) o e⟩
  item := fun i s Q E hi st hQ => by have := st.1; omega
  done := fun s Q E st hE => wpAny_nextOf_tuple_end hh st.2.1 st.2.2 hn hE
def IteT (K : PySem.W.Frag) (a : Addr) : It :=
  ⟨fun i H => ∃ (xs : List V) (x : V), SqT K H a xs ∧ xs[i]? = some x, fun i H v H' => ∃ T x, v = .ref T ∧ H T = none ∧ H' = upd H T (.tup [.int (i : Nat), x]) ∧ ∀ xs, SqT K H a xs → xs[i]? = some x, fun i H => ∃ xs : List V, SqT K H a xs ∧ xs.length ≤ i⟩
theorem turn_enumT {P : Program} {w : World} {K : PySem.W.Frag} {elts : List Expr} {kk : Nat} {tpos : Pos} (a e it : Addr) (ha : a ≠ it) (ha2 : a ≠ e) :
    Turn P w K (.Tuple elts kk tpos) (IteT K a) [e, it] e (fun i h => (∃ old, IsEnum h e it ((i : Nat) : Int) old) ∧ h.IsTupleIter it a i ∧ e ≠ it) where
  mem := by simp
  obj := fun i h st b hb => by
    obtain ⟨⟨old, he⟩, ⟨o, ho, hc, hd⟩, _⟩ := st
    have e' : b = e ∨ b = it := by simpa using hb
    rcases e' with z | z
    · rw [z]; exact ⟨_, he, fun v q => nomatch q⟩
    · rw [z]; exact ⟨o, ho, fun v q => by rw [hd] at q; cases q⟩
  keep := fun i h h' st k => let ⟨⟨old, he⟩, hi, hne⟩ := st; ⟨⟨old, k e (by simp) _ he⟩, hi.at fun o q => k it (by simp) o q, hne⟩
  item := by
    intro X hP hw hK hc i pins s σ H E I hf st hg
    subst hP hw hK
    obtain ⟨⟨old, he⟩, hit, hne⟩ := st
    obtain ⟨xs, x, hq, hx⟩ := hg
    obtain ⟨its, rv, p, hz⟩ := I.tuple hq
    obtain ⟨u, hu, ru⟩ := rv.get hx
    have hel : e < s.heap.objs.size := Heap.lt_size he
    have hil : it < s.heap.objs.size := by obtain ⟨_, q, _⟩ := hit; exact Heap.lt_size q
    have hu' : its.toArray[i]? = some u := by simpa using hu
    have hlt : i < its.toArray.size := by
      have := (List.getElem?_eq_some_iff.mp hu).1
      simpa using this
    refine wpAny_pyNext_enum_itemD (Draws.tuple (A := X.A.in1) (show X.A.in1.handled = none from I.ok.hd hc) it a ha its.toArray) he ⟨hit, (show s.heap.IsTuple a its.toArray from p)⟩ hlt hne (by simp [hne, Ne.symm ha2]) fun x' h' tk hx' ho hst hT hsz hk => ?_
    have ex : x' = u := Option.some.inj (hx'.symm.trans hu')
    subst ex
    refine ⟨_, rfl, wpAny_letOwnedTupleGo_enum (s := { s with heap := h', toks := tk + 1 }) ho fun h'' he' sb => ?_⟩
    have hT2 : h''.get? s.heap.objs.size = some { cls := .type "tuple", data := .seq #[.int i tk, x'] } := (sb.2 _ (Nat.ne_of_gt hel)).trans hT
    have new : ObjOk X.prog X.w (upd H s.heap.objs.size (.tup [.int (i : Nat), x])) h'' s.heap.objs.size (.tup [.int (i : Nat), x]) :=
      ⟨by show 2 ≤ sizeLine; decide, [.int i tk, x'], .cons ⟨_, rfl⟩ (.cons ru .nil), ⟨_, hT2, rfl, _, rfl⟩⟩
    have I1 : Inv X pins σ (upd H s.heap.objs.size (.tup [.int (i : Nat), x])) { s with heap := h'', toks := tk + 1 } :=
      I.turnedNew (ch := [e, it]) (fun b ob hb q => (sb.2 b (fun z => hb (by simp [z]))).trans (hk b ob (fun z => hb (by simp [z])) (fun z => hb (by simp [z])) q)) hf (Nat.le_refl _) new
    refine ⟨.ref s.heap.objs.size, _, I1, rfl, ⟨_, x, rfl, I.hok.fresh (Nat.le_refl _), rfl, fun ys hy => by rw [I.tuple_inj hy hq]; exact hx⟩, ⟨⟨x', ?_⟩, hst.1.at fun o q => (sb.2 it (Ne.symm hne)).trans q, hne⟩, fun b hb => ?_⟩
    · have e1 : ((i + 1 : Nat) : Int) = (i : Int) + 1 := by omega
      rw [e1]; exact he'
    · have hb' : b < s.heap.objs.size := by
        have e' : b = e ∨ b = it := by simpa using hb
        rcases e' with z | z
        · rw [z]; exact hel
        · rw [z]; exact hil
      rw [upd_ne (Nat.ne_of_lt hb')]
      exact (hf b hb).1
  done := by
    intro X hP hw hK hc i pins s σ H E I hf st hg
    subst hP hw hK
    obtain ⟨⟨old, he⟩, hit, hne⟩ := st
    obtain ⟨xs, hq, hx⟩ := hg
    obtain ⟨its, rv, p, hz⟩ := I.tuple hq
    obtain ⟨f0, f1, f2, f3, f4, f5⟩ := hf it (by simp)
    have hl := rv.length
    have hn : its.toArray[i]? = none := by simp; omega
    refine wpAny_pyNext_enum_endD (Draws.tupEnd (A := X.A.in1) (show X.A.in1.handled = none from I.ok.hd hc) it a ha its.toArray i hn) he ⟨rfl, hit, (show s.heap.IsTuple a its.toArray from p)⟩ fun h' eb => ?_
    exact ⟨rfl, I.turned (t' := s.toks) (fun b o hb q => eb b o hb q) f0 f1 f3 f4 f5⟩
  self := fun A i s Q E st h => let ⟨⟨_, he⟩, _⟩ := st; wpAny_pyIter_enum he h
def iEnumA (K : PySem.W.Frag) (ta : TA) : TI := fun σ H R => ta σ H fun vs H1 => ∃ a, vs = [.ref a] ∧ (((∃ xs, SqL K H1 a xs) ∧ R (Ite K a) H1) ∨ ((∃ xs, SqT K H1 a xs) ∧ R (IteT K a) H1))
theorem pi_enumA {X : Cx} {e : Expr} {ta : TA} {p pos tpos : Pos} {elts : List Expr} {kk : Nat} (hg : Gl X "enumerate") (hm : X.mg "enumerate" = none) (ha : PA X [e] ta) (hs : starEach [e] X.env = [(false, eval e X.env)] := by rfl) :
    PI X (.Tuple elts kk tpos) (.Call (.Name "enumerate" p) [e] [] pos) (iEnumA X.K ta) := by
  refine ⟨fun pins s σ H R I h => ?_⟩
  refine Call_ (ld_blt I hg hm boot_enumerate (PyProof.Rows.callWith_type1 (thn (ha.run pos pins s σ H _ I h) fun us s1 ⟨vs, H1, I1, r1, q1⟩ => ?_) hs rfl))
  obtain ⟨a, ex, q⟩ := q1
  subst ex
  cases r1 with
  | cons r rr =>
    cases rr
    cases r
    rcases q with ⟨⟨xs, hq⟩, q⟩ | ⟨⟨xs, hq⟩, q⟩
    · obtain ⟨its, rv, p', hz⟩ := I1.list hq
      refine call_enumerate_list p'.isList fun h' he hit hsz hk => wpAny_pyIter_enum he ?_
      have I2 : Inv X pins σ H1 { s1 with heap := h' } := I1.kept (t' := s1.toks) hk
      refine ⟨s1.heap.objs.size + 1, [s1.heap.objs.size + 1, s1.heap.objs.size], _, _, H1, rfl, I2, turn_enum a (s1.heap.objs.size + 1) s1.heap.objs.size, ⟨⟨.none, he⟩, hit, Nat.succ_ne_self _⟩, fun b hb => ?_, q⟩
      have e' : b = s1.heap.objs.size + 1 ∨ b = s1.heap.objs.size := by simpa using hb
      have hle : s1.heap.objs.size ≤ b := by
        rcases e' with z | z
        · rw [z]; exact Nat.le_add_right _ _
        · rw [z]; exact Nat.le_refl _
      exact I1.fpOk hle (I1.hok.fresh hle)
    · obtain ⟨its, rv, p', hz⟩ := I1.tuple hq
      have pt : s1.heap.IsTuple a its.toArray := p'
      have hal : a < s1.heap.objs.size := by obtain ⟨_, q, _⟩ := pt; exact Heap.lt_size q
      refine call_enumerate_tuple pt fun h' he hit hsz hk => wpAny_pyIter_enum he ?_
      have I2 : Inv X pins σ H1 { s1 with heap := h' } := I1.kept (t' := s1.toks) hk
      refine ⟨s1.heap.objs.size + 1, [s1.heap.objs.size + 1, s1.heap.objs.size], _, _, H1, rfl, I2, turn_enumT a (s1.heap.objs.size + 1) s1.heap.objs.size (Nat.ne_of_lt hal) (Nat.ne_of_lt (Nat.lt_succ_of_lt hal)), ⟨⟨.none, he⟩, hit, Nat.succ_ne_self _⟩, fun b hb => ?_, q⟩
      have e' : b = s1.heap.objs.size + 1 ∨ b = s1.heap.objs.size := by simpa using hb
      have hle : s1.heap.objs.size ≤ b := by
        rcases e' with z | z
        · rw [z]; exact Nat.le_add_right _ _
        · rw [z]; exact Nat.le_refl _
      exact I1.fpOk hle (I1.hok.fresh hle)
def enumD (xs : List PyData) : List PyData := xs.zipIdx.map fun p => .tuple [.int (p.2 : Nat), p.1]
theorem enumD_get {xs : List PyData} {i : Nat} {y : PyData} (h : (enumD xs)[i]? = some y) : ∃ x, xs[i]? = some x ∧ y = .tuple [.int (i : Nat), x] := by
  unfold enumD at h
  rw [List.getElem?_map, List.getElem?_zipIdx] at h
  cases e : xs[i]? with
  | none => rw [e] at h; cases h
  | some x => rw [e] at h; simp at h; exact ⟨x, rfl, h.symm⟩
@[simp] theorem enumD_len {xs : List PyData} : (enumD xs).length = xs.length := by simp [enumD]
section
variable {G : Gx} {β : List Addr} {st : Sto} {H : Hp}
theorem pair_rt {G : Gx} {β : List Addr} {st : Sto} {H : Hp} {T : Addr} {i : Nat} {x : V} {y : PyData} (rl : Rl G β H st) (hT : H T = none) (r : RT G.K (Ban G β st) H x y) :
    RT G.K (Ban G β st) (upd H T (.tup [.int (i : Nat), x])) (.ref T) (.tuple [.int (i : Nat), y]) := by
  have f : Fut G β st H β st (upd H T (.tup [.int (i : Nat), x])) := Fut.new hT
  exact .tup (.inl ⟨.inl upd_same, rl.notBan hT⟩) (.cons (.int _) (.cons (f.rt r) .nil))
theorem ite_r {p : Addr} {own : List (Nat × List PyData)} {xs : List PyData} (s : SrcL G β st H p own xs) : ItR G β st H (Ite G.K p) ⟨enumD xs, own⟩ := fun O1 hO β1 H1 st1 f rl1 hk i => by
  obtain ⟨vs, sq, r⟩ := s O1 hO β1 H1 st1 f rl1 hk
  refine ⟨fun y hy => ?_, fun hi => ⟨vs, sq, by rw [r.len]; simpa using hi⟩⟩
  obtain ⟨y, hy2, rfl⟩ := enumD_get hy
  obtain ⟨w, hw, rw'⟩ := r.get hy2
  refine ⟨⟨vs, w, sq, hw⟩, fun x H' hyl => ?_⟩
  obtain ⟨T, x', rfl, hT, rfl, hx⟩ := hyl
  have e : w = x' := Option.some.inj (hw.symm.trans (hx vs sq))
  subst e
  exact ⟨.inr ⟨T, _, hT, rfl⟩, pair_rt rl1 hT rw'⟩
theorem iteT_r {p : Addr} {xs : List PyData} (s : SrcT G β st H p xs) : ItR G β st H (IteT G.K p) ⟨enumD xs, []⟩ := fun O1 hO β1 H1 st1 f rl1 hk i => by
  obtain ⟨vs, sq, r⟩ := s O1 hO β1 H1 st1 f rl1
  refine ⟨fun y hy => ?_, fun hi => ⟨vs, sq, by rw [r.len]; simpa using hi⟩⟩
  obtain ⟨y, hy2, rfl⟩ := enumD_get hy
  obtain ⟨w, hw, rw'⟩ := r.get hy2
  refine ⟨⟨vs, w, sq, hw⟩, fun x H' hyl => ?_⟩
  obtain ⟨T, x', rfl, hT, rfl, hx⟩ := hyl
  have e : w = x' := Option.some.inj (hw.symm.trans (hx vs sq))
  subst e
  exact ⟨.inr ⟨T, _, hT, rfl⟩, pair_rt rl1 hT rw'⟩
def mEnum (a : MA) : MI := fun l st => (a l st).bind fun us st => match us with
  | [u] => (match srcOf st u with
    | some (xs, own) => .ok ⟨enumD xs, own⟩ st
    | none => .no)
  | _ => .no
theorem i_enumA {ta : TA} {a : MA} (h : SimA G ta a) : SimI G (iEnumA G.K ta) (mEnum a) := fun β H σ l st re R q => by
  refine h β H σ l st re _ (wpR_bind q fun vs us H1 β1 st1 f1 rl1 p1 h1 => ?_)
  split at h1
  · rename_i u
    split at h1
    · rename_i xs own e
      obtain ⟨v, rfl, r⟩ := one_u p1
      obtain ⟨p, rfl, ⟨s, vs, sq, _⟩ | ⟨rfl, s, vs, sq, _⟩⟩ := src_q rl1 r e
      · exact ⟨p, rfl, .inl ⟨⟨vs, sq⟩, h1 _ H1 β1 Fut.refl rl1 (ite_r s)⟩⟩
      · exact ⟨p, rfl, .inr ⟨⟨vs, sq⟩, h1 _ H1 β1 Fut.refl rl1 (iteT_r s)⟩⟩
    · exact h1.elim
  · exact h1.elim
end
theorem qi_enum {X : Cx} {e : Expr} {tA : TA} {mA : MA} {p pos tpos : Pos} {elts : List Expr} {kk : Nat} (hm : X.mg "enumerate" = none) (h : QA X [e] tA mA) (hg : Gl X "enumerate" := by rfl) (hs : starEach [e] X.env = [(false, eval e X.env)] := by rfl) :
    QI X (.Tuple elts kk tpos) (.Call (.Name "enumerate" p) [e] [] pos) (iEnumA X.K tA) (mEnum mA) := ⟨pi_enumA hg hm h.pa hs, fun G hG => hG ▸ i_enumA (h.sim G hG)⟩
section
variable {l : Loc} {st : Sto}
@[simp] theorem to_mEnum {a : MA} {Q : ItD → Sto → Prop} : (mEnum a l st).To Q ↔ (a l st).To fun us s => ∃ u xs own, us = [u] ∧ srcOf s u = some (xs, own) ∧ Q ⟨enumD xs, own⟩ s := by
  unfold mEnum
  rw [to_bind]
  cases a l st with
  | ok us s =>
    simp only [to_ok]
    split
    · rename_i u
      cases e : srcOf s u with
      | none =>
        refine ⟨fun z => z.elim, ?_⟩
        rintro ⟨u', xs, own, e1, e2, _⟩
        cases e1; rw [e] at e2; cases e2
      | some p =>
        refine ⟨fun z => ⟨u, p.1, p.2, rfl, e, z⟩, ?_⟩
        rintro ⟨u', xs, own, e1, e2, z⟩
        cases e1; rw [e] at e2; cases e2; exact z
    · rename_i h
      refine ⟨fun z => z.elim, ?_⟩
      rintro ⟨u, xs, own, e1, _⟩
      exact (h u e1).elim
  | _ => exact Iff.rfl
end
end NW
namespace NW
open PySem PySem.Spec PyProof.Rows L2
section
variable {l : Loc} {st : Sto} {Q : U → Sto → Prop}
theorem fCallP_G {k : Nat} {m : List PyData → Rp} {us : List U} {ds : List PyData} (h : ctrees st us = some ds) (hk : ds.length = k) : (fCallP k m us st).To Q ↔ (m ds).To fun d => (us.any isRef = true → noLst d = true) ∧ Q (.d d) st := by
  unfold fCallP
  rw [h]
  simp only [hk, if_true]
  cases m ds with
  | ok d fr =>
    show (if (!us.any isRef || noLst d) = true then Res.ok (U.d d) st else .no).To Q ↔ _
    rw [to_ite]
    show _ ↔ ((us.any isRef = true → noLst d = true) ∧ Q (U.d d) st)
    cases us.any isRef <;> cases noLst d <;> simp
  | _ => exact Iff.rfl
theorem ctrees_none {us : List U} (h : ctrees st us = none) {k : Nat} {m : List PyData → Rp} : ¬ (fCallP k m us st).To Q := by
  unfold fCallP; rw [h]; exact id
theorem toTree_refN {i : Nat} (h : ∀ xs, st.obs[i]? ≠ some (Ob.lst xs)) : toTree st (.ref i) = none := by
  cases e : toTree st (.ref i) with
  | none => rfl
  | some x => obtain ⟨xs, h1, _⟩ := toTree_ref.mp e; exact absurd h1 (h xs)
@[simp] theorem callP_R {i : Nat} {m : List PyData → Rp} : (fCallP 1 m [.ref i] st).To Q ↔ ∃ xs, st.obs[i]? = some (Ob.lst xs) ∧ (m [.list xs]).To fun d => noLst d = true ∧ Q (.d d) st := by
  by_cases hx : ∃ xs, st.obs[i]? = some (Ob.lst xs)
  · obtain ⟨xs, hx⟩ := hx
    have e : ctrees st [.ref i] = some [.list xs] := by rw [ctrees, toTree_ref.mpr ⟨xs, hx, rfl⟩]; rfl
    refine (fCallP_G e rfl).trans ?_
    simp [hx, isRef]
  · have hx' : ∀ xs, st.obs[i]? ≠ some (Ob.lst xs) := fun xs h => hx ⟨xs, h⟩
    have e : ctrees st [.ref i] = none := by rw [ctrees, toTree_refN hx']
    exact ⟨fun h => (ctrees_none e h).elim, fun ⟨xs, h, _⟩ => (hx' xs h).elim⟩
@[simp] theorem callP_RD {i : Nat} {y : PyData} {m : List PyData → Rp} : (fCallP 2 m [.ref i, .d y] st).To Q ↔ ∃ xs, st.obs[i]? = some (Ob.lst xs) ∧ (m [.list xs, y]).To fun d => noLst d = true ∧ Q (.d d) st := by
  by_cases hx : ∃ xs, st.obs[i]? = some (Ob.lst xs)
  · obtain ⟨xs, hx⟩ := hx
    have e : ctrees st [.ref i, .d y] = some [.list xs, y] := by rw [ctrees, toTree_ref.mpr ⟨xs, hx, rfl⟩]; rfl
    refine (fCallP_G e rfl).trans ?_
    simp [hx, isRef]
  · have hx' : ∀ xs, st.obs[i]? ≠ some (Ob.lst xs) := fun xs h => hx ⟨xs, h⟩
    have e : ctrees st [.ref i, .d y] = none := by rw [ctrees, toTree_refN hx']
    exact ⟨fun h => (ctrees_none e h).elim, fun ⟨xs, h, _⟩ => (hx' xs h).elim⟩
@[simp] theorem callP_DR {i : Nat} {y : PyData} {m : List PyData → Rp} : (fCallP 2 m [.d y, .ref i] st).To Q ↔ ∃ xs, st.obs[i]? = some (Ob.lst xs) ∧ (m [y, .list xs]).To fun d => noLst d = true ∧ Q (.d d) st := by
  by_cases hx : ∃ xs, st.obs[i]? = some (Ob.lst xs)
  · obtain ⟨xs, hx⟩ := hx
    have e : ctrees st [.d y, .ref i] = some [y, .list xs] := by rw [ctrees, ctrees, toTree_ref.mpr ⟨xs, hx, rfl⟩]; rfl
    refine (fCallP_G e rfl).trans ?_
    simp [hx, isRef]
  · have hx' : ∀ xs, st.obs[i]? ≠ some (Ob.lst xs) := fun xs h => hx ⟨xs, h⟩
    have e : ctrees st [.d y, .ref i] = none := by rw [ctrees, ctrees, toTree_refN hx']; rfl
    exact ⟨fun h => (ctrees_none e h).elim, fun ⟨xs, h, _⟩ => (hx' xs h).elim⟩
@[simp] theorem to_max2 {i j : Int} : (cMax2 [.d (.int i), .d (.int j)] st).To Q ↔ Q (.d (.int (if j > i then j else i))) st := Iff.rfl
@[simp] theorem to_min2 {i j : Int} : (cMin2 [.d (.int i), .d (.int j)] st).To Q ↔ Q (.d (.int (if j < i then j else i))) st := Iff.rfl
end
end NW
namespace NW
open PySem PySem.Spec PyProof.Rows L2
def gSeqM (n : Nat) (r : MTs) : MT := fun u l st => match seqOf st u with
  | some xs => if xs.length = n then r xs l st else .no
  | none => .no
section
variable {l : Loc} {st : Sto}
@[simp] theorem to_gSeqT {n : Nat} {r : MTs} {xs : List PyData} {P : Loc → Sto → Prop} : (gSeqM n r (.d (.tuple xs)) l st).To P ↔ xs.length = n ∧ (r xs l st).To P := by
  show (if xs.length = n then r xs l st else .no).To P ↔ _
  rw [to_ite]; split <;> simp [*]
@[simp] theorem to_gSeqL {n : Nat} {r : MTs} {xs : List PyData} {P : Loc → Sto → Prop} : (gSeqM n r (.d (.list xs)) l st).To P ↔ xs.length = n ∧ (r xs l st).To P := by
  show (if xs.length = n then r xs l st else .no).To P ↔ _
  rw [to_ite]; split <;> simp [*]
end
end NW
namespace NW
open PySem PySem.Spec PyProof.Rows L2
section
variable {G : Gx} {β : List Addr} {st : Sto} {H H' : Hp}
end
def fCallO (k : Nat) (m : List PyData → Rp) (us : List U) (st : Sto) : Res U := match ctrees st us with
  | some ds => if ds.length = k then (match m ds with
    | .ok (.list ys) true => if noLsts ys = true then .ok (.ref st.obs.length) (st.add ys) else .no
    | _ => .no) else .no
  | none => .no
def eCallO (k : Nat) (m : List PyData → Rp) (a : MA) : ME := fun l st => (a l st).bind (fCallO k m)
section
variable {G : Gx}
end
section
variable {X : Cx} {e : Expr} {es : List Expr} {pos p : Pos} {tA : TA} {mA : MA}
end
def Rp.ToF (r : Rp) (P : List PyData → Prop) : Prop := match r with
  | .ok (.list ys) true => P ys
  | _ => False
theorem Rp.ToF.to {r : Rp} {P : List PyData → Prop} {Q : PyData → Prop} (h : r.ToF P) (k : ∀ ys, P ys → Q (.list ys)) : r.To Q := by
  unfold Rp.ToF at h
  split at h
  · exact k _ h
  · exact h.elim
theorem Rp.ToF.mono {r : Rp} {P P' : List PyData → Prop} (h : r.ToF P) (k : ∀ ys, P ys → P' ys) : r.ToF P' := by
  unfold Rp.ToF at h ⊢
  split at h
  · exact k _ h
  · exact h.elim
def retO (P : List PyData → Prop) (u : U) (s : Sto) : Prop := match u with
  | .ref i => ∃ xs, s.obs[i]? = some (Ob.lst xs) ∧ P xs
  | _ => False
@[simp] theorem retO_ref {P : List PyData → Prop} {s : Sto} {i : Nat} : retO P (.ref i) s ↔ ∃ xs, s.obs[i]? = some (Ob.lst xs) ∧ P xs := Iff.rfl
section
variable {l : Loc} {st : Sto} {Q : U → Sto → Prop}
@[simp] theorem to_eCallO {k : Nat} {m : List PyData → Rp} {a : MA} : (eCallO k m a l st).To Q ↔ (a l st).To fun us s => (fCallO k m us s).To Q := by unfold eCallO; simp
end
def eTupRev (m : ME) : ME := fun l st => (m l st).bind fun u st => match listOf st u with
  | some xs => .ok (.d (.tuple xs.reverse)) st
  | none => .no
section
variable {l : Loc} {st : Sto} {Q : U → Sto → Prop}
@[simp] theorem to_eTupRev {m : ME} : (eTupRev m l st).To Q ↔ (m l st).To fun u s => ∃ xs, listOf s u = some xs ∧ Q (.d (.tuple xs.reverse)) s := by
  unfold eTupRev
  rw [to_bind]
  refine iff_of_eq (congrArg _ (funext fun u => funext fun s => propext ?_))
  cases listOf s u <;> simp
@[simp] theorem listOf_l {xs ys : List PyData} : listOf st (.d (.list xs)) = some ys ↔ xs = ys := by
  show some xs = some ys ↔ _
  simp
end
end NW
namespace NW
open PySem PySem.Spec PyProof.Rows L2
abbrev More (K K' : PySem.W.Frag) : Prop := ∀ (b : Addr) (o : Obj), K.lookup b = some o → K'.lookup b = some o
theorem lookup_app : ∀ {K L : List (Addr × Obj)} {b : Addr}, (K ++ L).lookup b = match K.lookup b with | some o => some o | none => L.lookup b
  | [], _, _ => rfl
  | (c, o) :: K, L, b => by
    rw [List.cons_append, List.lookup_cons, List.lookup_cons]
    cases b == c with
    | true => rfl
    | false => exact lookup_app
theorem more_app {K L : PySem.W.Frag} : More K (K ++ L) := fun b o e => by
  show List.lookup b (K ++ L) = some o
  rw [lookup_app, e]
theorem mem_lookup : ∀ {L : List (Addr × Obj)} {b : Addr} {o : Obj}, L.lookup b = some o → (b, o) ∈ L
  | [], _, _, e => by cases e
  | (c, u) :: L, b, o, e => by
    rw [List.lookup_cons] at e
    cases q : b == c with
    | true =>
      rw [q] at e
      have : b = c := by simpa using q
      cases e; subst this; simp
    | false =>
      rw [q] at e
      exact List.mem_cons_of_mem _ (mem_lookup e)
theorem lookup_mem : ∀ {L : List (Addr × Obj)} {b : Addr} {o : Obj}, (b, o) ∈ L → ∃ u, L.lookup b = some u
  | [], _, _, e => by cases e
  | (c, u) :: L, b, o, e => by
    rw [List.lookup_cons]
    cases q : b == c with
    | true => exact ⟨u, rfl⟩
    | false =>
      rcases List.mem_cons.mp e with e | e
      · cases e; simp at q
      · exact lookup_mem e
theorem in_app {K L : PySem.W.Frag} {h : Heap} (kx : K.In h) (lx : ∀ p ∈ L, h.get? p.1 = some p.2) : PySem.W.Frag.In (K ++ L) h := fun b o e => by
  have e' : List.lookup b (K ++ L) = some o := e
  rw [lookup_app] at e'
  cases q : List.lookup b K with
  | some u => rw [q] at e'; cases e'; exact kx b _ q
  | none => rw [q] at e'; exact lx _ (mem_lookup e')
theorem app_in {K L : PySem.W.Frag} {h base : Heap} (kx : K.In h) (lx : ∀ p ∈ L, h.get? p.1 = some p.2) (kb : PySem.W.Frag.In (K ++ L) base) {b : Addr} {o : Obj} (m : (b, o) ∈ L) : base.get? b = some o := by
  have key : List.lookup b (K ++ L) = some o := by
    rw [lookup_app]
    have h0 := lx _ m
    cases q : List.lookup b K with
    | some u =>
      have := kx b u q
      rw [h0] at this; cases this; rfl
    | none =>
      obtain ⟨u, hu⟩ := lookup_mem m
      have := lx _ (mem_lookup hu)
      rw [h0] at this; cases this
      exact hu
  exact kb b o key
theorem More.ns {K K' : PySem.W.Frag} (m : More K K') {g : Addr} {x : Str} {r : Option Value} (e : PySem.W.nsIn K g x = some r) : PySem.W.nsIn K' g x = some r := by
  unfold PySem.W.nsIn at e ⊢
  cases q : List.lookup g K with
  | none => rw [q] at e; cases e
  | some o => rw [m g o q]; rw [q] at e; exact e
theorem More.code {K K' : PySem.W.Frag} (m : More K K') {c : Value} {x : Str} (e : PySem.W.codeIn K c x = true) : PySem.W.codeIn K' c x = true := by
  unfold PySem.W.codeIn at e ⊢
  cases c with
  | ref b =>
    cases q : List.lookup b K with
    | none => simp [q] at e
    | some o => simp only [q] at e; simp only [m b o q]; exact e
  | _ => exact e
theorem keep_fn {K : PySem.W.Frag} {f : Addr} {oc : Value} {od : Option Addr} {fd : FuncData} {sl : Array (Option Value)} (e : K.lookup f = some ⟨oc, od, .func fd, sl⟩) : PySem.W.keepIn K (.ref f) = true := by
  unfold PySem.W.keepIn
  simp only [e]
theorem walk2 {l : PySem.W.OpenLaw} {n k : Nat} {q : Program} {loose : List Str} {XP : (Str → Option Value) → Heap → Prop} {YP : World → Heap → Prop} {d : DefRec} {K : Params → PySem.W.Frag} {sp : PySem.W.Frag → Sp} {x : Str}
    (h1 : l.most = some n) (h2 : n ≤ sizeLine) (h3 : d.params.defaults = []) (h4 : Room k callerA) (h5 : importsNone q = true) (h6 : ∀ (w : World) (h : Heap), YP w h → (K w.params).In h)
    (F : ∀ (w : World) (mg : Str → Option Value) (fa : Addr) (h : Heap) (K' : PySem.W.Frag), More (K w.params) K' → K'.In h → h.Ns mainGlobals mg → mg d.name = some (.ref fa) →
      ∃ fd : FuncData, (∀ (s : Shared) (v : Value), BindsTo s fd ⟨[v], []⟩ [(x, v)]) ∧ ∀ base : Heap, K'.In base → base.Ns mainGlobals mg → base.NoSeer → FnOk l.prog w K' mg base CX0 k fa fd [x] (sp K'))
    (h7 : ∀ (K : PySem.W.Frag) (H : Hp) (a : Addr) (ns : List Int), ns.length ≤ n → Only H → SqL K H a (ns.map V.int) → sp K [.ref a] H (fun v _ => v = .bl true) fun _ _ _ => False) :
    PySem.W.WalkO q loose XP YP l.row.toRowW d [] (fun f vs => PySem.call f vs) := by
  refine Att.attach_call h1 h3 fun w sA sB mg mb fa o pm cd doc a vs ns gr yy _ _ _ hmg hobj hints hlen hgen => ?_
  have kx := h6 w _ yy
  have seer := gr.T.seer h5
  obtain ⟨mc, ⟨oc, ec, pc, c1, c1', c1''⟩, c2⟩ := seer.statics
  obtain ⟨mm, ⟨om, em, pm', m1, m1', m1''⟩, m2⟩ := seer.mods
  obtain ⟨mi, ⟨oi, ei, pi, i1, i1', i1''⟩, i2⟩ := seer.imp
  obtain ⟨ma, bm, ob, ⟨oa, ea, pa, a1, a1', a1''⟩, a2, a3, a4, a5⟩ := seer.main
  have lx : ∀ p ∈ [(cStatics, oc), (sysModules, om), (builtinsNs, oi), (mainGlobals, oa), (bm, ob)], sB.heap.get? p.1 = some p.2 := by
    intro p hp
    simp only [List.mem_cons, List.not_mem_nil, or_false] at hp
    rcases hp with rfl | rfl | rfl | rfl | rfl <;> assumption
  obtain ⟨fd, hb, hF⟩ := F w mg fa _ (K w.params ++ [(cStatics, oc), (sysModules, om), (builtinsNs, oi), (mainGlobals, oa), (bm, ob)]) more_app (in_app kx lx) gr.T.g hmg
  refine law_call (in_app kx lx) gr.T.g gr.T.b gr.T.builtins gr.T.nolimit hgen hobj hints (Nat.le_trans hlen h2) h4 (fun base kb nb => hF base kb nb ?_) hb (fun H hO hS => h7 _ H a ns hlen hO hS) (fun _ _ _ z => z)
  refine ⟨⟨mc, ⟨oc, ec, pc, app_in kx lx kb (by simp), c1', c1''⟩, c2⟩, ⟨mm, ⟨om, em, pm', app_in kx lx kb (by simp), m1', m1''⟩, m2⟩, ⟨mi, ⟨oi, ei, pi, app_in kx lx kb (by simp), i1', i1''⟩, i2⟩, ⟨ma, bm, ob, ⟨oa, ea, pa, app_in kx lx kb (by simp), a1', a1''⟩, a2, app_in kx lx kb (by simp), a4, a5⟩⟩
theorem seX {P : Program} {base : Heap} {A : Around} {fr : List Env} {j : Nat} (h : base.NoSeer ∧ P.given.tree = none) (hr : Room j A) (hj : 32 ≤ j) (hf : ∃ (e1 : Env) (rest : List Env), fr = e1 :: rest ∧ e1.scope.isGenerator = false ∧ e1.scope.isCoroutine = false ∧ e1.builtins = builtinsNs ∧ e1.globals = mainGlobals) : SeX P base A fr :=
  ⟨h.1, h.2, by have := hr.dp; show A.depth + 100 < _; omega, hf⟩
end NW
namespace NW
open PySem PySem.Spec PyProof.Rows L2
section
variable {prog : Program} {w : World} {A : Around} {E : Value → Shared → Prop} {s : Shared} {l : Addr} {its : List Value} {ns : List Int} {Q : Value → Shared → Prop}
theorem sum_tupleRaw (hh : A.handled = none) (tl : s.heap.IsTuple l its.toArray) (hi : IntsAre its ns)
    (k : ∀ h' tk t', (∀ b o, s.heap.get? b = some o → h'.get? b = some o) → Q (.int ns.sum t') { s with heap := h', toks := tk }) : wpAny (model prog w) A (call (.builtin "sum") [.ref l]) Q E s := by
  obtain ⟨xs, e⟩ := hi.allInts.items
  have hn : numsOf (intItems xs).toList = ns := by rw [← e]; exact hi.numsOf
  rw [nums_intItems] at hn
  rw [e] at tl
  have lt : l < s.heap.objs.size := by obtain ⟨_, e1, _⟩ := tl; exact Heap.lt_size e1
  have new : ∀ (b : Addr) (o : Obj), s.heap.get? b = some o → b ≠ s.heap.objs.size := fun b o e1 e2 => by
    have := Heap.lt_size e1
    rw [e2] at this; exact Nat.lt_irrefl _ this
  refine call_sum_walkG (wpAny_pyIter_tuple tl ⟨_, _, _, _, _, _, numAt xs, rfl, Walks.tuple (A := A.in1) hh s.heap.objs.size l (Nat.ne_of_lt lt) (intItems xs), ⟨⟨_, Heap.get?_push_size _ rfl, rfl, rfl⟩, tl.push _⟩, fun b hb => ?_, (fun _ _ => intItems_at), fun h' tk t' hk => ?_⟩)
  · show b < (s.heap.push _).objs.size
    rw [Heap.size_push]
    simp only [List.mem_cons, List.not_mem_nil, or_false] at hb
    rcases hb with rfl | rfl
    · exact Nat.lt_succ_self _
    · exact Nat.lt_succ_of_lt lt
  · have z := k h' tk t' fun b o e1 => hk b o (by simpa using new b o e1) (Heap.get?_push_of_some _ e1)
    rw [preSum_eq, List.take_of_length_le (by simp [intItems]), hn]
    exact z
end
def rSumA (K : PySem.W.Frag) : List V → Hp → VK → Prop := fun vs H Q => ∃ (p : Addr) (ms : List Int), vs = [V.ref p] ∧ (SqL K H p (ms.map V.int) ∨ SqT K H p (ms.map V.int)) ∧ Q (.int ms.sum) H
theorem cr_sumA {X : Cx} (hc : X.calm = true) : CallR X (.builtin "sum") (rSumA X.K) := by
  intro pn s sg hp vs us Kq inv r hw
  obtain ⟨p, ms, ev, hs, q⟩ := hw
  subst ev
  rw [Vals.ref1 r]
  rcases hs with hs | hs
  · obtain ⟨its, rv, hl, _⟩ := inv.list hs
    exact sum_raw (inv.ok.hd hc) hl.isList rv.ints fun h' tk t' hk => ⟨V.int ms.sum, hp, inv.kept hk, ⟨_, rfl⟩, q⟩
  · obtain ⟨its, rv, hl, _⟩ := inv.tuple hs
    exact sum_tupleRaw (inv.ok.hd hc) (by obtain ⟨o, e1, e2, e3⟩ := hl; exact ⟨o, e1, e2, e3⟩) rv.ints fun h' tk t' hk => ⟨V.int ms.sum, hp, inv.kept hk, ⟨_, rfl⟩, q⟩
def cSumA : List U → Sto → Res U := fun us st => match us with
  | [u] => (match (seqOf st u).bind intsOf with
    | some ns => .ok (.d (.int ns.sum)) st
    | none => .no)
  | _ => .no
theorem c_sumA {G : Gx} : SimC G (rSumA G.K) cSumA := fun β H σ l st re xs us Q p h => by
  unfold cSumA at h
  split at h
  · obtain ⟨v, rfl, r⟩ := one_u p
    split at h
    · rename_i ns e
      cases q : seqOf st _ with
      | none => rw [q] at e; cases e
      | some ys =>
        rw [q] at e
        have e2 := intsOf_eq (show intsOf ys = some ns from e)
        subst e2
        obtain ⟨a, vs, rfl, b, c⟩ := seq_q re.rl r q
        rw [c.ints] at b
        exact ⟨a, ns, rfl, b, wpR_d re.rl (.int _) h⟩
    · exact h.elim
  · exact h.elim
section
variable {X : Cx} {e : Expr} {pos p : Pos} {tA : TA} {mA : MA}
theorem q_sumA (hc : X.calm = true) (hm : X.mg "sum" = none) (h : QA X [e] tA mA) (hg : Gl X "sum" := by rfl) (he : starEach (e :: []) X.env = (false, eval e X.env) :: starEach [] X.env := by rfl) (hpl : (backTo pos (starEach [] X.env)).any (·.1) = false := by rfl) : QE X (.Call (.Name "sum" p) [e] [] pos) (tCB (rSumA X.K) tA) (eCB cSumA mA) :=
  ⟨pe_callB (cr_sumA hc) hg hm (by decide +kernel) h.pa (by decide) (by decide) he hpl, fun G hG => hG ▸ s_cb c_sumA (h.sim G hG)⟩
end
section
variable {st : Sto} {Q : U → Sto → Prop}
@[simp] theorem to_sumAL {ns : List Int} : (cSumA [.d (.list (ns.map .int))] st).To Q ↔ Q (.d (.int ns.sum)) st := by
  show (match intsOf (ns.map PyData.int) with | some ns => Res.ok (U.d (.int ns.sum)) st | none => .no).To Q ↔ _
  rw [intsOf_map]
  exact Iff.rfl
@[simp] theorem to_sumAT {ns : List Int} : (cSumA [.d (.tuple (ns.map .int))] st).To Q ↔ Q (.d (.int ns.sum)) st := by
  show (match intsOf (ns.map PyData.int) with | some ns => Res.ok (U.d (.int ns.sum)) st | none => .no).To Q ↔ _
  rw [intsOf_map]
  exact Iff.rfl
theorem to_inT {neg : Bool} {x : PyData} {xs : List PyData} : (fIn neg (.d x) (.d (.tuple xs)) st).To Q ↔ (flatD x = true ∧ ∀ y, y ∈ xs → flatD y = true) ∧ Q (.d (.bool (if neg then !(xs.any fun y => PyData.eqv y x) else xs.any fun y => PyData.eqv y x))) st := by
  show (if (flatD x && xs.all flatD) = true then Res.ok (U.d (.bool (if neg then !(xs.any fun y => PyData.eqv y x) else xs.any fun y => PyData.eqv y x))) st else .no).To Q ↔ _
  rw [to_ite]
  simp only [Bool.and_eq_true, List.all_eq_true]
  split
  · rename_i h; exact ⟨fun z => ⟨h, z⟩, fun z => z.2⟩
  · rename_i h; exact ⟨fun z => z.elim, fun z => h z.1⟩
@[simp] theorem flatD_int {i : Int} : flatD (.int i) = true := rfl
end
end NW
namespace NW
open PySem PySem.Spec PyProof.Rows L2 _root_.RT
section
variable {prog : Program} {w : World} {A : Around} {E : Value → Shared → Prop} {s : Shared}
end
def lRev (m : ME) : ML := fun l st => (m l st).bind fun u st => match listOf st u with
  | some xs => .ok xs.reverse st
  | none => .no
section
variable {l : Loc} {st : Sto} {P : List PyData → Sto → Prop}
@[simp] theorem to_lRev {m : ME} : (lRev m l st).To P ↔ (m l st).To fun u s => ∃ xs, listOf s u = some xs ∧ P xs.reverse s := by
  unfold lRev
  rw [to_bind]
  refine iff_of_eq (congrArg _ (funext fun u => funext fun s => propext ?_))
  cases listOf s u <;> simp
end
end NW
namespace NW
open PySem PySem.Spec PyProof.Rows L2
section
variable {G : Gx}
open PySem.W (dataLe AllAlike Sortable EachIs)
def sortOk (ds : List PyData) : Bool := (ds.all fun d => ds.all fun e => PySem.W.alike d e) && ((ds.all fun d => match d with | .tuple (_ :: _) => true | _ => false) || (ds.all fun d => match d with | .none => false | .tuple _ => false | _ => true)) && ds.all fun d => decide (d.depth ≤ 60)
noncomputable def cSortD : List U → Sto → Res (List PyData) := fun us st => match us with
  | [u] => (match listOf st u with
    | some xs => if sortOk xs = true then .ok (xs.mergeSort (dataLe false id)) st else .no
    | none => .no)
  | _ => .no
end
section
variable {X : Cx} {e o : Expr} {pos p : Pos} {tA : TA} {mA : MA} {to : TE} {mo : ME}
end
def ME.nx (m : ME) : Prop := ∀ l st, (m l st).noEx
section
variable {st : Sto} {Q : U → Sto → Prop}
@[simp] theorem to_cSortD {u : U} {P : List PyData → Sto → Prop} : (cSortD [u] st).To P ↔ ∃ xs, listOf st u = some xs ∧ sortOk xs = true ∧ P (xs.mergeSort (PySem.W.dataLe false id)) st := by
  show (match listOf st u with | some xs => if sortOk xs = true then Res.ok (xs.mergeSort (PySem.W.dataLe false id)) st else .no | none => .no).To P ↔ _
  cases e : listOf st u with
  | none => simp
  | some xs => by_cases h : sortOk xs = true <;> simp [h]
end
end NW
namespace NW
open PySem PySem.Spec PyProof.Rows L2
section
variable {X : Cx} {a b : Expr} {ta tb : TE} {ma mb : ME} {pos : Pos}
end
section
variable {st : Sto} {Q : U → Sto → Prop}
end
end NW
namespace NW
open PySem PySem.Spec PyProof.Rows L2
def fIsB (neg : Bool) : U → U → Sto → Res U := fun a b st => match a, b with
  | .d (.bool x), .d (.bool y) => .ok (.d (.bool (if neg then !decide (x = y) else decide (x = y)))) st
  | _, _ => .no
section
variable {X : Cx} {a b : Expr} {ta tb : TE} {ma mb : ME} {pos : Pos}
end
@[simp] theorem to_isB {st : Sto} {Q : U → Sto → Prop} {x y neg : Bool} : (fIsB neg (.d (.bool x)) (.d (.bool y)) st).To Q ↔ Q (.d (.bool (if neg then !decide (x = y) else decide (x = y)))) st := Iff.rfl
end NW
namespace NW
open PySem PySem.Spec PyProof.Rows L2
def keyD : PyData → Option Key
  | .int k => some (.inl k)
  | .str k => some (.inr k)
  | _ => none
def lookI (es : List (Key × PyData)) (k : Key) : Option PyData := (es.find? fun e => decide (e.1 = k)).map (·.2)
def kD : Key → PyData
  | .inl k => .int k
  | .inr k => .str k
@[simp] theorem keyD_int {k : Int} : keyD (.int k) = some (.inl k) := rfl
@[simp] theorem keyD_str {k : Str} : keyD (.str k) = some (.inr k) := rfl
@[simp] theorem kD_int {k : Int} : kD (.inl k) = .int k := rfl
@[simp] theorem kD_str {k : Str} : kD (.inr k) = .str k := rfl
theorem key_v {K : PySem.W.Frag} {B : Addr → Prop} {H : Hp} {v : V} {x : PyData} {k : Key} (h : RT K B H v x) (e : keyD x = some k) : v = kV k := by
  unfold keyD at e
  split at e
  · cases e; cases h; rfl
  · cases e; cases h; rfl
  · cases e
theorem mergeK_nodup : ∀ (kvs acc : List (Key × V)), ((acc ++ kvs).map (·.1)).Nodup → mergeK acc kvs = acc ++ kvs
  | [], acc, _ => by simp [mergeK]
  | kv :: kvs, acc, h => by
    have h' : ((acc ++ [kv]) ++ kvs).map (·.1) = (acc ++ kv :: kvs).map (·.1) := by simp
    have nd : (acc.any fun e => decide (e.1 = kv.1)) = false := by
      rw [List.any_eq_false]
      intro x hx
      have : x.1 ≠ kv.1 := by
        rw [List.map_append, List.nodup_append] at h
        exact h.2.2 x.1 (List.mem_map_of_mem hx) kv.1 (by simp)
      simpa using this
    have e : putK acc kv.1 kv.2 = acc ++ [kv] := by unfold putK; rw [nd]; simp
    have ih := mergeK_nodup kvs (acc ++ [kv]) (by rw [h']; exact h)
    unfold mergeK at ih ⊢
    rw [List.foldl_cons, e, ih, List.append_assoc]; rfl
def rDGet : R2 := fun x y H Q => ∃ a v, x = .ref a ∧ DGet H a y (some v) ∧ Q v H
def fDGet : U → U → Sto → Res U := fun a b st => match a, b with
  | .dct es, .d z => (match (keyD z).bind (lookI es) with
    | some d => .ok (.d d) st
    | none => .no)
  | _, _ => .no
theorem look_r {K : PySem.W.Frag} {B : Addr → Prop} {H : Hp} {k : Key} {d : PyData} : ∀ {es : List (Key × PyData)} {kvs : List (Key × V)}, kvs.map (·.1) = es.map (fun e => e.1) → RTs K B H (kvs.map (·.2)) (es.map (·.2)) → lookI es k = some d → ∃ v, valV kvs k = some v ∧ RT K B H v d
  | [], _, _, _, e => by cases e
  | (k', d') :: es, [], h, _, _ => by cases h
  | (k', d') :: es, (q, v) :: kvs, h1, h2, e => by
    rw [List.map_cons, List.map_cons] at h1 h2
    obtain ⟨hq, h1'⟩ := List.cons.inj h1
    cases h2 with
    | cons r1 r2 =>
      have hq : k' = q := Eq.symm hq
      subst hq
      unfold lookI at e
      rw [List.find?_cons] at e
      by_cases hk : k' = k
      · subst hk
        simp at e
        subst e
        exact ⟨v, valV_pos rfl, r1⟩
      · have : decide (k' = k) = false := decide_eq_false hk
        simp only [this] at e
        obtain ⟨w, w1, w2⟩ := look_r h1' r2 e
        exact ⟨w, by rw [valV_neg (fun z => hk z)]; exact w1, w2⟩
theorem r_dget {G : Gx} : SimR G rDGet fDGet := fun β H σ l st re x y a b Q hx hy h => by
  unfold fDGet at h
  split at h
  · rename_i es z
    split at h
    · rename_i d e
      obtain ⟨p, o, kvs, rfl, ⟨hH, _⟩, h3, h4⟩ := hx
      cases ek : keyD z with
      | none => rw [ek] at e; cases e
      | some k =>
        rw [ek] at e
        have hy' := key_v (show RT G.K _ H y z from hy) ek
        subst hy'
        obtain ⟨v, hv, rv⟩ := look_r h3 h4 e
        refine ⟨p, v, rfl, ?_, wpR_d re.rl rv h⟩
        exact .inl ⟨kvs, k, .inr ⟨o, hH⟩, rfl, hv.symm⟩
    · exact h.elim
  · exact h.elim
section
variable {X : Cx} {a b e : Expr} {ta tb : TE} {ma mb : ME} {pos p : Pos} {tA : TA} {mA : MA}
theorem q_dget {k : Nat} (hr : Room k X.A) (ha : QE X a ta ma) (hb : QE X b tb mb) (hs : NoSl b := by exact fun _ _ => rfl) : QE X (.Subscript a b pos) (tOp rDGet ta tb) (eOp fDGet ma mb) := ⟨pe_dget (by have := hr.units; omega) ha.pe hb.pe hs, fun G h => s_op r_dget (ha.sim G h) (hb.sim G h)⟩
end
section
variable {st : Sto} {Q : U → Sto → Prop}
theorem to_dgetK {es : List (Key × PyData)} {z : PyData} {k : Key} (e : keyD z = some k) : (fDGet (.dct es) (.d z) st).To Q ↔ ∃ d, lookI es k = some d ∧ Q (.d d) st := by
  show (match (keyD z).bind (lookI es) with
    | some d => Res.ok (U.d d) st
    | none => .no).To Q ↔ _
  rw [e, Option.bind_some]
  cases lookI es k <;> simp
@[simp] theorem to_dget {es : List (Key × PyData)} {k : Int} : (fDGet (.dct es) (.d (.int k)) st).To Q ↔ ∃ d, lookI es (.inl k) = some d ∧ Q (.d d) st := to_dgetK rfl
@[simp] theorem to_dgetS {es : List (Key × PyData)} {k : Str} : (fDGet (.dct es) (.d (.str k)) st).To Q ↔ ∃ d, lookI es (.inr k) = some d ∧ Q (.d d) st := to_dgetK rfl
end
end NW
namespace NW
open PySem PySem.Spec PyProof.Rows L2
def SqK (K : PySem.W.Frag) (b : Bool) (H : Hp) (a : Addr) (xs : List V) : Prop := match b with | true => SqL K H a xs | false => SqT K H a xs
def ItK (b : Bool) (h : Heap) (it l : Addr) (i : Nat) : Prop := match b with | true => h.IsListIter it l i | false => h.IsTupleIter it l i
def itObj (b : Bool) (l : Addr) : Obj := match b with | true => { cls := .type "list_iterator", data := .fields #[.ref l, .int 0 0] } | false => { cls := .type "tuple_iterator", data := .fields #[.ref l, .int 0 0] }
theorem ItK.at {b : Bool} {h h' : Heap} {it l : Addr} {i : Nat} (x : ItK b h it l i) (k : ∀ o, h.get? it = some o → h'.get? it = some o) : ItK b h' it l i := by
  cases b
  · exact Heap.IsTupleIter.at (show h.IsTupleIter it l i from x) k
  · exact Heap.IsListIter.at (show h.IsListIter it l i from x) k
theorem ItK.obj {b : Bool} {h : Heap} {it l : Addr} {i : Nat} (x : ItK b h it l i) : ∃ o vs, h.get? it = some o ∧ o.data = .fields vs := by
  cases b
  · obtain ⟨o, e, _, d⟩ := x; exact ⟨o, _, e, d⟩
  · obtain ⟨o, e, _, d⟩ := x; exact ⟨o, _, e, d⟩
theorem ItK.first {b : Bool} {h : Heap} {it l : Addr} (e : h.get? it = some (itObj b l)) : ItK b h it l 0 := by
  cases b
  · exact ⟨_, e, rfl, rfl⟩
  · exact ⟨_, e, rfl, rfl⟩
def zipD (xs ys : List PyData) : List PyData := (xs.zip ys).map fun p => .tuple [p.1, p.2]
@[simp] theorem zipD_len {xs ys : List PyData} : (zipD xs ys).length = min xs.length ys.length := by simp [zipD]
section
variable {G : Gx} {β : List Addr} {st : Sto} {H : Hp}
def SrcK (G : Gx) (β : List Addr) (st : Sto) (H : Hp) (b : Bool) (p : Addr) (own : List (Nat × List PyData)) (xs : List PyData) : Prop := match b with
  | true => SrcL G β st H p own xs
  | false => own = [] ∧ SrcT G β st H p xs
theorem SrcK.go {b : Bool} {p : Addr} {own : List (Nat × List PyData)} {xs : List PyData} (s : SrcK G β st H b p own xs) {O1 : Addr → Prop} (hO : ∀ p, O1 p → G.O0 p ∨ H p = none) {β1 : List Addr} {H1 : Hp} {st1 : Sto} (f : Fut G β st H β1 st1 H1) (rl : Rl (G.o O1) β1 H1 st1)
    (hk : ∀ q ∈ own, st1.obs[q.1]? = some (Ob.lst q.2)) : ∃ vs, SqK G.K b H1 p vs ∧ RTs G.K (Ban (G.o O1) β1 st1) H1 vs xs := by
  cases b
  · exact s.2 O1 hO β1 H1 st1 f rl
  · exact (show SrcL G β st H p own xs from s) O1 hO β1 H1 st1 f rl hk
def mZip (a : MA) : MI := fun l st => (a l st).bind fun us st => match us with
  | [u, v] => (match srcOf st u, srcOf st v with
    | some (xs, own), some (ys, own2) => .ok ⟨zipD xs ys, own ++ own2⟩ st
    | _, _ => .no)
  | _ => .no
end
section
variable {l : Loc} {st : Sto}
@[simp] theorem to_mZip {a : MA} {Q : ItD → Sto → Prop} : (mZip a l st).To Q ↔ (a l st).To fun us s => ∃ u v xs own ys own2, us = [u, v] ∧ srcOf s u = some (xs, own) ∧ srcOf s v = some (ys, own2) ∧ Q ⟨zipD xs ys, own ++ own2⟩ s := by
  unfold mZip
  rw [to_bind]
  cases a l st with
  | ok us s =>
    simp only [to_ok]
    constructor
    · intro h
      split at h
      · rename_i u v
        split at h
        · rename_i xs own ys own2 e e2
          exact ⟨u, v, xs, own, ys, own2, rfl, e, e2, h⟩
        · exact h.elim
      · exact h.elim
    · rintro ⟨u, v, xs, own, ys, own2, rfl, e, e2, z⟩
      simp only [e, e2]
      exact z
  | _ => exact Iff.rfl
end
def fShl : U → U → Sto → Res U := oI (fun i j => decide (0 ≤ j ∧ j ≤ 1000000 ∧ i.natAbs < 2 ^ 64)) fun i j => .int (i * 2 ^ j.toNat)
@[simp] theorem to_shlI {i j : Int} {st : Sto} {Q : U → Sto → Prop} : (fShl (.d (.int i)) (.d (.int j)) st).To Q ↔ (0 ≤ j ∧ j ≤ 1000000 ∧ i.natAbs < 2 ^ 64) ∧ Q (.d (.int (i * 2 ^ j.toNat))) st := by unfold fShl oI; simp
end NW
namespace PySem.W
open PySem PySem.Calls PyProof.Rows
section
variable {prog : Program} {w : World} {A : Around} {E : Value → Shared → Prop} {s : Shared} {a kS : Addr} {vs : List Value} {e1 : Nat} {P : PySem.Fin → Shared → Prop} {kz : List PyData}
theorem freed_at (h : Heap) (k : Addr) : ∃ g : Heap, g.get? k = none ∧ Heap.SameBut k h g := by
  refine ⟨h.update k fun o => { o with data := .freed }, ?_, Heap.SameBut.update ..⟩
  cases h with
  | mk objs l =>
    show (match (objs.modify k fun o => { o with data := .freed })[k]? with | some ⟨_, _, .freed, _⟩ => none | o => o) = none
    rw [Array.getElem?_modify]
    simp only [if_true]
    cases objs[k]? <;> rfl
theorem keyJ_rest {f : Value} (J : Nat → Shared → List Value → Prop) (nk : s.heap.get? kS = some (seqObj "list" #[] 0)) (na : s.heap.get? a = some (seqObj "list" #[] e1)) (hka : kS ≠ a)
    (hlen : kz.length = vs.length) (hZ : vs.length ≤ sizeLine) (hal : AllAlike kz) (hsk : Sortable kz) (hu : ∀ d, d ∈ kz → A.units + d.depth < cLine) (j0 : J 0 s [])
    (turn : ∀ (i : Nat) (v : Value) (s1 : Shared) (kA : Array Value) (e : Nat), vs[i]? = some v → J i s1 kA.toList → s1.heap.get? kS = some (seqObj "list" kA e) → s1.heap.get? a = some (seqObj "list" #[] e1) →
      wpAny (model prog w) A (call f [v]) (fun u s2 => s2.heap.get? kS = some (seqObj "list" kA e) ∧ s2.heap.get? a = some (seqObj "list" #[] e1) ∧ ∀ h3, Heap.SameBut kS s2.heap h3 → J (i + 1) { s2 with heap := h3 } (kA.toList ++ [u])) (fun _ _ => False) s1)
    (fin : ∀ (s1 : Shared) (ks : List Value), J vs.length s1 ks → EachIs (fun v k => ∃ as, Reads s1.heap v k as) ks kz)
    (h : ∀ (s1 : Shared) (ks : List Value) (h' : Heap) (tk : Nat) (out : List Value) (c : Nat), J vs.length s1 ks → (∀ b o, b ≠ a → b ≠ kS → s1.heap.get? b = some o → h'.get? b = some o) → h'.get? a = some (seqObj "list" out.toArray c) → KeyedOut false kz vs out → P (.done (.ret .none)) { s1 with heap := h', toks := tk }) :
    wpAny (model prog w) A (ksk_rest a f false vs.toArray e1 (.ref kS)) P E s := by
  unfold ksk_rest
  refine wpAny_bind (wpAny_rule ?_)
  first
    | rw [List.forIn_toArray]
    | (rw [← Array.forIn_toList]; simp only [List.toList_toArray])
    | rw [← Array.forIn_toList]
  refine wpAny_bind (ksk_fold (fun i s' => ∃ kA e, s'.heap.get? kS = some (seqObj "list" kA e) ∧ s'.heap.get? a = some (seqObj "list" #[] e1) ∧ kA.size = i ∧ J i s' kA.toList) vs 0 s
    ⟨#[], 0, nk, na, rfl, j0⟩ ?step ?done)
  case step =>
    rintro j x s' hx ⟨kA, e, nk', na', hsz, hJ⟩
    simp only [Nat.zero_add] at hJ hsz ⊢
    have hj : j < vs.length := (List.getElem?_eq_some_iff.mp hx).1
    have hz : kA.size ≤ vs.length := by omega
    refine wpAny_bind (wpAny_attempt (wpAny_mono (turn j x s' kA e hx hJ nk' na') (fun v s'' he => ?_) fun _ _ hF => hF.elim))
    obtain ⟨nk2, na2, hn⟩ := he
    try dsimp only
    have s1 := Heap.SameBut.update s''.heap kS (Obj.mapSeq (·.push v))
    obtain ⟨c2, hc2⟩ : ∃ c2, (s''.heap.update kS (Obj.mapSeq (·.push v))).get? kS = some (seqObj "list" (kA.push v) c2) := ⟨_, get?_update_seq nk2 (·.push v)⟩
    refine wpAny_bind (listUpdate_at nk2 rfl ?_ (Nat.le_trans hz hZ) (Nat.le_trans (Nat.le_of_eq (Array.size_push ..)) (Nat.succ_le_succ (Nat.le_trans hz hZ))))
    have ea : (kA.push v).toList = kA.toList ++ [v] := by simp
    refine wpAny_pure ⟨rfl, kA.push v, c2, hc2, (s1.2 a hka.symm).trans na2, by rw [Array.size_push]; omega, ?_⟩
    rw [ea]
    exact hn _ s1
  case done =>
    rintro s' ⟨kA, e, nk', na', hsz, hJ⟩
    rw [Nat.zero_add] at hsz hJ
    have hk' := fin s' kA.toList hJ
    try dsimp only
    refine wpAny_bind (listItems_at nk' rfl ?_)
    obtain ⟨h₁, hn, sb⟩ := freed_at s'.heap kS
    have kp : KeepsBut a h₁ s'.heap := fun b o hb q => by
      by_cases hbk : b = kS
      · rw [hbk, hn] at q; cases q
      · exact (sb.2 b hbk).symm.trans q
    exact keyH_end (κ := dataKind s'.heap kz) (h₁ := h₁) kp hn nk' na' hka (SortsAt.data (s := s') hk' hal hsk hu) hsz hZ fun h3 tk3 c k3 n3 =>
      h s' kA.toList h3 tk3 _ c hJ (fun b o hb hbk q => k3 b o hb ((sb.2 b hbk).trans q)) n3 ⟨s'.heap, kA.toList, hal, rfl, hk'⟩
theorem sorted_J {l f : Addr} {Q : Value → Shared → Prop} (J : Addr → Nat → Shared → List Value → Prop) (hl : s.heap.IsList l vs.toArray)
    (hlen : kz.length = vs.length) (hZ : vs.length ≤ sizeLine) (hal : AllAlike kz) (hsk : Sortable kz) (hu : ∀ d, d ∈ kz → A.units + 2 + d.depth < cLine)
    (j0 : ∀ (kS : Addr) (h : Heap), s.heap.objs.size ≤ kS → (∀ b o, s.heap.get? b = some o → h.get? b = some o) → J kS 0 { s with heap := h } [])
    (turn : ∀ (kS : Addr) (e1 i : Nat) (v : Value) (s1 : Shared) (kA : Array Value) (e : Nat), kS ≠ s.heap.objs.size + 1 → vs[i]? = some v → J kS i s1 kA.toList → s1.heap.get? kS = some (seqObj "list" kA e) → s1.heap.get? (s.heap.objs.size + 1) = some (seqObj "list" #[] e1) →
      wpAny (model prog w) A.in1.in1 (call (.ref f) [v]) (fun u s2 => s2.heap.get? kS = some (seqObj "list" kA e) ∧ s2.heap.get? (s.heap.objs.size + 1) = some (seqObj "list" #[] e1) ∧ ∀ h3, Heap.SameBut kS s2.heap h3 → J kS (i + 1) { s2 with heap := h3 } (kA.toList ++ [u])) (fun _ _ => False) s1)
    (fin : ∀ (kS : Addr) (s1 : Shared) (ks : List Value), J kS vs.length s1 ks → EachIs (fun v k => ∃ as, Reads s1.heap v k as) ks kz)
    (h : ∀ (kS : Addr) (s1 : Shared) (ks : List Value) (h' : Heap) (tk : Nat) (out : List Value) (c : Nat), kS ≠ s.heap.objs.size + 1 → J kS vs.length s1 ks → (∀ b o, b ≠ s.heap.objs.size + 1 → b ≠ kS → s1.heap.get? b = some o → h'.get? b = some o) → h'.get? (s.heap.objs.size + 1) = some (seqObj "list" out.toArray c) → KeyedOut false kz vs out →
      Q (.ref (s.heap.objs.size + 1)) { s1 with heap := h', toks := tk }) :
    wpAny (model prog w) A (call (.builtin "sorted") [.ref l] [(Str.ofString "key", .ref f)]) Q E s := by
  refine sorted_of_sort hl hZ (ksk_s1 _ _) (fun _ => ksk_l1 _ _) fun E' => ?_
  rw [ksk_t1]
  have ho := copyHeap_at s.heap vs
  have ha : s.heap.objs.size + 1 < (copyHeap s.heap vs).objs.size := Heap.lt_size ho
  obtain ⟨e1, ho1⟩ : ∃ e1, ((copyHeap s.heap vs).update (s.heap.objs.size + 1) (Obj.mapSeq fun _ => (#[] : Array Value))).get? (s.heap.objs.size + 1) = some (seqObj "list" #[] e1) := ⟨_, get?_update_seq ho fun _ => #[]⟩
  have hkS : (((copyHeap s.heap vs).update (s.heap.objs.size + 1) (Obj.mapSeq fun _ => (#[] : Array Value))).push (seqObj "tuple" vs.toArray 0)).objs.size = (copyHeap s.heap vs).objs.size + 1 := by rw [size_push', Heap.size_update]
  unfold ksk_tree
  refine wpAny_bind (listItems_at ho rfl ?_)
  refine wpAny_bind (listUpdate_at ho rfl ?_ (by rw [List.size_toArray]; exact hZ) (Nat.zero_le _))
  refine wpAny_bind (seqEpoch_at ho1 rfl ?_)
  refine wpAny_bind (wpAny_newTuple ?_ (by show vs.length ≤ _; exact hZ))
  refine wpAny_bind (wpAny_newList ?_ (Nat.zero_le _))
  refine wpAny_holding ?_
  have up : ∀ b o, s.heap.get? b = some o → (sortingHeap (copyHeap s.heap vs) (s.heap.objs.size + 1) vs).get? b = some o := fun b o q =>
    sortingHeap_old (Nat.ne_of_lt (Nat.lt_succ_of_lt (Heap.lt_size q))) (copyHeap_old q)
  have hge : s.heap.objs.size ≤ (((copyHeap s.heap vs).update (s.heap.objs.size + 1) (Obj.mapSeq fun _ => (#[] : Array Value))).push (seqObj "tuple" vs.toArray 0)).objs.size := by rw [hkS]; omega
  have hne : (((copyHeap s.heap vs).update (s.heap.objs.size + 1) (Obj.mapSeq fun _ => (#[] : Array Value))).push (seqObj "tuple" vs.toArray 0)).objs.size ≠ s.heap.objs.size + 1 := by rw [hkS]; exact Nat.ne_of_gt (Nat.lt_succ_of_lt ha)
  exact keyJ_rest (A := A.in1.in1) (kz := kz) (s := { s with heap := (((copyHeap s.heap vs).update (s.heap.objs.size + 1) (Obj.mapSeq fun _ => (#[] : Array Value))).push (seqObj "tuple" vs.toArray 0)).push (seqObj "list" #[] 0) })
    (kS := (((copyHeap s.heap vs).update (s.heap.objs.size + 1) (Obj.mapSeq fun _ => (#[] : Array Value))).push (seqObj "tuple" vs.toArray 0)).objs.size) (J _)
    (Heap.get?_push_size _ rfl) (Heap.get?_push_of_some _ (Heap.get?_push_of_some _ ho1)) hne hlen hZ hal hsk hu (j0 _ _ hge up)
    (fun i v s1 kA e => turn _ e1 i v s1 kA e hne) (fun s1 ks => fin _ s1 ks) fun s1 ks h' tk out c hJ k2 n2 ko => ⟨rfl, h _ s1 ks h' tk out c hne hJ k2 n2 ko⟩
end
end PySem.W
namespace NW
open PySem PySem.Spec PyProof.Rows L2
open PySem.W (dataLe AllAlike Sortable EachIs sorted_J keyedOut_each)
def keysOf (m : List PyData → Rp) : List PyData → Option (List PyData)
  | [] => some []
  | x :: xs => match m [x], keysOf m xs with
    | .ok k _, some ks => some (k :: ks)
    | _, _ => none
theorem Vals.snoc {xs : List V} {us : List Value} {x : V} {u : Value} (h : Vals xs us) (r : RelV x u) : Vals (xs ++ [x]) (us ++ [u]) := h.append (.cons r .nil)
theorem RTs.snoc {K : PySem.W.Frag} {B : Addr → Prop} {H : Hp} {v : V} {d : PyData} : ∀ {ds : List PyData} {vs : List V}, RTs K B H vs ds → RT K B H v d → RTs K B H (vs ++ [v]) (ds ++ [d])
  | [], _, h, r => by cases h; exact .cons r .nil
  | x :: xs, _, h, r => by cases h with | cons h1 h2 => exact .cons h1 (RTs.snoc h2 r)
noncomputable def cSortK (m : List PyData → Rp) : List U → Sto → Res (List PyData) := fun us st => match us with
  | [u] => (match listOf st u with
    | some xs => (match keysOf m xs with
      | some ks => if sortOk ks = true then .ok (((xs.zip ks).mergeSort (dataLe false (·.2))).map (·.1)) st else .no
      | none => .no)
    | none => .no)
  | _ => .no
noncomputable def lSortK (m : List PyData → Rp) (a : MA) : ML := fun l st => (a l st).bind (cSortK m)
section
variable {l : Loc} {st : Sto}
@[simp] theorem to_lSortK {m : List PyData → Rp} {a : MA} {Q : List PyData → Sto → Prop} : (lSortK m a l st).To Q ↔ (a l st).To fun us s => ∃ u xs ks, us = [u] ∧ listOf s u = some xs ∧ keysOf m xs = some ks ∧ sortOk ks = true ∧ Q (((xs.zip ks).mergeSort (dataLe false (·.2))).map (·.1)) s := by
  unfold lSortK
  rw [to_bind]
  cases a l st with
  | ok us s =>
    simp only [to_ok]
    unfold cSortK
    constructor
    · intro h
      split at h
      · rename_i u
        split at h
        · rename_i xs e
          split at h
          · rename_i ks e2
            split at h
            · rename_i ok
              exact ⟨u, xs, ks, rfl, e, e2, ok, h⟩
            · exact h.elim
          · exact h.elim
        · exact h.elim
      · exact h.elim
    · rintro ⟨u, xs, ks, rfl, e, e2, ok, z⟩
      simp only [e, e2, ok, if_true]
      exact z
  | _ => exact Iff.rfl
end
end NW
namespace NW
open PySem PySem.Spec PyProof.Rows L2
section
variable {X : Cx} {o e : Expr} {to : TE} {mo : ME} {tA : TA} {mA : MA} {pos : Pos}
end
section
variable {st : Sto} {Q : U → Sto → Prop}
end
end NW
namespace NW
open PySem PySem.Spec PyProof.Rows L2
section
variable {G : Gx}
def eNewD : ME := fun _ st => .ok (.ref st.obs.length) (st.addO (.dct []))
theorem s_newD : SimE G tDNewK eNewD := fun β H σ l st re Q h p hp => by
  obtain ⟨f, rl⟩ := add_ownO (o := .dct []) (h0 := .dK []) re.rl (by intro z; cases z) hp ⟨[], rfl, rfl, .nil⟩
  exact h (.ref p) _ _ f rl ⟨p, by rw [← re.rl.len]; simp, rfl⟩
def sDPutM (o i v : ME) : MS := fun l st => (v l st).out l fun uv st => (o l st).out l fun uo st => (i l st).out l fun ui st => match uv, uo, ui with
  | .d x, .ref k, .d z => (match keyD z, st.obs[k]? with
    | some n, some (.dct es) => if (es.all fun e => !decide (e.1 = n)) = true ∧ es.length ≤ 1000 then .nx l (st.putO k (.dct (es ++ [(n, x)]))) else .no
    | _, _ => .no)
  | _, _, _ => .no
theorem keys_none {kvs : List (Key × V)} {es : List (Key × PyData)} {n : Key} (e : kvs.map (·.1) = es.map (fun e => e.1)) (h : (es.all fun e => !decide (e.1 = n)) = true) : valV kvs n = none := by
  have hk : ∀ kv, kv ∈ kvs → ¬ kv.1 = n := fun kv hkv w => by
    have : kv.1 ∈ es.map (fun e => e.1) := by rw [← e]; exact List.mem_map.mpr ⟨kv, hkv, rfl⟩
    obtain ⟨z, hz, ez⟩ := List.mem_map.mp this
    rw [w] at ez
    have ez' : z.1 = n := ez
    have := List.all_eq_true.mp h z hz
    rw [ez'] at this
    simp at this
  unfold valV
  have : kvs.find? (fun kv => decide (kv.1 = n)) = none := by
    rw [List.find?_eq_none]
    intro kv hkv
    simpa using hk kv hkv
  rw [this]
  rfl
theorem t_dput {to ti tv : TE} {o i v : ME} (ho : SimE G to o) (hi : SimE G ti i) (hv : SimE G tv v) : SimS G (sDPut to ti tv) (sDPutM o i v) := fun β H σ l st re D q =>
  hv β H σ l st re _ (wpS_res re q fun w uv H1 β1 st1 f1 rl1 p1 q1 =>
    ho β1 H1 σ l st1 (f1.re rl1 re) _ (wpS_res (f1.re rl1 re) q1 fun x uo H2 β2 st2 f2 rl2 p2 q2 =>
      hi β2 H2 σ l st2 (f2.re rl2 (f1.re rl1 re)) _ (wpS_res (f2.re rl2 (f1.re rl1 re)) q2 fun y ui H3 β3 st3 f3 rl3 p3 q3 => by
        split at q3
        · rename_i d k z
          split at q3
          · rename_i n es ek he
            split at q3
            · rename_i hc
              obtain ⟨p, hp, rfl⟩ := f3.ru p2
              have ey := key_v (show RT G.K _ _ y z from p3) ek
              subst ey
              obtain ⟨p', kvs, a, b, c, r⟩ := rl3.od k es he
              rw [hp] at a
              cases a
              have rv : RT G.K (Ban G β3 st3) H3 w d := f3.ru (f2.ru p1)
              have nk := keys_none c hc.1
              have hl : kvs.length < sizeLine := by
                have e1 := congrArg List.length c
                rw [List.length_map, List.length_map] at e1
                rw [sizeLine_eq]
                omega
              obtain ⟨f4, rl4⟩ := put_ownO (o' := .dct (es ++ [(n, d)])) (h0 := .dK (kvs ++ [(n, w)])) rl3 he (by intro z; cases z) (by intro z; cases z) hp ⟨_, rfl, by rw [List.map_append, List.map_append, c]; rfl, by
                rw [List.map_append, List.map_append]
                exact RTs.snoc r rv⟩
              refine ⟨p, _, rfl, DPut.k (k := n) (v := w) b hl, ?_⟩
              rw [putK_new w nk]
              exact q3 σ _ β3 f4 (f4.re rl4 (f3.re rl3 (f2.re rl2 (f1.re rl1 re))))
            · exact q3.elim
          · exact q3.elim
        · exact q3.elim)))
end
section
variable {X : Cx} {o i e value : Expr} {to ti tv : TE} {mo mi mv : ME} {pos pos' : Pos}
theorem q_newD : QE X (.Dict [] [] pos) tDNewK eNewD := ⟨pe_dnewK, fun _ _ => s_newD⟩
theorem qs_dput {k : Nat} (hr : Room k X.A) (ho : QE X o to mo) (hi : QE X i ti mi) (hv : QE X value tv mv) (hs : swapsWith value (some (.Subscript o i pos')) pos.line X.env = pure false := by rfl) : QS X (.Assign [.Subscript o i pos'] value pos) (sDPut to ti tv) (sDPutM mo mi mv) :=
  ⟨ps_dput (by have := hr.un; omega) ho.pe hi.pe hv.pe hs, fun G h => t_dput (ho.sim G h) (hi.sim G h) (hv.sim G h)⟩
end
inductive Rdc where
  | ok (es : List (Key × PyData)) | no
section
variable {P : Program} {w : World} {K : PySem.W.Frag} {mg : Str → Option Value} {base : Heap}
end
section
variable {K : PySem.W.Frag} {B : Addr → Prop} {H : Hp} {p : Addr} {kvs : List (Key × V)} {od : Obj}
theorem rd_lock {a : Addr} {xs : List V} (hp : H p = some (.dK kvs)) (h : Rd H a (.tup xs)) : Rd (upd H p (.frz od (.dK kvs))) a (.tup xs) := by
  have ne : a ≠ p := fun e => by
    subst e
    rcases h with h | ⟨o, h⟩ <;> · rw [hp] at h; cases h
  unfold Rd
  rw [upd_ne ne]
  exact h
mutual
theorem RT.lock (hp : H p = some (.dK kvs)) : ∀ (d : PyData) (v : V), RT K B H v d → RT K B (upd H p (.frz od (.dK kvs))) v d
  | .none, _, h => by cases h; exact .non
  | .bool b, _, h => by cases h; exact .bl b
  | .int i, _, h => by cases h; exact .int i
  | .str x, _, h => by cases h; exact .str x
  | .list ds, _, h => by
    cases h with
    | lst hs ha =>
      refine .lst ⟨?_, hs.2⟩ (RTs.lock hp ds _ ha)
      rw [upd_ne (fun e => by subst e; rw [hs.1] at hp; cases hp)]
      exact hs.1
  | .tuple ds, _, h => by
    cases h with
    | tup hs ha => exact .tup (hs.imp (fun z => ⟨rd_lock hp z.1, z.2⟩) id) (RTs.lock hp ds _ ha)
  | .dict _, _, h => by cases h
theorem RTs.lock (hp : H p = some (.dK kvs)) : ∀ (ds : List PyData) (vs : List V), RTs K B H vs ds → RTs K B (upd H p (.frz od (.dK kvs))) vs ds
  | [], _, h => by cases h; exact .nil
  | d :: ds, _, h => by
    cases h with
    | cons h1 h2 => exact .cons (RT.lock hp d _ h1) (RTs.lock hp ds _ h2)
end
end
def fCallDc (k : Nat) (m : List PyData → Rdc) (us : List U) (st : Sto) : Res U := match ctrees st us with
  | some ds => if ds.length = k ∧ us.any isRef = false then (match m ds with
    | .ok es => .ok (.dct es) st
    | .no => .no) else .no
  | none => .no
def eCallDc (k : Nat) (m : List PyData → Rdc) (a : MA) : ME := fun l st => (a l st).bind (fCallDc k m)
section
variable {G : Gx}
def cListDc : List U → Sto → Res (List PyData) := fun us st => match us with
  | [.dct es] => .ok (es.map fun e => kD e.1) st
  | _ => .no
end
section
variable {X : Cx} {e : Expr} {es : List Expr} {pos p : Pos} {tA : TA} {mA : MA}
end
def Rdc.To (r : Rdc) (P : List (Key × PyData) → Prop) : Prop := match r with
  | .ok es => P es
  | .no => False
theorem Rdc.To.mono {r : Rdc} {P Q : List (Key × PyData) → Prop} (h : r.To P) (k : ∀ es, P es → Q es) : r.To Q := by
  cases r with
  | ok es => exact k es h
  | no => exact h
def retDc (P : List (Key × PyData) → Prop) (u : U) (s : Sto) : Prop := match u with
  | .ref i => ∃ es, s.obs[i]? = some (Ob.dct es) ∧ P es
  | _ => False
@[simp] theorem retDc_ref {P : List (Key × PyData) → Prop} {s : Sto} {i : Nat} : retDc P (.ref i) s ↔ ∃ es, s.obs[i]? = some (Ob.dct es) ∧ P es := Iff.rfl
section
variable {st : Sto} {Q : U → Sto → Prop} {N : Loc → Sto → Prop} {R : U → Sto → Prop} {l : Loc}
theorem noRef_d : ∀ ds : List PyData, (ds.map U.d).any isRef = false
  | [] => rfl
  | d :: ds => by rw [List.map_cons, List.any_cons, noRef_d ds]; rfl
theorem fCallDc_d {k : Nat} {m : List PyData → Rdc} {ds : List PyData} (h : ds.length = k) : (fCallDc k m (ds.map U.d) st).To Q ↔ (m ds).To fun es => Q (.dct es) st := by
  unfold fCallDc
  rw [ctrees_d]
  dsimp only
  rw [if_pos ⟨h, noRef_d ds⟩]
  cases m ds with
  | ok es => exact Iff.rfl
  | no => exact Iff.rfl
@[simp] theorem callDc_1 {m : List PyData → Rdc} {x : PyData} : (fCallDc 1 m [.d x] st).To Q ↔ (m [x]).To fun es => Q (.dct es) st := fCallDc_d (ds := [x]) rfl
@[simp] theorem callDc_2 {m : List PyData → Rdc} {x y : PyData} : (fCallDc 2 m [.d x, .d y] st).To Q ↔ (m [x, y]).To fun es => Q (.dct es) st := fCallDc_d (ds := [x, y]) rfl
@[simp] theorem to_eCallDc {k : Nat} {m : List PyData → Rdc} {a : MA} : (eCallDc k m a l st).To Q ↔ (a l st).To fun us s => (fCallDc k m us s).To Q := by unfold eCallDc; simp
@[simp] theorem to_newD : (eNewD l st).To Q ↔ Q (.ref st.obs.length) (st.addO (.dct [])) := Iff.rfl
@[simp] theorem to_listDc {es : List (Key × PyData)} {P : List PyData → Sto → Prop} : (cListDc [.dct es] st).To P ↔ P (es.map fun e => kD e.1) st := Iff.rfl
@[simp] theorem to_sDPut {o i v : ME} : (sDPutM o i v l st).To N R ↔ (v l st).To fun uv st => (o l st).To fun uo st => (i l st).To fun ui st => ∃ (x : PyData) (k : Nat) (z : PyData) (n : Key) (es : List (Key × PyData)), uv = .d x ∧ uo = .ref k ∧ ui = .d z ∧ keyD z = some n ∧ st.obs[k]? = some (.dct es) ∧ ((es.all fun e => !decide (e.1 = n)) = true ∧ es.length ≤ 1000) ∧ N l (st.putO k (.dct (es ++ [(n, x)]))) := by
  unfold sDPutM
  simp only [to_out]
  have key : ∀ (uv uo ui : U) (st : Sto), (match uv, uo, ui with
    | .d x, .ref k, .d z => (match keyD z, st.obs[k]? with
      | some n, some (.dct es) => if (es.all fun e => !decide (e.1 = n)) = true ∧ es.length ≤ 1000 then Out.nx l (st.putO k (.dct (es ++ [(n, x)]))) else .no
      | _, _ => .no)
    | _, _, _ => .no).To N R ↔ ∃ (x : PyData) (k : Nat) (z : PyData) (n : Key) (es : List (Key × PyData)), uv = .d x ∧ uo = .ref k ∧ ui = .d z ∧ keyD z = some n ∧ st.obs[k]? = some (.dct es) ∧ ((es.all fun e => !decide (e.1 = n)) = true ∧ es.length ≤ 1000) ∧ N l (st.putO k (.dct (es ++ [(n, x)]))) := by
    intro uv uo ui st
    constructor
    · intro h
      split at h
      · rename_i x k z
        split at h
        · rename_i n es ek he
          split at h
          · rename_i hc
            exact ⟨x, k, z, n, es, rfl, rfl, rfl, ek, he, hc, h⟩
          · exact h.elim
        · exact h.elim
      · exact h.elim
    · rintro ⟨x, k, z, n, es, rfl, rfl, rfl, ek, he, hc, h⟩
      dsimp only
      rw [ek, he]
      dsimp only
      rw [if_pos hc]
      exact h
  refine ⟨fun h => ?_, fun h => ?_⟩
  · exact h.mono fun uv s h => h.mono fun uo s h => h.mono fun ui s h => (key uv uo ui s).mp h
  · exact h.mono fun uv s h => h.mono fun uo s h => h.mono fun ui s h => (key uv uo ui s).mpr h
end
end NW
namespace NW
open PySem PySem.Spec PyProof.Rows L2
section
variable {G : Gx} {β : List Addr} {H : Hp} {st : Sto}
def mDct (m : ME) : MI := fun l st => (m l st).bind fun u st => match u with
  | .dct es => .ok ⟨es.map fun e => kD e.1, []⟩ st
  | _ => .no
def fEqE : U → U → Sto → Res U := fun a b st => match a, b with
  | .dct es, .ref j => (match st.obs[j]? with
    | some (.dct []) => .ok (.d (.bool es.isEmpty)) st
    | _ => .no)
  | _, _ => .no
end
section
variable {X : Cx} {a b e tg : Expr} {ta tb te : TE} {ma mb me : ME} {pos : Pos}
end
section
variable {st : Sto} {Q : U → Sto → Prop} {l : Loc}
@[simp] theorem to_mDct {m : ME} {R : ItD → Sto → Prop} : (mDct m l st).To R ↔ (m l st).To fun u s => ∃ es, u = .dct es ∧ R ⟨es.map fun e => kD e.1, []⟩ s := by
  unfold mDct
  rw [to_bind]
  refine iff_of_eq (congrArg _ (funext fun u => funext fun s => propext ?_))
  cases u <;> simp
@[simp] theorem to_eqE {es : List (Key × PyData)} {j : Nat} : (fEqE (.dct es) (.ref j) st).To Q ↔ st.obs[j]? = some (.dct []) ∧ Q (.d (.bool es.isEmpty)) st := by
  show (match st.obs[j]? with
    | some (.dct []) => Res.ok (U.d (.bool es.isEmpty)) st
    | _ => .no).To Q ↔ _
  constructor
  · intro h
    split at h
    · rename_i he
      exact ⟨he, h⟩
    · exact h.elim
  · rintro ⟨he, h⟩
    rw [he]
    exact h
end
end NW
namespace NW
open PySem PySem.Spec PyProof.Rows L2
def lZip (a : MA) : ML := fun l st => (a l st).bind fun us st => match us with
  | [u, v] => (match listOf st u, listOf st v with
    | some xs, some ys => .ok (zipD xs ys) st
    | _, _ => .no)
  | _ => .no
section
variable {l : Loc} {st : Sto}
@[simp] theorem to_lZip {a : MA} {P : List PyData → Sto → Prop} : (lZip a l st).To P ↔ (a l st).To fun us s => ∃ u v xs ys, us = [u, v] ∧ listOf s u = some xs ∧ listOf s v = some ys ∧ P (zipD xs ys) s := by
  unfold lZip
  rw [to_bind]
  cases a l st with
  | ok us s =>
    simp only [to_ok]
    constructor
    · intro h
      split at h
      · rename_i u v
        split at h
        · rename_i xs ys e e2
          exact ⟨u, v, xs, ys, rfl, e, e2, h⟩
        · exact h.elim
      · exact h.elim
    · rintro ⟨u, v, xs, ys, rfl, e, e2, z⟩
      simp only [e, e2]
      exact z
  | _ => exact Iff.rfl
end
section
variable {prog : Program} {w : World} {A : Around} {E : Value → Shared → Prop} {s : Shared} {z TI TO i1 i2 l1 l2 d : Addr} {xs ys : Array Value}
structure ZOff (d z TI TO i1 i2 l1 l2 : Addr) : Prop where
  z : z ≠ d
  TI : TI ≠ d
  TO : TO ≠ d
  i1 : i1 ≠ d
  i2 : i2 ≠ d
  l1 : l1 ≠ d
  l2 : l2 ≠ d
end
section
variable {prog : Program} {w : World} {A : Around} {E : Value → Shared → Prop} {s : Shared} {z TI TO i1 i2 l1 l2 d : Addr} {xs ys : Array Value}
end
end NW
namespace NW
open PySem PySem.Spec PyProof.Rows L2 _root_.RT
section
variable {prog : Program} {w : World} {A : Around} {E : Value → Shared → Prop} {s : Shared}
end
def eTupRevT (m : ME) : ME := fun l st => (m l st).bind fun u st => match u with
  | .d (.tuple xs) => if xs.isEmpty = true then .no else .ok (.d (.tuple xs.reverse)) st
  | _ => .no
section
variable {l : Loc} {st : Sto} {Q : U → Sto → Prop}
@[simp] theorem to_eTupRevTV {i : Nat} : (eTupRevT (eVar i) l st).To Q ↔ ∃ xs, l[i]? = some (some (.d (.tuple xs))) ∧ xs ≠ [] ∧ Q (.d (.tuple xs.reverse)) st := by
  have key : (eTupRevT (eVar i) l st).To Q ↔ (eVar i l st).To fun u s => ∃ xs, u = .d (.tuple xs) ∧ xs ≠ [] ∧ Q (.d (.tuple xs.reverse)) s := by
    unfold eTupRevT
    rw [to_bind]
    refine iff_of_eq (congrArg _ (funext fun u => funext fun s => propext ?_))
    cases u with
    | d x =>
      cases x with
      | tuple xs =>
        show (if xs.isEmpty = true then Res.no else Res.ok (U.d (.tuple xs.reverse)) s).To Q ↔ _
        cases xs with
        | nil => simp
        | cons x xs => simp
      | _ => simp
    | _ => simp
  rw [key]
  simp
  constructor
  · rintro ⟨u, h1, xs, rfl, h2, h3⟩
    exact ⟨xs, h1, h2, h3⟩
  · rintro ⟨xs, h1, h2, h3⟩
    exact ⟨_, h1, xs, rfl, h2, h3⟩
end
end NW
namespace NW
open PySem PySem.Spec PyProof.Rows L2
def dctOf (st : Sto) : U → Option (List (Key × PyData))
  | .dct es => some es
  | .ref i => (match st.obs[i]? with
    | some (.dct es) => some es
    | _ => none)
  | _ => none
def fDIn (neg : Bool) : U → U → Sto → Res U := fun a b st => match a, dctOf st b with
  | .d z, some es => (match keyD z with
    | some k => .ok (.d (.bool (if neg then !(es.any fun e => decide (e.1 = k)) else es.any fun e => decide (e.1 = k)))) st
    | none => .no)
  | _, _ => .no
section
variable {X : Cx} {a b : Expr} {ta tb : TE} {ma mb : ME} {pos : Pos}
end
section
variable {G : Gx} {β β' : List Addr} {H H' : Hp} {σ : L2.St} {l : Loc} {st st' : Sto} {i j : Nat} {p : Addr} {es : List (Key × PyData)} {kvs : List (Key × V)} {od : Obj}
theorem own_dead {q : Addr} (h : Own G β (st.putO j .dead) q) : Own G β st q := by
  rcases h with ⟨h1, h2⟩ | ⟨i', o, h1, h2, h3⟩
  · exact .inl ⟨h1, h2⟩
  · by_cases e : i' = j
    · subst e
      unfold Sto.putO at h1
      by_cases hi : i' < st.obs.length
      · simp [hi] at h1
        exact absurd h1.symm h2
      · simp [hi] at h1
    · exact .inr ⟨i', o, by simpa [Sto.putO, List.getElem?_set_ne (Ne.symm e)] using h1, h2, h3⟩
theorem not_own_dead (rl : Rl G β H st) (hp : β[j]? = some p) : ¬ Own G β (st.putO j .dead) p := fun h => by
  rcases h with ⟨h1, h2⟩ | ⟨i', o, h1, h2, h3⟩
  · have h1' : st.fl.isSome = true := h1
    cases e : st.fl with
    | none => rw [e] at h1'; cases h1'
    | some f => exact (rl.flo f e).2 (h2 ▸ List.mem_of_getElem? hp)
  · have e := ix_inj rl.nodup h3 hp
    subst e
    unfold Sto.putO at h1
    by_cases hi : i' < st.obs.length
    · simp [hi] at h1
      exact h2 h1.symm
    · simp [hi] at h1
theorem lock_re (re : Re G β H σ l st) (hl : l[i]? = some (some (.ref j))) (hj : st.obs[j]? = some (.dct es)) : ∃ (p : Addr) (kvs : List (Key × V)), H p = some (.dK kvs) ∧ β[j]? = some p ∧ kvs.map (·.1) = es.map (fun e => e.1) ∧ RTs G.K (Ban G β st) H (kvs.map (·.2)) (es.map (·.2)) ∧
    ∀ od, Fut G β st H β (st.putO j .dead) (upd H p (.frz od (.dK kvs))) ∧ Re G β (upd H p (.frz od (.dK kvs))) σ (l.set i (some (.dct es))) (st.putO j .dead) := by
  have rl := re.rl
  obtain ⟨p, kvs, hp, hH, hk, hr⟩ := rl.od j es hj
  have op : Own G β st p := .inr ⟨j, _, hj, (by intro z; cases z), hp⟩
  refine ⟨p, kvs, hH, hp, hk, hr, fun od => ?_⟩
  have fO : Fut G β st H β (st.putO j .dead) (upd H p (.frz od (.dK kvs))) := by
    refine ⟨⟨[], by simp, by simp⟩, fun b hb => ?_, fun b o' h' n1 => ?_⟩
    · by_cases e : b = p
      · rw [e, upd_same]; simp
      · rw [upd_ne e]; exact hb
    · have e : b ≠ p := fun e => n1 (e ▸ op)
      exact ⟨by rw [upd_ne e]; exact h', fun w => n1 (own_dead w)⟩
  have rl1 : Rl G β (upd H p (.frz od (.dK kvs))) (st.putO j .dead) := by
    refine ⟨by simp [Sto.putO, rl.len], rl.nodup, fun q hq => fO.there q (rl.trk q hq), fun i' zs h' nd => ?_, fun g hg => ?_, fun q hq => rl.o0_fut fO q hq fun w => (rl.o0 q hq).2.1 (own_dead w)⟩
    · by_cases e : i' = j
      · subst e
        have hi := (List.getElem?_eq_some_iff.mp hj).1
        simp [Sto.putO, hi] at h'
        exact absurd h'.symm nd
      · obtain ⟨q, ws, a, b, c⟩ := rl.oo i' zs (by simpa [Sto.putO, List.getElem?_set_ne (Ne.symm e)] using h') nd
        have ne : q ≠ p := fun z => e (ix_inj rl.nodup a (z ▸ hp))
        exact ⟨q, ws, a, by rw [upd_ne ne]; exact b, fO.obr c⟩
    · obtain ⟨⟨a, b⟩, c⟩ := rl.flo g hg
      have ne : G.fa ≠ p := fun z => c (z ▸ List.mem_of_getElem? hp)
      exact ⟨⟨by rw [upd_ne ne]; exact a, b.fut fO⟩, c⟩
  refine ⟨fO, rl1, by rw [List.length_set]; exact re.lo.len, fun i' u e => ?_⟩
  by_cases hi : i' = i
  · subst hi
    have hlt := (List.getElem?_eq_some_iff.mp hl).1
    rw [List.getElem?_set_self hlt] at e
    cases e
    obtain ⟨v, h1, p', h2, rfl⟩ := re.lo.at_ i' _ hl
    rw [hp] at h2
    cases h2
    exact ⟨_, h1, p, od, kvs, rfl, ⟨upd_same, fun w => w.elim (fun w => (rl.o0 p w).2.1 op) (not_own_dead rl hp)⟩, hk, fO.rts hr⟩
  · rw [List.getElem?_set_ne (Ne.symm hi)] at e
    obtain ⟨v, h1, h2⟩ := re.lo.at_ i' u e
    exact ⟨v, h1, fO.ru h2⟩
mutual
theorem RT.unlock {K : PySem.W.Frag} {B B' : Addr → Prop} (hp : H p = some (.frz od (.dK kvs))) (hB : ∀ a, B' a → B a ∨ a = p) : ∀ (d : PyData) (v : V), RT K B H v d → RT K B' (upd H p (.dK kvs)) v d
  | .none, _, h => by cases h; exact .non
  | .bool b, _, h => by cases h; exact .bl b
  | .int i, _, h => by cases h; exact .int i
  | .str x, _, h => by cases h; exact .str x
  | .list ds, _, h => by
    cases h with
    | lst hs ha =>
      have ne : ∀ {a xs}, H a = some (.lst xs) → a ≠ p := fun h1 e => by rw [e, hp] at h1; cases h1
      refine .lst ⟨by rw [upd_ne (ne hs.1)]; exact hs.1, fun w => (hB _ w).elim hs.2 (ne hs.1)⟩ (RTs.unlock hp hB ds _ ha)
  | .tuple ds, _, h => by
    cases h with
    | tup hs ha =>
      refine .tup (hs.imp (fun z => ?_) id) (RTs.unlock hp hB ds _ ha)
      have ne : ∀ {a xs}, Rd H a (.tup xs) → a ≠ p := fun h1 e => by
        rw [e] at h1
        rcases h1 with h1 | ⟨o, h1⟩ <;> · rw [hp] at h1; cases h1
      refine ⟨?_, fun w => (hB _ w).elim z.2 (ne z.1)⟩
      have := ne z.1
      unfold Rd
      rw [upd_ne this]
      exact z.1
  | .dict _, _, h => by cases h
theorem RTs.unlock {K : PySem.W.Frag} {B B' : Addr → Prop} (hp : H p = some (.frz od (.dK kvs))) (hB : ∀ a, B' a → B a ∨ a = p) : ∀ (ds : List PyData) (vs : List V), RTs K B H vs ds → RTs K B' (upd H p (.dK kvs)) vs ds
  | [], _, h => by cases h; exact .nil
  | d :: ds, _, h => by
    cases h with
    | cons h1 h2 => exact .cons (RT.unlock hp hB d _ h1) (RTs.unlock hp hB ds _ h2)
end
theorem unlock_re (rl : Rl G β H st) (hj : st.obs[j]? = some (.dct es)) (hp : β[j]? = some p) (hH : H p = some (.dK kvs)) (hk : kvs.map (·.1) = es.map (fun e => e.1)) (hr : RTs G.K (Ban G β st) H (kvs.map (·.2)) (es.map (·.2)))
    (f : Fut G β (st.putO j .dead) (upd H p (.frz od (.dK kvs))) β' st' H') (rl' : Rl G β' H' st') (hd : st'.obs[j]? = some .dead) :
    H' p = some (.frz od (.dK kvs)) ∧ Fut G β st H β' (st'.putO j (.dct es)) (upd H' p (.dK kvs)) ∧ Rl G β' (upd H' p (.dK kvs)) (st'.putO j (.dct es)) ∧ ∀ v y, RT G.K (Ban G β' st') H' v y → RT G.K (Ban G β' (st'.putO j (.dct es))) (upd H' p (.dK kvs)) v y := by
  have op : Own G β st p := .inr ⟨j, _, hj, (by intro z; cases z), hp⟩
  obtain ⟨hH', no'⟩ := f.stay p _ upd_same (not_own_dead rl hp)
  have hp' := f.get hp
  have hi := (List.getElem?_eq_some_iff.mp hd).1
  have ow : ∀ q, Own G β' (st'.putO j (.dct es)) q → Own G β' st' q ∨ q = p := fun q h => by
    rcases h with ⟨h1, h2⟩ | ⟨i', o, h1, h2, h3⟩
    · exact .inl (.inl ⟨h1, h2⟩)
    · by_cases e : i' = j
      · subst e
        rw [hp'] at h3
        cases h3
        exact .inr rfl
      · exact .inl (.inr ⟨i', o, by simpa [Sto.putO, List.getElem?_set_ne (Ne.symm e)] using h1, h2, h3⟩)
  have ba : ∀ q, Ban G β' (st'.putO j (.dct es)) q → Ban G β' st' q ∨ q = p := fun q h => h.elim (fun h => .inl (.inl h)) fun h => (ow q h).imp .inr id
  have fO : Fut G β st H β' (st'.putO j (.dct es)) (upd H' p (.dK kvs)) := by
    refine ⟨?_, fun b hb => ?_, fun b o h n1 => ?_⟩
    · obtain ⟨γ, e, hγ⟩ := f.ext
      refine ⟨γ, e, fun q hq => ?_⟩
      have := hγ q hq
      by_cases e2 : q = p
      · rw [e2, upd_same] at this; cases this
      · rwa [upd_ne e2] at this
    · by_cases e : b = p
      · rw [e, upd_same]; simp
      · rw [upd_ne e]
        exact f.there b (by rw [upd_ne e]; exact hb)
    · have e : b ≠ p := fun e => n1 (e ▸ op)
      obtain ⟨h1, h2⟩ := f.stay b o (by rw [upd_ne e]; exact h) (fun w => n1 (own_dead w))
      exact ⟨by rw [upd_ne e]; exact h1, fun w => (ow b w).elim h2 e⟩
  refine ⟨hH', fO, ⟨by simp [Sto.putO, rl'.len], rl'.nodup, fun q hq => ?_, fun i' zs h' nd => ?_, fun g hg => ?_, fun q hq => ?_⟩, fun v y h => RT.unlock hH' ba y v h⟩
  · by_cases e : q = p
    · rw [e, upd_same]; simp
    · rw [upd_ne e]; exact rl'.trk q hq
  · by_cases e : i' = j
    · subst e
      simp [Sto.putO, hi] at h'
      subst h'
      exact ⟨p, .dK kvs, hp', upd_same, kvs, rfl, hk, fO.rts hr⟩
    · obtain ⟨q, ws, a, b, c⟩ := rl'.oo i' zs (by simpa [Sto.putO, List.getElem?_set_ne (Ne.symm e)] using h') nd
      have ne : q ≠ p := fun z => e (ix_inj rl'.nodup a (z ▸ hp'))
      exact ⟨q, ws, a, by rw [upd_ne ne]; exact b, c.imp fun ds vs r => RTs.unlock hH' ba ds vs r⟩
  · obtain ⟨⟨a, b⟩, c⟩ := rl'.flo g hg
    have ne : G.fa ≠ p := fun z => c (z ▸ List.mem_of_getElem? hp')
    have nb : G.fb ≠ p := fun z => by rw [← z, b.1] at hH'; cases hH'
    exact ⟨⟨by rw [upd_ne ne]; exact a, ⟨by rw [upd_ne nb]; exact b.1, fun w => (ba _ w).elim b.2 nb⟩⟩, c⟩
  · have ne : q ≠ p := fun z => (rl.o0 q hq).2.1 (z ▸ op)
    obtain ⟨h1, h2, h3⟩ := rl'.o0 q hq
    refine ⟨by rw [upd_ne ne]; exact h1, fun w => (ow q w).elim h2 ne, fun vs w => h3 vs ?_⟩
    unfold Rd at w ⊢
    rwa [upd_ne ne] at w
def eWith (i : Nat) (m : ME) : ME := fun l st => match l[i]? with
  | some (some (.ref j)) => (match st.obs[j]? with
    | some (.dct es) => (match m (l.set i (some (.dct es))) (st.putO j .dead) with
      | .ok (.d y) st' => (match st'.obs[j]? with
        | some .dead => .ok (.d y) (st'.putO j (.dct es))
        | _ => .no)
      | _ => .no)
    | _ => .no)
  | _ => .no
theorem s_with {t : TE} {m : ME} (h : SimE G t m) : SimE G (tLockE t) (eWith i m) := fun β H σ l st re Q q => by
  unfold eWith at q
  split at q
  · rename_i j hl
    split at q
    · rename_i es hj
      obtain ⟨p, kvs, hH, hp, hk, hr, go⟩ := lock_re re hl hj
      refine ⟨p, .dK kvs, hH, trivial, fun od => ?_⟩
      obtain ⟨f, re1⟩ := go od
      refine h β _ σ _ _ re1 _ ?_
      split at q
      · rename_i y st' e
        rw [e]
        split at q
        · rename_i hd
          intro v H' β' f' rl' p1
          obtain ⟨h1, h2, h3, h4⟩ := unlock_re re.rl hj hp hH hk hr f' rl' hd
          exact ⟨h1, q v _ β' h2 h3 (h4 v y p1)⟩
        · exact q.elim
      · exact q.elim
    · exact q.elim
  · exact q.elim
end
def isArg : U → Bool
  | .d _ => true
  | .dct _ => true
  | _ => false
def pureU (n : Nat) (b : MS) (us : List U) : Rp := outP (b (startL n us) ⟨none, []⟩)
def GU (K : PySem.W.Frag) (O0 : Addr → Prop) : Gx := ⟨K, 0, 0, O0, fun _ => none, fun _ _ _ _ => False⟩
def spU (K : PySem.W.Frag) (k : Nat) (m : List U → Rp) : Sp := fun vs H Q _ => ∃ (O0 : Addr → Prop) (us : List U) (d : PyData) (fr : Bool), NoTup H O0 ∧ Paired (fun v u => RU (GU K O0) [] O0 H v u) vs us ∧ us.all isArg = true ∧ us.length = k ∧ m us = .ok d fr ∧
  ∀ v H', (∀ b o, H b = some o → H' b = some o) → RT K O0 H' v d → (fr = true → Fresh K O0 H H' v d) → Q v H'
theorem Paired.getR {α β : Type} {R : α → β → Prop} : ∀ {xs : List α} {ys : List β} {i : Nat} {y : β}, Paired R xs ys → ys[i]? = some y → ∃ x, xs[i]? = some x ∧ R x y
  | _, _, i, y, .nil, e => by simp at e
  | _, _, 0, y, .cons (a := a) h1 h2, e => by simp at e; subst e; exact ⟨_, rfl, h1⟩
  | _, _, i + 1, y, .cons h1 h2, e => by
    obtain ⟨x, a, b⟩ := Paired.getR (i := i) h2 (by simpa using e)
    exact ⟨x, by simpa using a, b⟩
theorem Paired.lenR {α β : Type} {R : α → β → Prop} : ∀ {xs : List α} {ys : List β}, Paired R xs ys → xs.length = ys.length
  | _, _, .nil => rfl
  | _, _, .cons h1 h2 => by rw [List.length_cons, List.length_cons, Paired.lenR h2]
theorem ru_arg {G G' : Gx} {β β' : List Addr} {B B' : Addr → Prop} {H : Hp} {v : V} {u : U} (hK : G.K = G'.K) (ha : isArg u = true) (k : ∀ a, B' a → B a) (h : RU G β B H v u) : RU G' β' B' H v u := by
  cases u with
  | d x =>
    show RT G'.K B' H v x
    rw [← hK]
    exact RT.weak k x v h
  | dct es =>
    obtain ⟨p, o, kvs, h1, h2, h3, h4⟩ := h
    exact ⟨p, o, kvs, h1, ⟨h2.1, fun w => h2.2 (k _ w)⟩, h3, by rw [← hK]; exact RTs.weak k _ _ h4⟩
  | _ => cases ha
section
variable {P : Program} {w : World} {K : PySem.W.Frag} {mg : Str → Option Value} {base : Heap}
theorem okU {x qual : Str} {st : Stmt} {f : Addr} {fd : FuncData} {N ps : List Str} {k : Nat} {b : MS} (F : Fun K x qual st f fd) (S : FnScope N ps (defScope st)) (hN : ps.length ≤ N.length)
    (hb : ∀ (cdv : Value) (A : Around) (outer : List Env) (s : Shared) (H : Hp) (E : XK), Room k (A.deeper (envOfC qual (defScope st) s.heap.objs.size f cdv)) →
      ∃ t, PSs (cxOf CX0 P w K mg base N qual (defScope st) f cdv A outer s H E).nox (defBody st) t ∧ ∀ G : Gx, G.K = K → SimS G t b) :
    FnOk P w K mg base CX0 (k + 1) f fd ps (spU K ps.length (pureU N.length b)) := by
  refine F.ok S (fun vs H Q E h => ?_) (fun cdv A outer s H vs Q E hr h => ?_)
  · obtain ⟨O0, us, d, fr, _, r, _, hl, _⟩ := h
    rw [Paired.lenR r, hl]
  · obtain ⟨O0, us, d, fr, hO, r, ha, hl, e, q⟩ := h
    obtain ⟨t, ht, hs⟩ := hb cdv A outer s H E hr
    refine ⟨t, ht, ?_⟩
    have own0 : ∀ b, ¬ Own (GU K O0) [] ⟨none, []⟩ b := fun b h => by
      rcases h with ⟨h, _⟩ | ⟨i, xs, h, _⟩
      · cases h
      · simp at h
    have re : Re (GU K O0) [] H (L2.start N vs) (startL N.length us) ⟨none, []⟩ := by
      refine ⟨⟨rfl, .nil, fun p hp => by simp at hp, fun i xs h => by simp at h, fun f h => (by cases h), fun p hp => ⟨(hO p hp).1, own0 p, (hO p hp).2⟩⟩, ⟨start_len N (Paired.lenR r) (by omega), fun i u e => ?_⟩⟩
      have e1 := start_get N (vs := vs) e
      obtain ⟨v, h1, h2⟩ := Paired.getR r e1
      have au : isArg u = true := List.all_eq_true.mp ha u (List.mem_of_getElem? e1)
      exact ⟨v, start_getV N h1, ru_arg rfl au (fun a h => h.elim id fun z => (own0 a z).elim) h2⟩
    exact hs (GU K O0) rfl [] H _ _ _ re _ (rp_end (K := K) rfl e q)
theorem calU {N ps : List Str} {x : Str} {st : Stmt} {k : Nat} {b : MS} (D : DefIn K mg x st ps) (S : FnScope N ps (defScope st)) (hN : ps.length ≤ N.length)
    (hb : ∀ (f : Addr) (cdv : Value) (A : Around) (outer : List Env) (s : Shared) (H : Hp) (E : XK), Room k (A.deeper (envOfC x (defScope st) s.heap.objs.size f cdv)) →
      ∃ t, QSs (cxOf CX0 P w K mg base N x (defScope st) f cdv A outer s H E).nox (defBody st) t b) : Cal P w K mg base (k + 1) x ps (spU K ps.length (pureU N.length b)) := by
  obtain ⟨f, fd, F, hm, hb'⟩ := D.ex
  refine ⟨f, fd, okU F S hN (fun cdv A outer s H E hr => ?_), hm, F.kp, hb'⟩
  obtain ⟨t, h⟩ := hb f cdv A outer s H E hr
  exact ⟨t, h.pss, fun G hG => h.sim G hG⟩
end
def fCallU (k : Nat) (m : List U → Rp) (us : List U) (st : Sto) : Res U := if us.all isArg = true ∧ us.length = k then (match m us with
  | .ok d _ => .ok (.d d) st
  | _ => .no) else .no
def eCallU (k : Nat) (m : List U → Rp) (a : MA) : ME := fun l st => (a l st).bind (fCallU k m)
theorem paired_arg {G G' : Gx} {β β' : List Addr} {B : Addr → Prop} {H : Hp} (hK : G.K = G'.K) : ∀ {vs : List V} {us : List U}, Paired (fun v u => RU G β B H v u) vs us → us.all isArg = true → Paired (fun v u => RU G' β' B H v u) vs us
  | _, _, .nil, _ => .nil
  | _, _, .cons h1 h2, e => by
    rw [List.all_cons, Bool.and_eq_true] at e
    exact .cons (ru_arg hK e.1 (fun a h => h) h1) (paired_arg hK h2 e.2)
theorem s_callU {G : Gx} {k : Nat} {m : List U → Rp} {ta : TA} {a : MA} {E : XK} (ha : SimA G ta a) : SimE G (tCall (spU G.K k m) [] E ta) (eCallU k m a) := fun β H σ l st re Q h => by
  refine ha β H σ l st re _ (wpR_bind h fun vs us H1 β1 st1 f1 rl1 p1 h1 => ?_)
  show spU G.K k m (vs ++ []) H1 Q E
  rw [List.append_nil]
  unfold fCallU at h1
  split at h1
  · rename_i hc
    split at h1
    · rename_i d fr e2
      have p1' : Paired (fun v u => RU G β1 (Ban G β1 st1) H1 v u) vs us := p1
      refine ⟨Ban G β1 st1, us, d, fr, rl1.noTupB, paired_arg (G := G) (G' := GU G.K (Ban G β1 st1)) rfl p1' hc.1, hc.1, hc.2, e2, fun v H' kk rt _ => ?_⟩
      obtain ⟨f2, rl2⟩ := rl1.grown kk
      exact h1 v H' β1 f2 rl2 rt
    · exact h1.elim
  · exact h1.elim
section
variable {X : Cx} {e : Expr} {es : List Expr} {pos p : Pos} {tA : TA} {mA : MA} {t : TE} {m : ME} {s : Stmt} {ts : TS} {ms : MS}
theorem q_with (i : Nat) (h : QE X e t m) : QE X e (tLockE t) (eWith i m) := ⟨pe_lock h.pe, fun G hG => s_with (h.sim G hG)⟩
theorem q_calU {k j n : Nat} {ps : List Str} {m : List U → Rp} {x : Str} (C : Cal X.prog X.w X.K X.mg X.base k x ps (spU X.K n m)) (hr : Room j X.A) (hkj : k ≤ j) (ha : QA X (e :: es) tA mA) (hg : Gl X x := by rfl) (hdb : (x == ("__debug__" : Str)) = false := by decide)
    (he : starEach (e :: es) X.env = (false, eval e X.env) :: starEach es X.env := by rfl) (hpl : (backTo pos (starEach es X.env)).any (·.1) = false := by rfl) :
    QE X (.Call (.Name x p) (e :: es) [] pos) (tCall (spU X.K n m) [] E0 tA) (eCallU n m mA) := by
  obtain ⟨f, fd, F, hm, hk, hb⟩ := C.ex
  exact ⟨pe_call F (hr.mono hkj) hg hm hk hb .nil pass0 ha.pa hdb he hpl, fun G hG => hG ▸ s_callU (ha.sim G hG)⟩
end
section
variable {G : Gx}
end
section
variable {X : Cx} {o e e2 : Expr} {to : TE} {mo : ME} {tA : TA} {mA : MA} {pos : Pos}
end
section
variable {st : Sto} {Q : U → Sto → Prop} {N : Loc → Sto → Prop} {R : U → Sto → Prop} {l : Loc}
@[simp] theorem to_dinD {neg : Bool} {es : List (Key × PyData)} {k : Int} : (fDIn neg (.d (.int k)) (.dct es) st).To Q ↔ Q (.d (.bool (if neg then !(es.any fun e => decide (e.1 = .inl k)) else es.any fun e => decide (e.1 = .inl k)))) st := Iff.rfl
@[simp] theorem to_dinDS {neg : Bool} {es : List (Key × PyData)} {k : Str} : (fDIn neg (.d (.str k)) (.dct es) st).To Q ↔ Q (.d (.bool (if neg then !(es.any fun e => decide (e.1 = .inr k)) else es.any fun e => decide (e.1 = .inr k)))) st := Iff.rfl
theorem to_with {i j : Nat} {es : List (Key × PyData)} {m : ME} (h1 : l[i]? = some (some (.ref j))) (h2 : st.obs[j]? = some (.dct es)) (h : (m (l.set i (some (.dct es))) (st.putO j .dead)).To fun u s => ∃ y, u = .d y ∧ s.obs[j]? = some .dead ∧ Q (.d y) (s.putO j (.dct es))) : (eWith i m l st).To Q := by
  unfold eWith
  rw [h1]
  dsimp only
  rw [h2]
  dsimp only
  cases e : m (l.set i (some (.dct es))) (st.putO j .dead) with
  | ok u s =>
    rw [e] at h
    obtain ⟨y, rfl, a, b⟩ := (show ∃ y, u = .d y ∧ s.obs[j]? = some .dead ∧ Q (.d y) (s.putO j (.dct es)) from h)
    dsimp only
    rw [a]
    exact b
  | ex _ _ => rw [e] at h; exact h.elim
  | no => rw [e] at h; exact h.elim
@[simp] theorem to_eCallU {k : Nat} {m : List U → Rp} {a : MA} : (eCallU k m a l st).To Q ↔ (a l st).To fun us s => (fCallU k m us s).To Q := by unfold eCallU; simp
theorem callU_to {k : Nat} {m : List U → Rp} {us : List U} (h1 : us.all isArg = true) (h2 : us.length = k) (h : (m us).To fun d => Q (.d d) st) : (fCallU k m us st).To Q := by
  unfold fCallU
  rw [if_pos ⟨h1, h2⟩]
  cases e : m us with
  | ok d fr => rw [e] at h; exact h
  | ex _ => rw [e] at h; exact h.elim
  | no => rw [e] at h; exact h.elim
end
end NW
namespace NW
open PySem PySem.Spec PyProof.Rows L2
def repS (x : Str) (n : Int) : Str := if n < 1 then Str.empty else if (n == 1 || x.length == 0) = true then x else ⟨(List.replicate n.toNat x.cps).foldl (· ++ ·) #[]⟩
def repOk (a : Str) (k : Int) : Bool := decide (-(2 ^ 62) ≤ k ∧ k ≤ 1000 ∧ a.length ≤ 1000 ∧ (repS a k).length ≤ sizeLine ∧ Builtin.Str.tooLong (a.length * k.toNat) = false)
def rRepStr : R2 := fun x y H Q => ∃ a k, x = .str a ∧ y = .int k ∧ repOk a k = true ∧ Q (.str (repS a k)) H
theorem op_repStr {X : Cx} : OpR X (binaryOp .Mult) rRepStr := by
  intro pins s σ H x y v u Q I rx ry h
  obtain ⟨a, k, rfl, rfl, hk, q⟩ := h
  obtain ⟨h1, h2, h3, h4, h5⟩ := of_decide_eq_true hk
  obtain ⟨t, rfl⟩ := rx
  obtain ⟨t', rfl⟩ := ry
  refine P.mul_str ?_ (fun h6 _ => ?_) (fun _ _ => h5) ?_
  · rw [decide_eq_false (by omega), decide_eq_false (by omega)]; rfl
  · have : (a.length : Int) ≤ (2 ^ 63 - 1) / k := by
      rw [Int.le_ediv_iff_mul_le (by omega)]
      have h7 : (a.length : Int) * k ≤ 1000 * 1000 := Int.mul_le_mul (by omega) h2 (by omega) (by omega)
      omega
    omega
  · unfold repS at q h4
    by_cases c : k < 1
    · rw [if_pos c] at q h4 ⊢
      exact ⟨h4, .str _, H, I.tok _, ⟨_, rfl⟩, q⟩
    · rw [if_neg c] at q h4 ⊢
      by_cases c2 : (k == 1 || a.length == 0) = true
      · rw [if_pos c2] at q h4 ⊢
        exact ⟨.str _, H, I, ⟨t, rfl⟩, q⟩
      · rw [if_neg c2] at q h4 ⊢
        exact ⟨h4, .str _, H, I.tok _, ⟨_, rfl⟩, q⟩
def rMulS (K : PySem.W.Frag) : R2 := fun x y H Q => rMulA K x y H Q ∨ rRepStr x y H Q
theorem op_mulS {X : Cx} : OpR X (binaryOp .Mult) (rMulS X.K) := op_mulA.or op_repStr
def fMulS : U → U → Sto → Res U := fun a b st => match a, b with
  | .d (.str x), .d (.int k) => if repOk x k = true then .ok (.d (.str (repS x k))) st else .no
  | a, b => fMulA a b st
theorem r_mulS {G : Gx} : SimR G (rMulS G.K) fMulS := fun β H σ l st re x y a b Q hx hy h => by
  unfold fMulS at h
  split at h
  · rename_i z k
    cases ru_str hx; cases ru_int hy
    split at h
    · rename_i q
      exact .inr ⟨z, k, rfl, rfl, q, wpR_d re.rl (.str _) h⟩
    · exact h.elim
  · exact .inl (r_mulA β H σ l st re x y a b Q hx hy h)
def SimTx (G : Gx) (r : V → List V → Hp → VK → Prop) (f : U → U → Sto → Res U) : Prop := ∀ β H σ l st, Re G β H σ l st → ∀ x y a b Q, RU G β (Ban G β st) H x a → RU G β (Ban G β st) H y b → wpR G β H σ st (PU G) (f a b st) Q → (∃ z, x = .str z) ∧ r x [y] H Q
def isStr : U → Bool
  | .d (.str _) => true
  | _ => false
def eMeth1 (f : U → U → Sto → Res U) (o a : ME) : ME := fun l st => (o l st).bind fun u st => if isStr u = true then (a l st).bind fun w st => f u w st else .no
theorem s_meth1 {G : Gx} {r : V → List V → Hp → VK → Prop} {f : U → U → Sto → Res U} {to te : TE} {o a : ME} (hr : SimTx G r f) (ho : SimE G to o) (ha : SimE G te a) : SimE G (tM1 r to te) (eMeth1 f o a) := fun β H σ l st re Q h => by
  refine ho β H σ l st re _ (wpR_bind h fun v u H1 β1 st1 f1 rl1 p1 h1 => ?_)
  split at h1
  · rename_i hu
    have re1 := f1.re rl1 re
    have hs : ∃ z, v = .str z := by
      unfold isStr at hu
      split at hu
      · exact ⟨_, ru_str p1⟩
      · cases hu
    refine ⟨hs, ha β1 H1 σ l st1 re1 _ (wpR_bind h1 fun w u2 H2 β2 st2 f2 rl2 p2 h2 => ?_)⟩
    exact (hr β2 H2 σ l st2 (f2.re rl2 re1) v w u u2 Q (f2.ru p1) p2 h2).2
  · exact h1.elim
def strsOf : List PyData → Option (List Str)
  | [] => some []
  | .str x :: r => (strsOf r).map (x :: ·)
  | _ => none
theorem strs_v {K : PySem.W.Frag} {B : Addr → Prop} {H : Hp} : ∀ {xs : List PyData} {vs : List V} {ys : List Str}, RTs K B H vs xs → strsOf xs = some ys → vs = ys.map V.str
  | [], _, _, h, e => by cases h; cases e; rfl
  | x :: xs, _, ys, h, e => by
    cases h with
    | cons h1 h2 =>
      unfold strsOf at e
      split at e
      · rename_i heq; cases heq
      · rename_i y r heq
        cases heq
        cases e2 : strsOf xs with
        | none => rw [e2] at e; cases e
        | some zs =>
          rw [e2] at e
          cases e
          cases h1
          rw [strs_v h2 e2]
          rfl
      · cases e
def joinOk (a : Str) (ys : List Str) : Bool := decide ((ys.map (·.length)).sum + ys.length * a.length ≤ 16777216)
def fJoin : U → U → Sto → Res U := fun a b st => match a, (seqOf st b).bind strsOf with
  | .d (.str x), some ys => if joinOk x ys = true then .ok (.d (.str (Txt.join x ys))) st else .no
  | _, _ => .no
def rJoin (K : PySem.W.Frag) : V → List V → Hp → VK → Prop := fun x xs H Q => ∃ a p, ∃ ys : List Str, x = .str a ∧ xs = [.ref p] ∧ (SqL K H p (ys.map V.str) ∨ SqT K H p (ys.map V.str)) ∧
      (ys.map (·.length)).sum + ys.length * a.length ≤ 16777216 ∧ Q (.str (Txt.join a ys)) H
theorem r_join {G : Gx} : SimTx G (rJoin G.K) fJoin := fun β H σ l st re x y a b Q hx hy h => by
  unfold fJoin at h
  split at h
  · rename_i z ys e
    cases ru_str hx
    split at h
    · rename_i q
      cases e1 : seqOf st b with
      | none => rw [e1] at e; cases e
      | some xs =>
        rw [e1] at e
        obtain ⟨p, vs, rfl, s, r⟩ := seq_q re.rl hy e1
        have ev := strs_v r e
        subst ev
        exact ⟨⟨z, rfl⟩, z, p, ys, rfl, rfl, s, of_decide_eq_true q, wpR_d re.rl (.str _) h⟩
    · exact h.elim
  · exact h.elim
section
variable {X : Cx} {o e a b : Expr} {to te ta tb : TE} {mo me ma mb : ME} {apos pos : Pos}
theorem q_mulS (ha : QE X a ta ma) (hb : QE X b tb mb) : QE X (.BinOp a .Mult b pos) (tOp (rMulS X.K) ta tb) (eOp fMulS ma mb) := ⟨pe_op op_mulS ha.pe hb.pe, fun G h => h ▸ s_op r_mulS (ha.sim G h) (hb.sim G h)⟩
theorem q_join (ho : QE X o to mo) (he : QE X e te me) (hs : starEach [e] X.env = [(false, eval e X.env)] := by rfl) (hbase : attributeBase o "join" X.env (eval o X.env) = eval o X.env := by rfl) (hline : (apos.endLine == pos.line) = true := by rfl) :
    QE X (.Call (.Attribute o "join" apos) [e] [] pos) (tM1 (rJoin X.K) to te) (eMeth1 fJoin mo me) := ⟨pe_join ho.pe he.pe hs hbase hline, fun G h => h ▸ s_meth1 r_join (ho.sim G h) (he.sim G h)⟩
end
section
variable {X : Cx} {a b : Expr} {ta tb : TE} {ma mb : ME} {pos : Pos}
end
section
variable {P : Program} {w : World} {K : PySem.W.Frag} {mg : Str → Option Value} {base : Heap} {N ps : List Str} {x : Str} {st : Stmt} {k n : Nat}
theorem calU0 (D : DefIn K mg x st ps) (S : FnScope N ps (defScope st)) : Cal P w K mg base k x ps (spU K n fun _ => .no) := by
  obtain ⟨f, fd, F, hm, hb'⟩ := D.ex
  refine ⟨f, fd, ⟨fun vs H Q E h => ?_, fun A outer s H args us vs Q E hr he hb hv h => ?_⟩, hm, F.kp, hb'⟩
  · obtain ⟨O0, us, d, fr, _, _, _, _, e, _⟩ := h; cases e
  · obtain ⟨O0, us, d, fr, _, _, _, _, e, _⟩ := h; cases e
end
section
variable {st : Sto} {Q : U → Sto → Prop} {l : Loc}
@[simp] theorem to_mulS_int {i j : Int} : (fMulS (.d (.int i)) (.d (.int j)) st).To Q ↔ (fMulA (.d (.int i)) (.d (.int j)) st).To Q := Iff.rfl
@[simp] theorem to_mulS_str {x : Str} {k : Int} : (fMulS (.d (.str x)) (.d (.int k)) st).To Q ↔ repOk x k = true ∧ Q (.d (.str (repS x k))) st := by
  show (if repOk x k = true then Res.ok (U.d (.str (repS x k))) st else .no).To Q ↔ _
  by_cases h : repOk x k = true <;> simp [h]
@[simp] theorem to_eMeth1 {f : U → U → Sto → Res U} {o a : ME} : (eMeth1 f o a l st).To Q ↔ (o l st).To fun u s => isStr u = true ∧ (a l s).To fun w s => (f u w s).To Q := by
  unfold eMeth1
  rw [to_bind]
  refine iff_of_eq (congrArg _ (funext fun u => funext fun s => propext ?_))
  by_cases h : isStr u = true <;> simp [h]
@[simp] theorem isStr_str {x : Str} : isStr (.d (.str x)) = true := rfl
@[simp] theorem to_joinL {x : Str} {xs : List PyData} : (fJoin (.d (.str x)) (.d (.list xs)) st).To Q ↔ ∃ ys, strsOf xs = some ys ∧ joinOk x ys = true ∧ Q (.d (.str (Txt.join x ys))) st := by
  have e : seqOf st (U.d (.list xs)) = some xs := rfl
  unfold fJoin
  rw [e, Option.bind_some]
  cases strsOf xs with
  | none => simp
  | some ys => by_cases h : joinOk x ys = true <;> simp [h]
end
end NW
namespace NW
open PySem PySem.Spec PyProof.Rows L2 LiI
section
variable {G : Gx} {β : List Addr} {H H' : Hp} {st : Sto}
def cMax3 : List U → Sto → Res U := fun us st => match us with
  | [.d (.int i), .d (.int j), .d (.int k)] => .ok (.d (.int (max (max i j) k))) st
  | _ => .no
theorem rd_ban {K : PySem.W.Frag} {B : Addr → Prop} {p a : Addr} {kvs : List (Key × V)} {xs : List V} (hp : H p = some (.dK kvs)) (h : Rd H a (.tup xs)) : a ≠ p := fun e => by
  subst e
  rcases h with h | ⟨o, h⟩ <;> · rw [hp] at h; cases h
section
variable {K : PySem.W.Frag} {B : Addr → Prop} {p : Addr} {kvs : List (Key × V)}
mutual
theorem RT.banD (hp : H p = some (.dK kvs)) : ∀ (d : PyData) (v : V), RT K B H v d → RT K (fun q => B q ∨ q = p) H v d
  | .none, _, h => by cases h; exact .non
  | .bool b, _, h => by cases h; exact .bl b
  | .int i, _, h => by cases h; exact .int i
  | .str x, _, h => by cases h; exact .str x
  | .list ds, _, h => by
    cases h with
    | lst hs ha => exact .lst ⟨hs.1, fun w => w.elim hs.2 fun e => by rw [e] at hs; rw [hs.1] at hp; cases hp⟩ (RTs.banD hp ds _ ha)
  | .tuple ds, _, h => by
    cases h with
    | tup hs ha => exact .tup (hs.imp (fun z => ⟨z.1, fun w => w.elim z.2 fun e => rd_ban (K := K) (B := B) hp z.1 e⟩) id) (RTs.banD hp ds _ ha)
  | .dict _, _, h => by cases h
theorem RTs.banD (hp : H p = some (.dK kvs)) : ∀ (ds : List PyData) (vs : List V), RTs K B H vs ds → RTs K (fun q => B q ∨ q = p) H vs ds
  | [], _, h => by cases h; exact .nil
  | d :: ds, _, h => by
    cases h with
    | cons h1 h2 => exact .cons (RT.banD hp d _ h1) (RTs.banD hp ds _ h2)
end
end
def fCallDcO (k : Nat) (m : List PyData → Rdc) (us : List U) (st : Sto) : Res U := match ctrees st us with
  | some ds => if ds.length = k ∧ us.any isRef = false then (match m ds with
    | .ok es => .ok (.ref st.obs.length) (st.addO (.dct es))
    | .no => .no) else .no
  | none => .no
def eCallDcO (k : Nat) (m : List PyData → Rdc) (a : MA) : ME := fun l st => (a l st).bind (fCallDcO k m)
end
section
variable {X : Cx} {a b c e : Expr} {es : List Expr} {pos p : Pos} {ta tb te : TE} {ma mb me : ME} {tA : TA} {mA : MA}
end
section
variable {st : Sto} {Q : U → Sto → Prop} {l : Loc}
@[simp] theorem to_max3 {i j k : Int} : (cMax3 [.d (.int i), .d (.int j), .d (.int k)] st).To Q ↔ Q (.d (.int (max (max i j) k))) st := Iff.rfl
@[simp] theorem to_eCallDcO {k : Nat} {m : List PyData → Rdc} {a : MA} : (eCallDcO k m a l st).To Q ↔ (a l st).To fun us s => (fCallDcO k m us s).To Q := by unfold eCallDcO; simp
end
end NW
namespace NW
open PySem PySem.Spec PyProof.Rows L2
section
variable {K K' : PySem.W.Frag} (m : More K K')
include m
theorem More.own {name : Str} {c : Value} {r : Option Value} (e : PySem.W.ownIn K name c = some r) : PySem.W.ownIn K' name c = some r := by
  unfold PySem.W.ownIn at e ⊢
  cases c with
  | ref a =>
    cases q : List.lookup a K with
    | none => simp [q] at e
    | some o =>
      simp only [q] at e
      simp only [m a o q]
      split at e
      · exact m.ns e
      · cases e
  | _ => exact e
theorem More.along {name : Str} : ∀ {l : List Value} {r : Option Value}, PySem.W.alongIn K name l = some r → PySem.W.alongIn K' name l = some r
  | [], _, e => e
  | c :: l, r, e => by
    unfold PySem.W.alongIn at e ⊢
    split at e
    · rename_i v q; rw [m.own q]; exact e
    · rename_i q; rw [m.own q]; exact More.along e
    · cases e
theorem More.find {t : Value} {name : Str} {r : Option Value} (e : PySem.W.findIn K t name = some r) : PySem.W.findIn K' t name = some r := by
  unfold PySem.W.findIn at e ⊢
  cases t with
  | ref a =>
    cases q : List.lookup a K with
    | none => simp [q] at e
    | some o =>
      simp only [q] at e
      simp only [m a o q]
      split at e
      · exact m.along e
      · cases e
  | _ => exact e
theorem More.typ {v t : Value} (e : PySem.W.typeIn K v = some t) : PySem.W.typeIn K' v = some t := by
  unfold PySem.W.typeIn at e ⊢
  cases v with
  | ref a =>
    obtain ⟨o, ho, h⟩ := Option.map_eq_some_iff.mp e
    show (List.lookup a K').map _ = _
    rw [m a o ho]
    exact congrArg some h
  | _ => exact e
theorem More.special {v : Value} {name : Str} {r : Option Value} (e : PySem.W.specialIn K v name = some r) : PySem.W.specialIn K' v name = some r := by
  unfold PySem.W.specialIn at e ⊢
  obtain ⟨t, a, b⟩ := Option.bind_eq_some_iff.mp e
  rw [m.typ a]
  exact m.find b
theorem More.cls {C : Addr} {cd : ClassData} (e : PySem.W.clsIn K C = some cd) : PySem.W.clsIn K' C = some cd := by
  unfold PySem.W.clsIn at e ⊢
  cases q : List.lookup C K with
  | none => simp [q] at e
  | some o => simp only [q] at e; simp only [m C o q]; exact e
theorem More.mro {C : Addr} {b : Value} {r : Bool} (e : PySem.W.mroIn K C b = some r) : PySem.W.mroIn K' C b = some r := by
  unfold PySem.W.mroIn at e ⊢
  obtain ⟨cd, a, h⟩ := Option.bind_eq_some_iff.mp e
  rw [m.cls a]
  exact h
theorem More.sub {t b : Value} {r : Bool} (e : PySem.W.subIn K t b = some r) : PySem.W.subIn K' t b = some r := by
  unfold PySem.W.subIn at e ⊢
  cases t with
  | ref C => exact m.mro e
  | _ => exact e
theorem More.dict {C : Addr} (e : PySem.W.hasDictIn K C = true) : PySem.W.hasDictIn K' C = true := by
  unfold PySem.W.hasDictIn at e ⊢
  obtain ⟨cd, a, h⟩ := PySem.W.any_some e
  rw [m.cls a]
  exact h
theorem More.keep {v : Value} (e : PySem.W.keepIn K v = true) : PySem.W.keepIn K' v = true := by
  unfold PySem.W.keepIn at e ⊢
  cases v with
  | ref a =>
    cases q : List.lookup a K with
    | none => simp [q] at e
    | some o =>
      simp only [q] at e
      simp only [m a o q]
      split at e
      · rfl
      · have h := eq_of_beq e
        simp only [m.special h]
        exact beq_self_eq_true _
      · cases e
  | _ => exact e
end
def clsOf (mg : Str → Option Value) : Str → Option Addr := fun x => match mg x with
  | some (.ref a) => some a
  | _ => none
theorem clsOf_of {mg : Str → Option Value} {x : Str} {C : Addr} (h : mg x = some (.ref C)) : clsOf mg x = some C := by unfold clsOf; rw [h]
def ExK (K : PySem.W.Frag) (cls : Str → Option Addr) (B : Addr → Prop) (H : Hp) (e : Exc) (cv : Value) (dx : Option Addr) : Prop :=
  ∃ C, cls e.cls = some C ∧ cv = .ref C ∧ (match e.fs with
    | [] => dx = none
    | fs => ∃ d vs, dx = some d ∧ H d = some (.xd vs) ∧ ¬ B d ∧ vs.map (·.1) = fs.map (·.1) ∧ RTs K B H (vs.map (·.2)) (fs.map (·.2)))
theorem ExK.weak {K : PySem.W.Frag} {cls : Str → Option Addr} {B B' : Addr → Prop} {H : Hp} {e : Exc} {cv : Value} {dx : Option Addr} (k : ∀ a, B' a → B a) (h : ExK K cls B H e cv dx) : ExK K cls B' H e cv dx := by
  obtain ⟨C, h1, h2, h3⟩ := h
  refine ⟨C, h1, h2, ?_⟩
  split at h3
  · exact h3
  · obtain ⟨d, vs, e1, e2, e3, e4, e5⟩ := h3
    exact ⟨d, vs, e1, e2, fun w => e3 (k _ w), e4, RTs.weak k _ _ e5⟩
structure CalX (P : Program) (w : World) (K : PySem.W.Frag) (mg : Str → Option Value) (base : Heap) (k : Nat) (x : Str) (ps : List Str) (sp : Sp) : Prop where
  ex : ∃ f fd, FnOk P w K mg base (L2.CX P w) k f fd ps sp ∧ mg x = some (.ref f) ∧ PySem.W.keepIn K (.ref f) = true ∧ Binds K fd ps []
section
variable {P : Program} {w : World} {K : PySem.W.Frag} {mg : Str → Option Value} {base : Heap}
end
structure QEx (X : Cx) (W : WX) (e : Expr) (t : TE) (m : ME) : Prop where
  pe : PE X e t
  sim : ∀ G : Gx, G.K = X.K → G.cls = clsOf X.mg → G.W = W → SimE G t m
structure QAx (X : Cx) (W : WX) (es : List Expr) (t : TA) (m : MA) : Prop where
  pa : PA X es t
  sim : ∀ G : Gx, G.K = X.K → G.cls = clsOf X.mg → G.W = W → SimA G t m
structure QSx (X : Cx) (W : WX) (s : Stmt) (t : TS) (m : MS) : Prop where
  ps : PS X s t
  sim : ∀ G : Gx, G.K = X.K → G.cls = clsOf X.mg → G.W = W → SimS G t m
structure QSsx (X : Cx) (W : WX) (s : List Stmt) (t : TS) (m : MS) : Prop where
  pss : PSs X s t
  sim : ∀ G : Gx, G.K = X.K → G.cls = clsOf X.mg → G.W = W → SimS G t m
section
variable {X : Cx} {W : WX}
theorem QE.x {e : Expr} {t : TE} {m : ME} (h : QE X e t m) : QEx X W e t m := ⟨h.pe, fun G hG _ _ => h.sim G hG⟩
theorem QA.x {e : List Expr} {t : TA} {m : MA} (h : QA X e t m) : QAx X W e t m := ⟨h.pa, fun G hG _ _ => h.sim G hG⟩
theorem QS.x {s : Stmt} {t : TS} {m : MS} (h : QS X s t m) : QSx X W s t m := ⟨h.ps, fun G hG _ _ => h.sim G hG⟩
theorem QSs.x {s : List Stmt} {t : TS} {m : MS} (h : QSs X s t m) : QSsx X W s t m := ⟨h.pss, fun G hG _ _ => h.sim G hG⟩
end
theorem ExK.fut {G : Gx} {β : List Addr} {st : Sto} {H : Hp} {cls : Str → Option Addr} {e : Exc} {cv : Value} {dx : Option Addr} (h : ExK G.K cls (Ban G β st) H e cv dx) : ExK G.K cls (Ban G β st) H e cv dx := h
section
variable {X : Cx} {W : WX} {e c : Expr} {es : List Expr} {pos p : Pos} {tA : TA} {mA : MA} {te : TE} {me : ME} {s : Stmt} {rest x y body : List Stmt} {ts us : TS} {m n : MS}
end
end NW
namespace NW
open PySem PySem.Spec PyProof.Rows L2
section
variable {X : Cx} {W : WX} {e c tg : Expr} {es : List Expr} {pos p p2 : Pos} {tA : TA} {mA : MA} {te : TE} {me : ME} {s : Stmt} {rest x y body : List Stmt} {ts us : TS} {m n : MS}
end
def spInit (K : PySem.W.Frag) (C : Addr) (f : Str) : Sp := fun vs H Q _ => ∃ (a : Addr) (y : V), vs = [.ref a, y] ∧ H a = some (exo a C none) ∧ ∀ dx, H dx = none → dx ≠ a → Q .non (upd (upd H dx (exd dx [(f, y)])) a (exo a C (some dx)))
structure Cls1 (P : Program) (w : World) (K : PySem.W.Frag) (mg : Str → Option Value) (base : Heap) (x f : Str) : Prop where
  ex : ∃ (C fI : Addr) (fd : FuncData) (ps : List Str), mg x = some (.ref C) ∧ OexC K C ∧ PySem.W.findIn K (.ref C) "__init__" = some (some (.ref fI)) ∧ PySem.W.typeIn K (.ref fI) = some (.type "function") ∧ FnOk P w K mg base CX0 1 fI fd ps (spInit K C f) ∧ Binds K fd ps []
def cA (mg : Str → Option Value) (x : Str) : Addr := (clsOf mg x).getD 0
theorem cA_of {mg : Str → Option Value} {x : Str} {C : Addr} (h : mg x = some (.ref C)) : cA mg x = C := by unfold cA; rw [clsOf_of h]; rfl
section
variable {X : Cx} {W : WX} {e : Expr} {pos p p2 : Pos} {te : TE} {me : ME} {x f : Str}
end
end NW
namespace NW
open PySem PySem.Spec PyProof.Rows L2
section
variable {G : Gx} {β : List Addr} {H : Hp} {st : Sto} {σ : L2.St} {l : Loc}
def numOk (i : Int) : Bool := decide (i.natAbs.log2 < 1920)
def numT (i : Int) : Str := toString i
def cStrI : List U → Sto → Res U := fun us st => match us with
  | [.d (.int i)] => if numOk i = true then .ok (.d (.str (numT i))) st else .no
  | _ => .no
def cIntS : List U → Sto → Res U := fun us st => match us with
  | [.d (.str a)] => (match PySem.intText? a with
    | some n => if a.length ≤ 640 then .ok (.d (.int n)) st else .no
    | none => .no)
  | _ => .no
def eFmt (m : ME) : ME := fun l st => (m l st).bind fun u st => match u with
  | .d (.str y) => if lenOk y.length = true then .ok (.d (.str y)) st else .no
  | .d (.int i) => if numOk i = true then .ok (.d (.str (numT i))) st else .no
  | _ => .no
def eJs : List ME → Str → ME
  | [], acc => fun _ st => .ok (.d (.str acc)) st
  | m :: ms, acc => fun l st => (m l st).bind fun u st => match u with
    | .d (.str y) => if lenOk (acc ++ y).length = true then eJs ms (acc ++ y) l st else .no
    | _ => .no
def fStarts : U → U → Sto → Res U := fun a b st => match a, b with
  | .d (.str x), .d (.str y) => .ok (.d (.bool (Txt.startswith x y))) st
  | _, _ => .no
def partD (x y : Str) : PyData := .tuple [.str (Txt.partition x y).1, .str (Txt.partition x y).2.1, .str (Txt.partition x y).2.2]
def fPart : U → U → Sto → Res U := fun a b st => match a, b with
  | .d (.str x), .d (.str y) => if (y.length == 0) = false ∧ lenOk x.length = true then .ok (.d (partD x y)) st else .no
  | _, _ => .no
def splitD (x y : Str) : List PyData := (Txt.split x y).map PyData.str
def fSplit : U → U → Sto → Res U := fun a b st => match a, b with
  | .d (.str x), .d (.str y) => if (y.length == 0) = false ∧ x.length + 2 ≤ 16777216 then .ok (.d (.list (splitD x y))) st else .no
  | _, _ => .no
def fIndex : U → U → Sto → Res U := fun a b st => match a, b with
  | .d (.str x), .d (.str y) => (match Txt.index0 x y with
    | some k => .ok (.d (.int (k : Nat))) st
    | none => .no)
  | _, _ => .no
def oneS : Str → Option Nat := fun x => match x.cps.toList with
  | [c] => some c
  | _ => none
def fInS (neg : Bool) : U → U → Sto → Res U := fun a b st => match a, b with
  | .d (.str x), .d (.str z) => (match oneS x with
    | some c => .ok (.d (.bool (if neg then !decide (c ∈ z.cps.toList) else decide (c ∈ z.cps.toList)))) st
    | none => .no)
  | _, _ => .no
def signsD (x : Str) : List PyData := x.cps.toList.map fun c => .str ⟨#[c]⟩
def mStr (m : ME) : MI := fun l st => (m l st).bind fun u st => match u with
  | .d (.str x) => .ok ⟨signsD x, []⟩ st
  | _ => .no
def mRevR (m : ME) : MI := fun l st => (m l st).bind fun u st => match u with
  | .d (.int n) => if rOk n = true then .ok ⟨rangeD (((n.toNat : Nat) : Int) - 1) (-1) n.toNat, []⟩ st else .no
  | _ => .no
end
section
variable {X : Cx} {o e a b : Expr} {to te ta tb : TE} {mo me ma mb : ME} {apos pos p : Pos} {tA : TA} {mA : MA} {tg : Expr}
structure QJ (X : Cx) (es : List Expr) (ts : List TE) (ms : List ME) : Prop where
  pj : PJ X es ts
  sim : ∀ G : Gx, G.K = X.K → Paired (fun t m => SimE G t m) ts ms
end
section
variable {st : Sto} {Q : U → Sto → Prop} {l : Loc}
@[simp] theorem to_cStrI {i : Int} : (cStrI [.d (.int i)] st).To Q ↔ numOk i = true ∧ Q (.d (.str (numT i))) st := by
  show (if numOk i = true then Res.ok (U.d (.str (numT i))) st else .no).To Q ↔ _
  by_cases h : numOk i = true <;> simp [h]
@[simp] theorem to_cIntS {a : Str} : (cIntS [.d (.str a)] st).To Q ↔ ∃ n, PySem.intText? a = some n ∧ a.length ≤ 640 ∧ Q (.d (.int n)) st := by
  show (match PySem.intText? a with | some n => if a.length ≤ 640 then Res.ok (U.d (.int n)) st else .no | none => .no).To Q ↔ _
  cases PySem.intText? a with
  | none => simp
  | some n => by_cases h : a.length ≤ 640 <;> simp [h]
@[simp] theorem to_starts {x y : Str} : (fStarts (.d (.str x)) (.d (.str y)) st).To Q ↔ Q (.d (.bool (Txt.startswith x y))) st := Iff.rfl
@[simp] theorem to_part {x y : Str} : (fPart (.d (.str x)) (.d (.str y)) st).To Q ↔ ((y.length == 0) = false ∧ lenOk x.length = true) ∧ Q (.d (partD x y)) st := by
  show (if (y.length == 0) = false ∧ lenOk x.length = true then Res.ok (U.d (partD x y)) st else .no).To Q ↔ _
  by_cases h : (y.length == 0) = false ∧ lenOk x.length = true <;> simp [h]
@[simp] theorem to_split {x y : Str} : (fSplit (.d (.str x)) (.d (.str y)) st).To Q ↔ ((y.length == 0) = false ∧ x.length + 2 ≤ 16777216) ∧ Q (.d (.list (splitD x y))) st := by
  show (if (y.length == 0) = false ∧ x.length + 2 ≤ 16777216 then Res.ok (U.d (.list (splitD x y))) st else .no).To Q ↔ _
  by_cases h : (y.length == 0) = false ∧ x.length + 2 ≤ 16777216 <;> simp [h]
@[simp] theorem to_index {x y : Str} : (fIndex (.d (.str x)) (.d (.str y)) st).To Q ↔ ∃ k, Txt.index0 x y = some k ∧ Q (.d (.int (k : Nat))) st := by
  show (match Txt.index0 x y with | some k => Res.ok (U.d (.int (k : Nat))) st | none => .no).To Q ↔ _
  cases Txt.index0 x y <;> simp
@[simp] theorem to_inS {x z : Str} {neg : Bool} : (fInS neg (.d (.str x)) (.d (.str z)) st).To Q ↔ ∃ c, oneS x = some c ∧ Q (.d (.bool (if neg then !decide (c ∈ z.cps.toList) else decide (c ∈ z.cps.toList)))) st := by
  show (match oneS x with | some c => Res.ok (U.d (.bool (if neg then !decide (c ∈ z.cps.toList) else decide (c ∈ z.cps.toList)))) st | none => .no).To Q ↔ _
  cases oneS x <;> simp
@[simp] theorem to_mStr {m : ME} {Q : ItD → Sto → Prop} : (mStr m l st).To Q ↔ (m l st).To fun u s => ∃ x, u = .d (.str x) ∧ Q ⟨signsD x, []⟩ s := by
  unfold mStr
  rw [to_bind]
  refine iff_of_eq (congrArg _ (funext fun u => funext fun s => propext ?_))
  split
  · simp
  · rename_i h
    simp
    intro x hx
    exact (h x hx).elim
@[simp] theorem to_mRevR {m : ME} {Q : ItD → Sto → Prop} : (mRevR m l st).To Q ↔ (m l st).To fun u s => ∃ n : Int, u = .d (.int n) ∧ rOk n = true ∧ Q ⟨rangeD (((n.toNat : Nat) : Int) - 1) (-1) n.toNat, []⟩ s := by
  unfold mRevR
  rw [to_bind]
  refine iff_of_eq (congrArg _ (funext fun u => funext fun s => propext ?_))
  split
  · rename_i n
    by_cases h : rOk n = true <;> simp [h]
  · rename_i h
    simp
    intro x hx
    exact (h x hx).elim
@[simp] theorem to_eFmt {m : ME} : (eFmt m l st).To Q ↔ (m l st).To fun u s => (∃ y, u = .d (.str y) ∧ y.length ≤ 16777216 ∧ Q (.d (.str y)) s) ∨ ∃ i, u = .d (.int i) ∧ numOk i = true ∧ Q (.d (.str (numT i))) s := by
  unfold eFmt
  rw [to_bind]
  refine iff_of_eq (congrArg _ (funext fun u => funext fun s => propext ?_))
  split
  · rename_i y
    have e : lenOk y.length = true ↔ y.length ≤ 16777216 := by simp
    by_cases h : y.length ≤ 16777216 <;> simp [h]
  · rename_i i
    by_cases h : numOk i = true <;> simp [h]
  · rename_i h1 h2
    simp
    exact ⟨fun x hx => (h1 x hx).elim, fun x hx => (h2 x hx).elim⟩
@[simp] theorem to_js0 {acc : Str} : (eJs [] acc l st).To Q ↔ Q (.d (.str acc)) st := Iff.rfl
@[simp] theorem to_js1 {m : ME} {ms : List ME} {acc : Str} : (eJs (m :: ms) acc l st).To Q ↔ (m l st).To fun u s => ∃ y, u = .d (.str y) ∧ (acc ++ y).length ≤ 16777216 ∧ (eJs ms (acc ++ y) l s).To Q := by
  show ((m l st).bind _).To Q ↔ _
  rw [to_bind]
  refine iff_of_eq (congrArg _ (funext fun u => funext fun s => propext ?_))
  split
  · rename_i y
    have e : lenOk (acc ++ y).length = true ↔ (acc ++ y).length ≤ 16777216 := by simp
    by_cases h : (acc ++ y).length ≤ 16777216 <;> simp [h]
  · rename_i h
    simp
    intro x hx
    exact (h x hx).elim
end
end NW
namespace NW
open PySem PySem.Spec PyProof.Rows L2
abbrev kept (X : Cx) (a : Addr) (oe : Obj) (pn : List (Addr × Obj)) : Cx := X.tr ((a, oe) :: pn) X.xe
section
variable {X : Cx} {x n y : Str} {c : Value} {i j : Nat} {body rest : List Stmt} {np np2 yp ap pos pos' : Pos} {tb : WX → TS} {t0 : TS} {t1 : Addr → Value → Option Addr → TS} {Wout : WX}
end
end NW
namespace NW
open PySem PySem.Spec PyProof.Rows L2
section
variable {X : Cx} {a D : Addr} {oe : Obj} {pn : List (Addr × Obj)} {d : Option Addr}
end
end NW
namespace NW
open PySem PySem.Spec PyProof.Rows L2
def sTryO (sub : Str → Bool) (mb ms : MS) : MS := fun l st => match mb l st with
  | .ex e l' st' => if sub e.cls = true then ms l' st' else .no
  | o => o
def Gx.wc (G : Gx) (W : WX) (c : Str → Option Addr) : Gx := { G with W := W, cls := c }
section
variable {G : Gx} {W : WX} {c : Str → Option Addr} {β β' : List Addr} {st st' : Sto} {H H' : Hp} {σ : L2.St} {l : Loc}
theorem Fut.wc (f : Fut G β st H β' st' H') : Fut (G.wc W c) β st H β' st' H' := ⟨f.ext, f.there, f.stay⟩
theorem Fut.unwc (f : Fut (G.wc W c) β st H β' st' H') : Fut G β st H β' st' H' := ⟨f.ext, f.there, f.stay⟩
theorem Rl.wc (h : Rl G β H st) : Rl (G.wc W c) β H st := ⟨h.len, h.nodup, h.trk, h.oo, fun f e => ⟨⟨(h.flo f e).1.here, (h.flo f e).1.cl⟩, (h.flo f e).2⟩, h.o0⟩
theorem Rl.unwc (h : Rl (G.wc W c) β H st) : Rl G β H st := ⟨h.len, h.nodup, h.trk, h.oo, fun f e => ⟨⟨(h.flo f e).1.here, (h.flo f e).1.cl⟩, (h.flo f e).2⟩, h.o0⟩
theorem ru_wc {B : Addr → Prop} {v : V} {u : U} : RU (G.wc W c) β B H v u ↔ RU G β B H v u := by cases u <;> exact Iff.rfl
theorem Re.wc (h : Re G β H σ l st) : Re (G.wc W c) β H σ l st := ⟨h.rl.wc, ⟨h.lo.len, fun i u e => by
  obtain ⟨v, h1, h2⟩ := h.lo.at_ i u e
  exact ⟨v, h1, ru_wc.mpr h2⟩⟩⟩
theorem Re.unwc (h : Re (G.wc W c) β H σ l st) : Re G β H σ l st := ⟨h.rl.unwc, ⟨h.lo.len, fun i u e => by
  obtain ⟨v, h1, h2⟩ := h.lo.at_ i u e
  exact ⟨v, h1, ru_wc.mp h2⟩⟩⟩
end
section
variable {X : Cx} {e : Expr} {es : List Expr} {tA : TA} {mA : MA} {x y f : Str} {cv : Value} {np py p p2 p3 pos pos' : Pos} {b₀ : Stmt} {suite : List Stmt} {ts : TS} {ms : MS}
end
@[simp] theorem to_tryO {sub : Str → Bool} {mb ms : MS} {l : Loc} {st : Sto} {N : Loc → Sto → Prop} {R : U → Sto → Prop} (h : ∀ e l' s', mb l st ≠ .ex e l' s') : (sTryO sub mb ms l st).To N R ↔ (mb l st).To N R := by
  unfold sTryO
  split
  · rename_i e l' s' he; exact (h e l' s' he).elim
  · exact Iff.rfl
end NW
namespace NW
open PySem PySem.Spec PyProof.Rows L2
structure Exm (K : PySem.W.Frag) (mg : Str → Option Value) (x y : Str) : Prop where
  ex : ∃ C D, mg x = some (.ref C) ∧ mg y = some (.ref D) ∧ PySem.W.exmOne K (.ref C) (.ref D) = some true
theorem Exm.names {X : Cx} {x y : Str} (e : Exm X.K X.mg x y) (hg : Gl X y := by rfl) (hd : (y == ("__debug__" : Str)) = false := by decide) : Names X y (.ref (cA X.mg y)) := by
  obtain ⟨C, D, _, h, _⟩ := e.ex
  rw [cA_of h]
  exact ⟨hg, hd, .inl h⟩
theorem Exm.sub {K : PySem.W.Frag} {mg : Str → Option Value} {x y : Str} (e : Exm K mg x y) : ∀ z C, (z == x) = true → clsOf mg z = some C → PySem.W.exmOne K (.ref C) (.ref (cA mg y)) = some true := fun z C hz hC => by
  obtain ⟨C', D, h1, h2, h3⟩ := e.ex
  rw [eq_of_beq hz, clsOf_of h1] at hC
  cases hC
  rw [cA_of h2]
  exact h3
structure Cls0 (K : PySem.W.Frag) (mg : Str → Option Value) (x : Str) : Prop where
  ex : ∃ (C : Addr), mg x = some (.ref C) ∧ PySem.W.excIn K C [.type "ValueError", .type "Exception", .type "BaseException", .type "object"] "ValueError.__new__" = true ∧ PySem.W.keepIn K (.ref C) = true ∧ PySem.W.subIn K (.ref C) (.type "BaseException") = some true ∧ PySem.W.typeIn K (.ref C) = some (.type "type")
section
variable {X : Cx} {W : WX} {pos p p2 : Pos} {x : Str}
end
end NW
namespace NW
open PySem PySem.Spec PyProof.Rows L2
structure Cel where
  t : Addr
  l : Addr
  s : Int
  ws : List Str
structure PH (H0 H : Hp) (p q : Addr) (parts : List Str) (cs : List Cel) : Prop where
  old : ∀ b o, H0 b = some o → H b = some o
  lst : H p = some (.lst (cs.map fun c => V.ref c.t))
  ok : ∀ c, c ∈ cs → H c.t = some (.tup [.int c.s, .ref c.l]) ∧ H c.l = some (.lst (c.ws.map V.str)) ∧ H0 c.t = none ∧ H0 c.l = none ∧ c.l ≠ p ∧ c.l ≠ q
  nd : (cs.map (·.l)).Nodup
  new : H0 p = none
  hq : H q = some (.lst (parts.map V.str))
  nq : q ≠ p
section
variable {H0 H : Hp} {p q : Addr} {parts : List Str} {cs : List Cel}
theorem PH.add (h : PH H0 H p q parts cs) {a : Addr} {o : HO} (ha : H a = none) : PH H0 (upd H a o) p q parts cs where
  old := fun b u e => by rw [upd_ne (ne_of_none (h.old b u e) ha)]; exact h.old b u e
  lst := by rw [upd_ne (ne_of_none h.lst ha)]; exact h.lst
  ok := fun c hc => by
    obtain ⟨h1, h2, h3⟩ := h.ok c hc
    exact ⟨by rw [upd_ne (ne_of_none h1 ha)]; exact h1, by rw [upd_ne (ne_of_none h2 ha)]; exact h2, h3⟩
  nd := h.nd
  new := h.new
  hq := by rw [upd_ne (ne_of_none h.hq ha)]; exact h.hq
  nq := h.nq
theorem PH.fresh (h : PH H0 H p q parts cs) {a : Addr} (ha : H a = none) : H0 a = none := by
  cases e : H0 a with
  | none => rfl
  | some o => rw [h.old a o e] at ha; cases ha
theorem PH.push (h : PH H0 H p q parts cs) {l t : Addr} {s : Int} (hl : H l = some (.lst [])) (ht : H t = some (.tup [.int s, .ref l])) (nl : H0 l = none) (nt : H0 t = none) (lp : l ≠ p) (lq : l ≠ q) (ln : l ∉ cs.map (·.l)) (tp : t ≠ p) :
    PH H0 (upd H p (.lst ((cs.map fun c => V.ref c.t) ++ [.ref t]))) p q parts (cs ++ [⟨t, l, s, []⟩]) where
  old := fun b u e => by rw [upd_ne (fun z => by rw [z, h.new] at e; cases e)]; exact h.old b u e
  lst := by rw [upd_same]; simp
  ok := fun c hc => by
    rcases List.mem_append.mp hc with hc | hc
    · obtain ⟨h1, h2, h3, h4, h5, h6⟩ := h.ok c hc
      have tp' : c.t ≠ p := fun z => by rw [z, h.lst] at h1; cases h1
      exact ⟨by rw [upd_ne tp']; exact h1, by rw [upd_ne h5]; exact h2, h3, h4, h5, h6⟩
    · have : c = ⟨t, l, s, []⟩ := by simpa using hc
      subst this
      exact ⟨by rw [upd_ne tp]; exact ht, by rw [upd_ne lp]; exact hl, nt, nl, lp, lq⟩
  nd := by
    rw [List.map_append, List.nodup_append]
    refine ⟨h.nd, by simp, fun a ha b hb e => ?_⟩
    have : b = l := by simpa using hb
    subst e this
    exact ln ha
  new := h.new
  hq := by rw [upd_ne h.nq]; exact h.hq
  nq := h.nq
theorem PH.grow {c : Cel} (h : PH H0 H p q parts (cs ++ [c])) (w : Str) : PH H0 (upd H c.l (.lst (c.ws.map V.str ++ [.str w]))) p q parts (cs ++ [⟨c.t, c.l, c.s, c.ws ++ [w]⟩]) where
  old := fun b u e => by
    have n := (h.ok c (by simp)).2.2.2.1
    rw [upd_ne (fun z => by rw [z, n] at e; cases e)]; exact h.old b u e
  lst := by
    have n := (h.ok c (by simp)).2.2.2.2.1
    rw [upd_ne (Ne.symm n), h.lst]
    simp
  ok := fun d hd => by
    obtain ⟨k1, k2, k3, k4, k5, k6⟩ := h.ok c (by simp)
    have nt : ∀ {a : Addr} {xs : List V}, H a = some (.tup xs) → a ≠ c.l := fun e z => by rw [z, k2] at e; cases e
    rcases List.mem_append.mp hd with hd | hd
    · obtain ⟨h1, h2, h3, h4, h5, h6⟩ := h.ok d (List.mem_append_left _ hd)
      have ne : d.l ≠ c.l := fun z => by
        have := h.nd
        rw [List.map_append, List.nodup_append] at this
        exact this.2.2 d.l (List.mem_map.mpr ⟨d, hd, rfl⟩) c.l (by simp) z
      exact ⟨by rw [upd_ne (nt h1)]; exact h1, by rw [upd_ne ne]; exact h2, h3, h4, h5, h6⟩
    · have : d = ⟨c.t, c.l, c.s, c.ws ++ [w]⟩ := by simpa using hd
      subst this
      exact ⟨by rw [upd_ne (nt k1)]; exact k1, by rw [upd_same]; simp, k3, k4, k5, k6⟩
  nd := by simpa using h.nd
  new := h.new
  hq := by
    have n := (h.ok c (by simp)).2.2.2.2.2
    rw [upd_ne (Ne.symm n)]; exact h.hq
  nq := h.nq
end
theorem str_sh {x : Str} (h : PyData.strOk x = true) : SeqAt.shaped (.str x) = true := by
  unfold SeqAt.shaped
  rw [show (PyData.str x).canLay0 = true from h]
  simp [PyData.depth]
end NW
namespace NW
open PySem PySem.Spec PyProof.Rows L2
theorem strOk_iff {x : Str} : PyData.strOk x = true ↔ ∀ c, c ∈ TL.tl x → c < 0x110000 := by
  unfold PyData.strOk TL.tl
  rw [← Array.all_toList, List.all_eq_true]
  exact ⟨fun h c hc => of_decide_eq_true (h c hc), fun h c hc => decide_eq_true (h c hc)⟩
theorem PH.init {H0 H1 : Hp} {l t p q : Addr} {s : Int} {parts : List Str} (old : ∀ b o, H0 b = some o → H1 b = some o) (hl : H1 l = none) (ht : upd H1 l (.lst []) t = none) (hp : upd (upd H1 l (.lst [])) t (.tup [.int s, .ref l]) p = none)
    (hq : upd (upd (upd H1 l (.lst [])) t (.tup [.int s, .ref l])) p (.lst [.ref t]) q = none) :
    PH H0 (upd (upd (upd (upd H1 l (.lst [])) t (.tup [.int s, .ref l])) p (.lst [.ref t])) q (.lst (parts.map V.str))) p q parts [⟨t, l, s, []⟩] := by
  have lt : l ≠ t := fun z => by rw [← z, upd_same] at ht; cases ht
  have tp : t ≠ p := fun z => by rw [← z, upd_same] at hp; cases hp
  have lp : l ≠ p := fun z => by rw [← z, upd_ne lt, upd_same] at hp; cases hp
  have pq : p ≠ q := fun z => by rw [← z, upd_same] at hq; cases hq
  have tq : t ≠ q := fun z => by rw [← z, upd_ne tp, upd_same] at hq; cases hq
  have lq : l ≠ q := fun z => by rw [← z, upd_ne lp, upd_ne lt, upd_same] at hq; cases hq
  have n0 : ∀ {a : Addr}, H1 a = none → H0 a = none := fun {a} e => by
    cases e0 : H0 a with
    | none => rfl
    | some o => rw [old a o e0] at e; cases e
  have t1 : H1 t = none := by rw [upd_ne (Ne.symm lt)] at ht; exact ht
  have p1 : H1 p = none := by rw [upd_ne (Ne.symm tp), upd_ne (Ne.symm lp)] at hp; exact hp
  have q1 : H1 q = none := by rw [upd_ne (Ne.symm pq), upd_ne (Ne.symm tq), upd_ne (Ne.symm lq)] at hq; exact hq
  refine ⟨fun b o e => ?_, ?_, fun c hc => ?_, by simp, n0 p1, upd_same, Ne.symm pq⟩
  · have e1 := old b o e
    have ne : ∀ {a : Addr}, H1 a = none → b ≠ a := fun ha z => by rw [z, ha] at e1; cases e1
    rw [upd_ne (ne q1), upd_ne (ne p1), upd_ne (ne t1), upd_ne (ne hl)]
    exact e1
  · rw [upd_ne pq, upd_same]; rfl
  · have : c = ⟨t, l, s, []⟩ := by simpa using hc
    subst this
    refine ⟨?_, ?_, n0 t1, n0 hl, lp, lq⟩
    · rw [upd_ne tq, upd_ne tp, upd_same]
    · rw [upd_ne lq, upd_ne lp, upd_ne lt, upd_same]; rfl
end NW
namespace NW
open PySem PySem.Spec PyProof.Rows L2
def eOrT (a b : ME) : ME := fun l st => (a l st).bind fun u st => match truD st u with
  | some k => if k = true then .ok u st else b l st
  | none => .no
section
variable {X : Cx} {a b : Expr} {es : List Expr} {ta tb : TE} {ma mb : ME} {pos : Pos}
end
@[simp] theorem to_eOrT {a b : ME} {l : Loc} {st : Sto} {Q : U → Sto → Prop} : (eOrT a b l st).To Q ↔ (a l st).To fun u s => ∃ c, truD s u = some c ∧ if c = true then Q u s else (b l s).To Q := by
  unfold eOrT
  rw [to_bind]
  refine iff_of_eq (congrArg _ (funext fun u => funext fun s => propext ?_))
  cases truD s u with
  | none => simp
  | some c => cases c <;> simp
end NW
namespace NW
open PySem PySem.Spec PyProof.Rows L2
section
variable {X : Cx} {e : Expr} {es : List Expr} {tA : TA} {mA : MA} {x y f nm fld : Str} {cv : Value} {C : Addr} {np py p p2 p3 ap ap2 np2 pos pos' : Pos}
end
structure ExAt (K : PySem.W.Frag) (mg : Str → Option Value) (x fld : Str) : Prop where
  ex : ∃ C, mg x = some (.ref C) ∧ XfC K C ∧ PySem.W.findIn K (.ref C) fld = some none ∧ PySem.W.exmOne K (.ref C) (.ref C) = some true
section
variable {K : PySem.W.Frag} {mg : Str → Option Value} {x fld : Str}
theorem ExAt.names {X : Cx} {x fld : Str} (e : ExAt X.K X.mg x fld) (hg : Gl X x := by rfl) (hd : (x == ("__debug__" : Str)) = false := by decide) : Names X x (.ref (cA X.mg x)) := by
  obtain ⟨C, h, _⟩ := e.ex
  rw [cA_of h]
  exact ⟨hg, hd, .inl h⟩
theorem ExAt.T (e : ExAt K mg x fld) : XfC K (cA mg x) := by
  obtain ⟨C, h, t, _⟩ := e.ex
  rw [cA_of h]
  exact t
theorem ExAt.no (e : ExAt K mg x fld) : PySem.W.findIn K (.ref (cA mg x)) fld = some none := by
  obtain ⟨C, h, _, t, _⟩ := e.ex
  rw [cA_of h]
  exact t
theorem ExAt.sub (e : ExAt K mg x fld) : ∀ z D, (z == x) = true → clsOf mg z = some D → D = cA mg x ∧ PySem.W.exmOne K (.ref D) (.ref (cA mg x)) = some true := fun z D hz hD => by
  obtain ⟨C, h, _, _, t⟩ := e.ex
  rw [eq_of_beq hz, clsOf_of h] at hD
  cases hD
  rw [cA_of h]
  exact ⟨rfl, t⟩
end
end NW
namespace NW
open PySem PySem.Spec PyProof.Rows L2
section
variable {X : Cx} {CX : CXT} {k i : Nat} {f : Addr} {fd : FuncData} {ps : List Str} {sp : Sp} {E : L2.St → XK} {x : Str} {p pos : Pos} {e : Expr} {es : List Expr} {t : TA}
end
section
variable {X : Cx} {a : Addr} {cls : Value} {oe : Obj} {pn : List (Addr × Obj)} {d : Option Addr}
end
structure AskK (K : PySem.W.Frag) (mg : Str → Option Value) : Prop where
  ex : ∃ B N NN NR TG TW : Addr, mg "BadText" = some (.ref B) ∧ mg "NestError" = some (.ref N) ∧ mg "NoName" = some (.ref NN) ∧ mg "NoRow" = some (.ref NR) ∧ mg "TooGreat" = some (.ref TG) ∧ mg "Twice" = some (.ref TW) ∧
    ExcC K B ∧ XfC K B ∧ PySem.W.findIn K (.ref B) "at" = some none ∧ PySem.W.exmOne K (.ref B) (.ref N) = some true ∧ PySem.W.kitOne K (.ref B) (.type "ValueError") = some true ∧
    PySem.W.kitOne K (.ref B) (.ref NN) = some false ∧ PySem.W.kitOne K (.ref B) (.ref NR) = some false ∧ PySem.W.kitOne K (.ref B) (.ref TG) = some false ∧ PySem.W.kitOne K (.ref B) (.ref TW) = some false
section
variable {X : Cx} {e : Expr} {es : List Expr} {tA : TA} {mA : MA} {p p2 pos : Pos}
end
theorem CalX.at {P : Program} {w : World} {K : PySem.W.Frag} {mg : Str → Option Value} {base : Heap} {k : Nat} {x : Str} {ps : List Str} {sp : Sp} (C : CalX P w K mg base k x ps sp) : mg x = some (.ref (cA mg x)) := by
  obtain ⟨f, fd, _, hm, _⟩ := C.ex
  rw [cA_of hm]
  exact hm
def lSplit (o a : ME) : ML := fun l st => (o l st).bind fun u st => if isStr u = true then (a l st).bind fun w st => (match u, w with
  | .d (.str x), .d (.str y) => if (y.length == 0) = false ∧ x.length + 2 ≤ 16777216 then .ok (splitD x y) st else .no
  | _, _ => .no) else .no
@[simp] theorem to_lSplit {o a : ME} {l : Loc} {st : Sto} {Q : List PyData → Sto → Prop} : (lSplit o a l st).To Q ↔ (o l st).To fun u s => isStr u = true ∧ (a l s).To fun w s => ∃ x y, u = .d (.str x) ∧ w = .d (.str y) ∧ ((y.length == 0) = false ∧ x.length + 2 ≤ 16777216) ∧ Q (splitD x y) s := by
  unfold lSplit
  rw [to_bind]
  refine iff_of_eq (congrArg _ (funext fun u => funext fun s => propext ?_))
  by_cases hu : isStr u = true
  · rw [if_pos hu, to_bind]
    refine Iff.trans ?_ ⟨fun h => ⟨hu, h⟩, fun h => h.2⟩
    refine iff_of_eq (congrArg _ (funext fun w => funext fun s => propext ?_))
    constructor
    · intro h
      split at h
      · split at h
        · rename_i hk
          exact ⟨_, _, rfl, rfl, hk, h⟩
        · exact h.elim
      · exact h.elim
    · rintro ⟨x, y, rfl, rfl, hk, h⟩
      show (if (y.length == 0) = false ∧ x.length + 2 ≤ 16777216 then Res.ok (splitD x y) s else .no).To Q
      rw [if_pos hk]
      exact h
  · rw [if_neg hu]
    exact ⟨fun h => h.elim, fun h => absurd h.1 hu⟩
end NW
namespace NW
open PySem PySem.Spec PyProof.Rows L2
section
variable {X : Cx} {CX : CXT} {k : Nat} {f C : Addr} {fd : FuncData} {ps : List Str} {sp : Sp} {E : L2.St → XK} {m : Str} {pos apos : Pos} {e o : Expr} {es : List Expr} {ta : TE} {t : TA}
end
section
variable {X : Cx} {d : Addr} {es : Array DictEntry} {n : Nat} {o e f : Expr} {apos cpos : Pos} {td ty tx : TE}
end
def dcA (mg : Str → Option Value) (x : Str) : Addr := match mg x with
  | some (.ref a) => a
  | _ => 0
theorem dcA_of {mg : Str → Option Value} {x : Str} {a : Addr} (h : mg x = some (.ref a)) : dcA mg x = a := by unfold dcA; rw [h]
structure DcIn (K : PySem.W.Frag) (w : World) (mg : Str → Option Value) (x : Str) (es : List (Str × Str)) : Prop where
  ex : ∃ (d : Addr) (ds : Array DictEntry) (n : Nat), mg x = some (.ref d) ∧ KDict K w d ds n ∧ ∀ k v, es.lookup k = some v → ∃ u, PySem.W.nsIn K d k = some (some u) ∧ RelV (.str v) u
section
variable {X : Cx} {es : List (Str × Str)} {e : Expr} {x : Str} {p pos : Pos} {te : TE} {me : ME}
theorem DcIn.mg {K : PySem.W.Frag} {w : World} {mg : Str → Option Value} (D : DcIn K w mg x es) : mg x = some (.ref (dcA mg x)) := by
  obtain ⟨d, ds, n, h, _⟩ := D.ex
  rw [dcA_of h]; exact h
theorem DcIn.it {K : PySem.W.Frag} {w : World} {mg : Str → Option Value} (D : DcIn K w mg x es) {k v : Str} (h : es.lookup k = some v) : KDct K w (dcA mg x) k (.str v) := by
  obtain ⟨d, ds, n, hm, kd, hs⟩ := D.ex
  rw [dcA_of hm]
  obtain ⟨u, h1, h2⟩ := hs k v h
  exact ⟨ds, n, u, kd.at_, kd.lit, h1, h2⟩
end
def dispU (es : List (Str × Str)) : List (Key × PyData) := es.map fun e => (.inr e.1, .str e.2)
def eDispK (es : List (Str × Str)) : ME := fun _ st => .ok (.dct (dispU es)) st
@[simp] theorem to_eDispK {es : List (Str × Str)} {l : Loc} {st : Sto} {Q : U → Sto → Prop} : (eDispK es l st).To Q ↔ Q (.dct (dispU es)) st := Iff.rfl
section
variable {K K' : PySem.W.Frag} (m : More K K')
include m
theorem More.plainGet {C : Addr} {n : Str} (e : PySem.W.plainGet K C n = true) : PySem.W.plainGet K' C n = true := by
  unfold PySem.W.plainGet at e ⊢
  rw [Bool.and_eq_true, beq_iff_eq, beq_iff_eq] at e ⊢
  exact ⟨m.find e.1, m.find e.2⟩
theorem More.plainOver {C : Addr} (e : PySem.W.plainOver K C = true) : PySem.W.plainOver K' C = true := by
  unfold PySem.W.plainOver at e ⊢
  cases q : PySem.W.clsIn K C with
  | none => rw [q] at e; cases e
  | some cd => rw [q] at e; rw [m.cls q]; exact e
theorem More.isFn {v : Value} (e : PySem.W.isFn K v = true) : PySem.W.isFn K' v = true := by
  unfold PySem.W.isFn at e ⊢
  rw [beq_iff_eq] at e ⊢
  exact m.typ e
theorem More.makes {C : Addr} (e : PySem.W.makesIn K C = true) : PySem.W.makesIn K' C = true := by
  unfold PySem.W.makesIn at e ⊢
  cases q : List.lookup C K with
  | none => rw [q] at e; cases e
  | some o =>
    rw [q] at e
    rw [m C o q]
    split at e
    · simp only [Bool.and_eq_true, beq_iff_eq] at e ⊢
      obtain ⟨⟨e0, e1⟩, e2⟩ := e
      refine ⟨⟨e0, m.special e1⟩, ?_⟩
      unfold PySem.W.instIn at e2 ⊢
      obtain ⟨t, a, b⟩ := Option.bind_eq_some_iff.mp e2
      rw [m.typ a]
      exact m.sub b
    · cases e
end
end NW
namespace NW
open PySem PySem.Spec PyProof.Rows L2
def ReprS (prog : Program) (w : World) (h₀ : Heap) (d bd : Nat) (x : Value) : Prop :=
  ∀ (base : Nat), base + bd ≤ sizeLine → ∀ (A : Around) (E : Value → Shared → Prop) (s : Shared) (Q : Str → Shared → Prop), A.units + d < cLine → (∀ b o, h₀.get? b = some o → s.heap.get? b = some o) →
    (∀ (t : Str) (tk : Nat), t.length ≤ bd → Q t { s with toks := tk }) → wpAny (model prog w) A (pyReprUnder base x) Q E s
section
variable {prog : Program} {w : World} {h₀ : Heap} {d bd : Nat}
theorem piled_bd : ∀ {ts : List Str}, (∀ t, t ∈ ts → t.length ≤ bd) → piled ts ≤ ts.length * (bd + 2)
  | [], _ => by simp [piled]
  | t :: ts, h => by
    rw [piled_cons, List.length_cons, Nat.succ_mul]
    have := piled_bd (ts := ts) fun x hx => h x (by simp [hx])
    have := h t (by simp)
    omega
theorem tupFoldS {A : Around} {E : Value → Shared → Prop} (hu : A.units + d < cLine) : ∀ (l : List Value) (acc : Array Str) (n : Nat) (s : Shared) (Q : (Array Str × Nat) → Shared → Prop), (∀ x, x ∈ l → ReprS prog w h₀ d bd x) → n + l.length * (bd + 2) ≤ sizeLine →
    (∀ b o, h₀.get? b = some o → s.heap.get? b = some o) → (∀ (ts : List Str) (n' tk : Nat), ts.length = l.length → (∀ t, t ∈ ts → t.length ≤ bd) → Q ⟨acc ++ ts.toArray, n'⟩ { s with toks := tk }) →
    wpAny (model prog w) A (forIn l (⟨acc, n⟩ : (Array Str × Nat)) tupBody) Q E s := by
  intro l
  induction l with
  | nil =>
    intro acc n s Q _ _ _ h
    have h0 := h [] n s.toks rfl (by simp)
    simp only [List.forIn_nil]
    exact wpAny_pure (by simpa using h0)
  | cons x l ih =>
    intro acc n s Q hT hn hk0 h
    rw [List.length_cons, Nat.succ_mul] at hn
    rw [List.forIn_cons]
    refine wpAny_bind (wpAny_bind (hT x (by simp) (n + 1) (by omega) _ _ _ _ hu hk0 fun t tk ht => wpAny_pure ?_))
    refine ih (acc.push t) (n + (t.length + 2)) _ Q (fun y hy => hT y (by simp [hy])) (by omega) hk0 fun ts n' tk' hl hts => ?_
    have h1 := h (t :: ts) n' tk' (by simp [hl]) (fun y hy => by
      rcases List.mem_cons.mp hy with e | e
      · rw [e]; exact ht
      · exact hts y e)
    simpa using h1
theorem own_tuple_some {a : Addr} {o : Obj} {items : Array Value} {n : Nat} (ha : h₀.get? a = some o) (hd : o.data = .seq items n) (hT : ∀ x, x ∈ items.toList → ReprS prog w h₀ d bd x)
    {A : Around} {s : Shared} {R : Result → Shared → Prop} {base : Nat} {id : String} {rest : List Value}
    (hcu : (A.under (.builtin id ⟨.ref a :: rest, []⟩)).units = A.units + 1) (hu : A.units + (d + 1) < cLine) (hk0 : ∀ b o, h₀.get? b = some o → s.heap.get? b = some o)
    (hR : ∀ (t : Str) u tk, t.length ≤ items.size * (bd + 2) + 7 → R (.ok (.ret (.str t u))) { s with toks := tk })
    (hsz : base + (items.size * (bd + 2) + 7) ≤ sizeLine) :
    wpOwn (model prog w) A (.builtin id ⟨.ref a :: rest, []⟩) (Builtin.tupleReprAt base ⟨[.ref a], []⟩) (fun fin s' => match fin with | .done f => R (.ok f) s' | .again c' => c'.quiet = true ∧ codeAny (model prog w) A c' R s') (fun e s' => R (.error e) s') s := by
  rw [tuple_repr_tree]
  refine wpOwn_of_wpAny ?_
  refine wpAny_bind (fmt_underWay fun b => ?_)
  cases b with
  | true =>
    refine PySem.W.KFB.if_so rfl ?_
    refine wpAny_bind (wpAny_rule ?_)
    refine wpAny_bind (wpAny_mkStr (wpAny_pure ?_) (by decide +kernel))
    exact hR "(...)" _ _ (Nat.le_trans fmt_way (by omega))
  | false =>
    refine PySem.W.KFB.if_not rfl ?_
    unfold tupleReprRest Builtin.Tuple.tupleItemsOf
    refine wpAny_bind (wpAny_bind (wpAny_seqItems (hk0 _ _ ha) hd (wpAny_pure ?_)))
    rw [← Array.forIn_toList]
    have hl : items.toList.length = items.size := Array.length_toList
    refine wpAny_bind (tupFoldS (by rw [hcu]; omega) _ _ _ _ _ hT (by rw [hl]; omega) hk0 fun ts n' tk hts hb => ?_)
    rw [hl] at hts
    have h1 := fmt_text ts
    have h2 := piled_bd hb
    rw [hts] at h2
    have h3 : (tupleText ts).length ≤ items.size * (bd + 2) + 7 := by omega
    refine wpAny_bind (wpAny_mkStr (wpAny_pure ?_) (by
      have : (tupleText ts).length ≤ sizeLine := by omega
      simpa [tupleText, hts] using this))
    have h4 := hR (tupleText ts) tk (tk + 1) h3
    simpa [tupleText, hts] using h4
theorem call_under_some {a : Addr} {o : Obj} {items : Array Value} {n base : Nat} (ha : h₀.get? a = some o) (hc : o.cls = .type "tuple") (hd : o.data = .seq items n) (hT : ∀ x, x ∈ items.toList → ReprS prog w h₀ d bd x)
    {A : Around} {E : Value → Shared → Prop} {s : Shared} {Q : Value → Shared → Prop} (hu : A.units + (d + 1) < cLine) (hk0 : ∀ b o, h₀.get? b = some o → s.heap.get? b = some o)
    (hQ : ∀ (t : Str) u tk, t.length ≤ items.size * (bd + 2) + 7 → Q (.str t u) { s with toks := tk }) (hsz : base + (items.size * (bd + 2) + 7) ≤ sizeLine) :
    wpAny (model prog w) A (call (.builtin "tuple.__repr__.under") [.ref a, rawInt base]) Q E s :=
  call_twin_own (F.quiet_tuple_repr_under _) F.entry_tuple_repr_under F.check_tuple_repr_under ⟨o, hk0 _ _ ha, hc⟩ F.slot_tuple_repr (F.args_tuple_repr_1 _)
    (own_tuple_some (R := callEnd Q E) ha hd hT (units_under_tuple_repr_under _ _) hu hk0 hQ hsz)
theorem ReprS.tuple {a : Addr} {o : Obj} {items : Array Value} {n : Nat} (ha : h₀.get? a = some o) (hc : o.cls = .type "tuple") (hd : o.data = .seq items n) (hT : ∀ x, x ∈ items.toList → ReprS prog w h₀ d bd x) :
    ReprS prog w h₀ (d + 1) (items.size * (bd + 2) + 7) (.ref a) := by
  intro base hb A E s Q hu hk0 hQ
  refine wpAny_pyReprUnder_ref (by omega) ?_
  refine wpAny_pyReprObjUnder_twin (twin := "tuple.__repr__.under") ⟨o, hk0 _ _ ha, hc⟩ F.slot_tuple_repr rfl (by omega) ?_
  exact call_under_some ha hc hd hT hu hk0 (fun t u tk ht => ⟨⟨_, _, rfl⟩, _, _, rfl, hQ t tk ht⟩) hb
theorem ReprS.up {d' bd' : Nat} {x : Value} (h : ReprS prog w h₀ d bd x) (hd : d ≤ d') (hb : bd ≤ bd') : ReprS prog w h₀ d' bd' x := fun base hz A E s Q hu hk hQ => h base (by omega) A E s Q (by omega) hk fun t tk ht => hQ t tk (by omega)
end
section
variable {X : Cx} {e : Expr} {pos p p2 pc : Pos} {te : TE} {me : ME} {x : Str}
end
end NW
namespace NW
open PySem PySem.Spec PyProof.Rows L2
section
variable {t : Str} {r i : Int}
end
structure TrC (K : PySem.W.Frag) (C : Addr) : Prop where
  cl : Cls K C
  nt : NoAttr K C "text"
  nr : NoAttr K C "row"
  np : NoAttr K C "place"
def Gro (p : Addr) (H H' : Hp) : Prop := ∀ b o, b ≠ p → H b = some o → H' b = some o
theorem Gro.refl {p : Addr} {H : Hp} : Gro p H H := fun _ _ _ h => h
theorem Gro.trans {p : Addr} {H H' H'' : Hp} (a : Gro p H H') (b : Gro p H' H'') : Gro p H H'' := fun c o n e => b c o n (a c o n e)
theorem Gro.upd {p : Addr} {H : Hp} {o : HO} : Gro p H (upd H p o) := fun b u n e => by rw [upd_ne n]; exact e
theorem Gro.new {p a : Addr} {H : Hp} {o : HO} (h : H a = none) : Gro p H (L2.upd H a o) := fun b u n e => by rw [upd_ne (ne_of_none e h)]; exact e
theorem Gro.keep {p : Addr} {O0 : Addr → Prop} {H H' : Hp} (hp : O0 p) (g : Gro p H H') : Keep O0 H O0 H' := fun b o e n => ⟨g b o (fun z => n (z ▸ hp)) e, n⟩
theorem Gro.noTup {p C dx : Addr} {fs : List (Str × V)} {O0 : Addr → Prop} {H H' : Hp} (g : Gro p H H') (hp : H' p = some (.ins C dx fs)) (h : NoTup H O0) : NoTup H' O0 := fun a ha => by
  obtain ⟨h1, h2⟩ := h a ha
  cases e : H a with
  | none => exact absurd e h1
  | some o =>
    by_cases ap : a = p
    · subst ap
      refine ⟨by rw [hp]; simp, fun vs z => ?_⟩
      rcases z with z | ⟨u, z⟩ <;> rw [hp] at z <;> cases z
    · have e' := g a o ap e
      refine ⟨by rw [e']; simp, fun vs z => h2 vs ?_⟩
      rcases z with z | ⟨u, z⟩
      · rw [e'] at z; cases z; exact .inl e
      · rw [e'] at z; cases z; exact .inr ⟨u, e⟩
abbrev GT := List PyData → Str → Nat → Option (PyData × Nat)
end NW
namespace NW
open PySem PySem.Spec PyProof.Rows L2
abbrev NT := List (NestedKey × Addr × V)
abbrev NkR : NT → List (NestedKey × Addr × Value) → Prop := Paired fun p q => p.1 = q.1 ∧ p.2.1 = q.2.1 ∧ RelV p.2.2 q.2.2
def atN (kvs : NT) (k : NestedKey) : Option V := (kvs.find? fun x => decide (x.1 = k)).map (·.2.2)
def putN (kvs : NT) (k : NestedKey) (b : Addr) (v : V) : NT := if (atN kvs k).isSome = true then kvs.map (fun x => if x.1 = k then (x.1, x.2.1, v) else x) else kvs ++ [(k, b, v)]
def nkF (P : Program) (w : World) (a : Addr) (kvs : NT) : Heap → Prop := fun h => kvs.length ≤ sizeLine ∧ (a == sysModules) = false ∧ ∃ xs, NkR kvs xs ∧
  ∃ o es ep, h.get? a = some o ∧ o.ExactDict ∧ o.data = .dict es ep ∧ es.toList = xs.map (entryOfKey (nestedKind P w)) ∧ (xs.map (·.1)).Nodup
def NkO (P : Program) (w : World) (a : Addr) (kvs : NT) : HO := .ext (nkF P w a kvs)
mutual
def keyN : PyData → Option NestedKey
  | .int i => some (.num i)
  | .str x => some (.text x)
  | .tuple ds => (keyNs ds).map .tup
  | _ => none
def keyNs : List PyData → Option (List NestedKey)
  | [] => some []
  | d :: ds => match keyN d, keyNs ds with
    | some k, some ks => some (k :: ks)
    | _, _ => none
end
mutual
theorem keyN_inj : ∀ (d e : PyData) (k : NestedKey), keyN d = some k → keyN e = some k → d = e
  | .int i, e, k, h1, h2 => by
    simp only [keyN, Option.some.injEq] at h1
    subst h1
    cases e <;> simp [keyN] at h2
    rw [h2]
  | .str x, e, k, h1, h2 => by
    simp only [keyN, Option.some.injEq] at h1
    subst h1
    cases e <;> simp [keyN] at h2
    rw [h2]
  | .tuple ds, e, k, h1, h2 => by
    rw [keyN, Option.map_eq_some_iff] at h1
    obtain ⟨ks, h1, rfl⟩ := h1
    cases e <;> simp [keyN] at h2
    rw [keyNs_inj ds _ ks h1 h2]
  | .none, _, _, h1, _ => by simp [keyN] at h1
  | .bool _, _, _, h1, _ => by simp [keyN] at h1
  | .list _, _, _, h1, _ => by simp [keyN] at h1
  | .dict _, _, _, h1, _ => by simp [keyN] at h1
theorem keyNs_inj : ∀ (ds es : List PyData) (ks : List NestedKey), keyNs ds = some ks → keyNs es = some ks → ds = es
  | [], es, ks, h1, h2 => by
    simp only [keyNs, Option.some.injEq] at h1
    subst h1
    cases es with
    | nil => rfl
    | cons e es =>
      rw [keyNs] at h2
      split at h2 <;> simp at h2
  | d :: ds, es, ks, h1, h2 => by
    rw [keyNs] at h1
    split at h1
    · rename_i k ks' e1 e2
      cases h1
      cases es with
      | nil => simp [keyNs] at h2
      | cons e es =>
        rw [keyNs] at h2
        split at h2
        · rename_i k2 ks2 e3 e4
          cases h2
          rw [keyN_inj d e _ e1 e3, keyNs_inj ds es _ e2 e4]
        · cases h2
    · cases h1
end
section
variable {P : Program} {w : World} {K : PySem.W.Frag} {B : Addr → Prop} {H : Hp} {h : Heap} {a : Addr} {kvs : NT}
mutual
theorem nk_is (hok : HOk P w H h) (KX : K.In h) : ∀ (d : PyData) (k : NestedKey) (v : V) (u : Value), keyN d = some k → RT K B H v d → RelV v u → NestedIs h k u
  | .int i, k, v, u, e, r, rv => by
    simp only [keyN, Option.some.injEq] at e
    subst e
    cases r
    obtain ⟨t, rfl⟩ := rv
    exact .int i t
  | .str x, k, v, u, e, r, rv => by
    simp only [keyN, Option.some.injEq] at e
    subst e
    cases r
    obtain ⟨t, rfl⟩ := rv
    exact .text x t
  | .tuple ds, k, v, u, e, r, rv => by
    rw [keyN, Option.map_eq_some_iff] at e
    obtain ⟨ks, e, rfl⟩ := e
    cases r with
    | tup hs ha =>
      obtain rfl : u = Value.ref _ := rv
      obtain ⟨its, o, n, rvs, ho, hc, hd⟩ := sqT_at hok KX hs.q
      exact .tup ho hc hd (by simpa using nk_all hok KX ds ks _ its e ha rvs)
  | .none, _, _, _, e, _, _ => by simp [keyN] at e
  | .bool _, _, _, _, e, _, _ => by simp [keyN] at e
  | .list _, _, _, _, e, _, _ => by simp [keyN] at e
  | .dict _, _, _, _, e, _, _ => by simp [keyN] at e
theorem nk_all (hok : HOk P w H h) (KX : K.In h) : ∀ (ds : List PyData) (ks : List NestedKey) (vs : List V) (us : List Value), keyNs ds = some ks → RTs K B H vs ds → Vals vs us → NestedAll h ks us
  | [], ks, vs, us, e, r, rv => by
    simp only [keyNs, Option.some.injEq] at e
    subst e
    cases r
    cases rv
    exact .nil
  | d :: ds, ks, vs, us, e, r, rv => by
    rw [keyNs] at e
    split at e
    · rename_i k ks' e1 e2
      cases e
      cases r with
      | cons r1 r2 =>
        cases rv with
        | cons v1 v2 => exact .cons (nk_is hok KX d _ _ _ e1 r1 v1) (nk_all hok KX ds _ _ _ e2 r2 v2)
    · cases e
end
def KeyAt (K : PySem.W.Frag) (H : Hp) (k : NestedKey) (b : Addr) : Prop := k.depth ≤ 8 ∧ (∃ ks, k = .tup ks) ∧ ∃ (B : Addr → Prop) (d : PyData), keyN d = some k ∧ RT K B H (.ref b) d
theorem KeyAt.is {k : NestedKey} {b : Addr} (x : KeyAt K H k b) (hok : HOk P w H h) (KX : K.In h) : (nestedKind P w).is h k b := by
  obtain ⟨h1, _, B, d, h2, h3⟩ := x
  exact ⟨nk_is hok KX d k _ _ h2 h3 rfl, h1⟩
structure NkD (K : PySem.W.Frag) (P : Program) (w : World) (H : Hp) (a : Addr) (kvs : NT) : Prop where
  here : H a = some (NkO P w a kvs)
  keys : ∀ p, p ∈ kvs → KeyAt K H p.1 p.2.1
theorem NkR.at {xs : List (NestedKey × Addr × Value)} (r : NkR kvs xs) (k : NestedKey) : RelO (atN kvs k) ((atKey xs k).map (·.2)) := by
  induction r with
  | nil => exact True.intro
  | @cons p q ps qs hq t ih =>
    by_cases e : p.1 = k
    · have e' : q.1 = k := hq.1.symm.trans e
      simp only [atN, atKey, List.find?_cons, e, e', decide_true, Option.map_some]
      exact hq.2.2
    · have e' : ¬ q.1 = k := fun z => e (hq.1.trans z)
      simp only [atN, atKey, List.find?_cons, decide_eq_false e, decide_eq_false e']
      exact ih
theorem NkR.snoc {xs : List (NestedKey × Addr × Value)} (r : NkR kvs xs) {k : NestedKey} {b : Addr} {v : V} {u : Value} (rv : RelV v u) : NkR (kvs ++ [(k, b, v)]) (xs ++ [(k, b, u)]) := Paired.snoc r ⟨rfl, rfl, rv⟩
theorem NkR.repl {xs : List (NestedKey × Addr × Value)} (r : NkR kvs xs) {k : NestedKey} {v : V} {u : Value} (rv : RelV v u) : NkR (kvs.map fun x => if x.1 = k then (x.1, x.2.1, v) else x) (xs.map (putAt k u)) := by
  induction r with
  | nil => exact .nil
  | @cons p q ps qs hq t ih =>
    rw [List.map_cons, List.map_cons]
    refine .cons ?_ ih
    unfold putAt
    by_cases e : p.1 = k
    · rw [if_pos e, if_pos (hq.1.symm.trans e)]
      exact ⟨hq.1, hq.2.1, rv⟩
    · rw [if_neg e, if_neg (fun z => e (hq.1.trans z))]
      exact hq
theorem NkR.put {xs : List (NestedKey × Addr × Value)} (r : NkR kvs xs) {k : NestedKey} {b : Addr} {v : V} {u : Value} (rv : RelV v u) : NkR (putN kvs k b v) (storedH xs k b u) := by
  unfold putN storedH
  have e : (atN kvs k).isSome = (atKey xs k).isSome := by
    rw [(r.at k).isSome_eq, Option.isSome_map]
  rw [e]
  by_cases c : (atKey xs k).isSome = true
  · rw [if_pos c, if_pos c]; exact r.repl rv
  · rw [if_neg c, if_neg c]; exact r.snoc rv
theorem putN_len {k : NestedKey} {b : Addr} {v : V} : (putN kvs k b v).length ≤ kvs.length + 1 := by
  unfold putN
  split
  · rw [List.length_map]; omega
  · simp
theorem nkO_ok {H' : Hp} {h' : Heap} (x : nkF P w a kvs h') : ObjOk P w H' h' a (NkO P w a kvs) := by
  have x' := x
  obtain ⟨_, _, _, _, o, _, _, e, _⟩ := x'
  refine ⟨x, ⟨o, e⟩, fun h1 h2 y k => ?_⟩
  obtain ⟨z1, z2, xs, r, o, es, ep, e, c⟩ := y
  exact ⟨z1, z2, xs, r, o, es, ep, k _ e, c⟩
theorem NkD.of (n : NkD K P w H a kvs) (hok : HOk P w H h) (KX : K.In h) : kvs.length ≤ sizeLine ∧ (a == sysModules) = false ∧ ∃ xs, NkR kvs xs ∧ h.DictOfH (nestedKind P w) a xs := by
  have y : ObjOk P w H h a (NkO P w a kvs) := hok a _ n.here
  obtain ⟨⟨z1, z2, xs, r, o, es, ep, e, c1, c2, c3, c4⟩, _, _⟩ := y
  refine ⟨z1, z2, xs, r, o, es, ep, e, c1, c2, c3, fun x hx => ?_, c4⟩
  have all : ∀ {l : NT} {m : List (NestedKey × Addr × Value)}, NkR l m → (∀ p, p ∈ l → KeyAt K H p.1 p.2.1) → ∀ x ∈ m, (nestedKind P w).is h x.1 x.2.1 := by
    intro l m q
    induction q with
    | nil => intro _ x hx; exact nomatch hx
    | @cons p q ps qs hq t ih =>
      intro hk x hx
      rcases List.mem_cons.mp hx with e | hx
      · subst e
        have := (hk p (by simp)).is hok KX
        rw [← hq.1, ← hq.2.1]
        exact this
      · exact ih (fun p hp => hk p (by simp [hp])) x hx
  exact all r n.keys x hx
end
section
variable {X : Cx} {pins : List (Addr × Obj)} {σ : L2.St} {H : Hp} {s : Shared} {a b : Addr} {kvs : NT} {k : NestedKey} {v : V} {r : Value} {A : Around} {E : Value → Shared → Prop}
theorem nk_room (hu : A.units + 9 < cLine) : (nestedKind X.prog X.w).room A.in1 := by show A.units + 1 + 8 < cLine; omega
theorem nk_getItem {Q : Value → Shared → Prop} (hu : A.units + 9 < cLine) (I : Inv X pins σ H s) (n : NkD X.K X.prog X.w H a kvs) (kb : KeyAt X.K H k b) (e : atN kvs k = some v) (h : ∀ w' s', Inv X pins σ H s' → RelV v w' → Q w' s') :
    wpAny (model X.prog X.w) A (getItem (.ref a) (.ref b)) Q E s := by
  obtain ⟨z, hd, xs, rel, dd⟩ := n.of I.hok I.kIn
  obtain ⟨w', hw, rw'⟩ := RelO.some_of (v := v) (o := (atKey xs k).map (·.2)) (by rw [← e]; exact rel.at k)
  obtain ⟨p, hp, hp2⟩ := Option.map_eq_some_iff.mp hw
  refine wpAny_getItem_heap (nk_room hu) (kb.is I.hok I.kIn) dd hp ?_
  rw [hp2]
  exact h w' _ (I.tok _) rw'
theorem nk_notIn {Q : Value → Shared → Prop} (hu : A.units + 9 < cLine) (I : Inv X pins σ H s) (n : NkD X.K X.prog X.w H a kvs) (kb : KeyAt X.K H k b) (h : ∀ s', Inv X pins σ H s' → Q (.bool (!(atN kvs k).isSome)) s') :
    wpAny (model X.prog X.w) A (compareOp .NotIn (.ref b) (.ref a)) Q E s := by
  obtain ⟨z, hd, xs, rel, dd⟩ := n.of I.hok I.kIn
  refine wpAny_notIn_heap (nk_room hu) (kb.is I.hok I.kIn) hd dd ?_
  have q := (rel.at k).isSome_eq
  rw [Option.isSome_map] at q
  rw [← q]
  exact h _ (I.tok _)
theorem nk_write {h' : Heap} {t' : Nat} (I : Inv X pins σ H s) (n : NkD X.K X.prog X.w H a kvs) (hs : Heap.SameBut a s.heap h') {kvs' : NT} (new : nkF X.prog X.w a kvs' h') :
    Inv X pins σ (upd H a (NkO X.prog X.w a kvs')) { s with heap := h', toks := t' } := by
  have new' := new
  obtain ⟨_, _, _, _, o, _, _, e, _⟩ := new'
  exact d_write I (by rw [n.here]; exact True.intro) hs ⟨o, e⟩ (nkO_ok new)
theorem nk_setItem {u : V} {Q : Unit → Shared → Prop} (hu : A.units + 9 < cLine) (I : Inv X pins σ H s) (n : NkD X.K X.prog X.w H a kvs) (kb : KeyAt X.K H k b) (l : kvs.length < sizeLine) (rv : RelV u r) (h : ∀ s', Inv X pins σ (upd H a (NkO X.prog X.w a (putN kvs k b u))) s' → Q () s') :
    wpAny (model X.prog X.w) A (setItem (.ref a) (.ref b) r) Q E s := by
  obtain ⟨z, hd, xs, rel, dd⟩ := n.of I.hok I.kIn
  have hz : xs.length ≤ sizeLine := by rw [← Paired.length rel]; exact z
  have hl : (putN kvs k b u).length ≤ sizeLine := by have := putN_len (kvs := kvs) (k := k) (b := b) (v := u); omega
  refine wpAny_setItem_heap (hsz := hz) (nk_room hu) (kb.is I.hok I.kIn) dd fun h' dd' hs => h _ ?_
  obtain ⟨q, es, ep, hq, h2, h3, h4, _, h5⟩ := dd'
  exact nk_write I n hs ⟨hl, hd, _, rel.put rv, q, es, ep, hq, h2, h3, h4, h5⟩
theorem nk_typeIs (I : Inv X pins σ H s) (n : NkD X.K X.prog X.w H a kvs) : s.TypeIs (.ref a) "dict" := by
  obtain ⟨_, _, xs, _, dd⟩ := n.of I.hok I.kIn
  exact dd.typeIs
theorem nk_empty {P : Program} {w : World} {h : Heap} (hb : sysModules < h.objs.size) : nkF P w h.objs.size [] (h.push { cls := .type "dict", data := .dict #[] }) :=
  ⟨Nat.zero_le _, beq_eq_false_iff_ne.mpr (Ne.symm (Nat.ne_of_lt hb)), [], .nil, _, #[], 0, Heap.get?_push_size _ rfl, ⟨rfl, rfl, rfl⟩, rfl, rfl, List.nodup_nil⟩
end
section
variable (K : PySem.W.Frag) (P : Program) (w : World)
def tNGet (td ty : TE) : TE := fun σ H Q => td σ H fun x H1 => ty σ H1 fun y H2 => ∃ a b kvs k v, x = .ref a ∧ y = .ref b ∧ NkD K P w H2 a kvs ∧ KeyAt K H2 k b ∧ atN kvs k = some v ∧ Q v H2
def sNPut (td ty tv : TE) : TS := fun D σ H => tv σ H fun v H1 => td σ H1 fun x H2 => ty σ H2 fun y H3 => ∃ a b kvs k, x = .ref a ∧ y = .ref b ∧ NkD K P w H3 a kvs ∧ KeyAt K H3 k b ∧ kvs.length < sizeLine ∧ D.nx σ (upd H3 a (NkO P w a (putN kvs k b v)))
def tNNew : TE := fun _ H Q => ∀ p, H p = none → Q (.ref p) (upd H p (NkO P w p []))
end
section
variable {X : Cx} {o i e value : Expr} {pos pos' tpos : Pos} {td ty tv tk : TE}
theorem pe_nget (hu : X.A.units + 9 < cLine) (ho : PE X o td) (hi : PE X i ty) (hs : NoSl i) : PE X (.Subscript o i pos) (tNGet X.K X.prog X.w td ty) := by
  refine ⟨fun pins s σ H Q I h => ?_⟩
  refine subD_of PySem.F.slot_dict_getitem.lookup hs (thn (ho.run pins s σ H _ I h) fun u s1 ⟨x, H1, I1, rx, q1⟩ => thn (hi.run pins s1 σ H1 _ I1 q1) fun iv s2 ⟨y, H2, I2, ry, a, b, kvs, k, v, ex, ey, n, kb, g, q2⟩ => ?_)
  subst ex; subst ey
  obtain rfl : u = Value.ref a := rx
  obtain rfl : iv = Value.ref b := ry
  exact ⟨nk_typeIs I2 n, nk_getItem hu I2 n kb g fun w' s3 I3 rw' => ⟨v, H2, I3, rw', q2⟩⟩
theorem ps_nput (hu : X.A.units + 9 < cLine) (ho : PE X o td) (hi : PE X i ty) (hv : PE X value tv) (hs : swapsWith value (some (.Subscript o i pos')) pos.line X.env = pure false) :
    PS X (.Assign [.Subscript o i pos'] value pos) (sNPut X.K X.prog X.w td ty tv) := by
  refine ⟨fun pins s σ H D I h => ?_⟩
  refine wpAny_Assign_Subscript (thn (hv.run pins s σ H _ I h) fun r s1 ⟨v, H1, I1, rv, q1⟩ => thn (ho.run pins s1 σ H1 _ I1 q1) fun u s2 ⟨x, H2, I2, rx, q2⟩ => thn (hi.run pins s2 σ H2 _ I2 q2) fun iv s3 ⟨y, H3, I3, ry, a, b, kvs, k, ex, ey, n, kb, l, q3⟩ => ?_) hs
  subst ex; subst ey
  obtain rfl : u = Value.ref a := rx
  obtain rfl : iv = Value.ref b := ry
  exact nk_setItem hu I3 n kb l rv fun s4 I4 => ⟨σ, _, I4, q3⟩
theorem pe_nnew : PE X (.Dict [] [] pos) (tNNew X.prog X.w) := ⟨fun pins s σ H Q I h =>
  wpAny_Dict_empty ⟨.ref s.heap.objs.size, _, I.laid (a := s.heap.objs.size) (o := NkO X.prog X.w s.heap.objs.size []) (t' := s.toks) (fun _ _ q => Heap.get?_push_of_some _ q) (Nat.le_refl _) (nkO_ok (nk_empty I.big)), rfl, h _ (I.hok.fresh (Nat.le_refl _))⟩⟩
end
def rNIn (K : PySem.W.Frag) (P : Program) (w : World) (neg : Bool) : R2 := fun y x H Q => ∃ a b kvs k, x = .ref a ∧ y = .ref b ∧ NkD K P w H a kvs ∧ KeyAt K H k b ∧ Q (.bl (if neg = true then !(atN kvs k).isSome else (atN kvs k).isSome)) H
theorem op_nnotin {X : Cx} (hu : X.A.units + 9 < cLine) : OpR X (compareOp .NotIn) (rNIn X.K X.prog X.w true) := by
  intro pins s σ H y x iv u Q I ry rx h
  obtain ⟨a, b, kvs, k, rfl, rfl, n, kb, q⟩ := h
  obtain rfl : u = Value.ref a := rx
  obtain rfl : iv = Value.ref b := ry
  exact nk_notIn hu I n kb fun s3 I3 => ⟨.bl (!(atN kvs k).isSome), H, I3, rfl, q⟩
section
variable {X : Cx} {a b o i value : Expr} {pos pos' : Pos} {ta tb to ti tv : TE} {ma mb mo mi mv : ME}
end
end NW
namespace NW
open PySem PySem.Spec PyProof.Rows L2
def lkR (pl : List (PyData × List Int)) (d : PyData) : Option (List Int) := (pl.find? fun e => decide (keyN e.1 = keyN d)).map (·.2)
def keyOk (d : PyData) : Bool := match keyN d with
  | some (.tup ks) => decide ((NestedKey.tup ks).depth ≤ 8)
  | _ => false
structure RoS where
  pl : List (PyData × List Int)
  ws : List PyData
def noneD : PyData → Bool
  | .none => true
  | _ => false
def rIn (mE : List PyData → Rp) (here : PyData) : List Nat → RoS → Option RoS
  | [], s => some s
  | i :: is, s => match mE [here, .int (i : Nat)] with
    | .ok d _ => if noneD d = true then rIn mE here is s else if keyOk d = true then
        (if (lkR s.pl d).isSome = true then rIn mE here is s else match lkR s.pl here with
          | some p => if p.length ≤ 1000 ∧ s.pl.length ≤ 1000 ∧ s.ws.length ≤ 1000 then rIn mE here is ⟨s.pl ++ [(d, p ++ [(i : Int)])], s.ws ++ [d]⟩ else none
          | none => none)
        else none
    | _ => none
def RB (O0 : Addr → Prop) (p q : Addr) : Addr → Prop := fun a => O0 a ∨ a = p ∨ a = q
section
variable {K : PySem.W.Frag} {P : Program} {w : World} {H0 H H' : Hp} {O0 : Addr → Prop} {p q a b : Addr} {kvs : NT} {pl : List (PyData × List Int)} {ws : List PyData} {d : PyData}
def KR (K : PySem.W.Frag) (B : Addr → Prop) (H : Hp) : NT → List (PyData × List Int) → Prop := Paired fun kv e => keyOk e.1 = true ∧ keyN e.1 = some kv.1 ∧ RT K B H (.ref kv.2.1) e.1 ∧ RT K B H kv.2.2 (.list (e.2.map .int))
structure RdI (K : PySem.W.Frag) (P : Program) (w : World) (H0 : Hp) (O0 : Addr → Prop) (p q : Addr) (H : Hp) (pl : List (PyData × List Int)) (ws : List PyData) : Prop where
  old : ∀ b o, H0 b = some o → H b = some o
  np : H0 p = none
  nq : H0 q = none
  ne : p ≠ q
  dict : ∃ kvs : NT, H p = some (NkO P w p kvs) ∧ KR K (RB O0 p q) H kvs pl
  list : ∃ vs, H q = some (.lst vs) ∧ RTs K (RB O0 p q) H vs ws
theorem keyOk_at {B : Addr → Prop} (h : keyOk d = true) (r : RT K B H (.ref b) d) : ∃ k, keyN d = some k ∧ KeyAt K H k b := by
  unfold keyOk at h
  split at h
  · rename_i ks e
    exact ⟨_, e, of_decide_eq_true h, ⟨ks, rfl⟩, B, d, e, r⟩
  · cases h
theorem KR.nk {B : Addr → Prop} (r : KR K B H kvs pl) (h : H p = some (NkO P w p kvs)) : NkD K P w H p kvs := by
  refine ⟨h, fun x hx => ?_⟩
  have all : ∀ {l : NT} {m : List (PyData × List Int)}, KR K B H l m → ∀ x, x ∈ l → KeyAt K H x.1 x.2.1 := by
    intro l m r
    induction r with
    | nil => intro x hx; exact nomatch hx
    | @cons y e ys es hy t ih =>
      intro x hx
      rcases List.mem_cons.mp hx with rfl | hx
      · obtain ⟨k, e1, e2⟩ := keyOk_at hy.1 hy.2.2.1
        rw [hy.2.1] at e1
        cases e1
        exact e2
      · exact ih x hx
  exact all r x hx
theorem KR.at {B : Addr → Prop} {k : NestedKey} (r : KR K B H kvs pl) (e : keyN d = some k) : (atN kvs k = none ∧ lkR pl d = none) ∨ ∃ v p, atN kvs k = some v ∧ lkR pl d = some p ∧ RT K B H v (.list (p.map .int)) := by
  induction r with
  | nil => exact .inl ⟨rfl, rfl⟩
  | @cons y x ys xs hy t ih =>
    by_cases c : y.1 = k
    · have c' : keyN x.1 = keyN d := by rw [hy.2.1, e, c]
      refine .inr ⟨y.2.2, x.2, ?_, ?_, hy.2.2.2⟩
      · simp [atN, List.find?_cons, c]
      · simp [lkR, List.find?_cons, c']
    · have c' : ¬ keyN x.1 = keyN d := fun z => by rw [hy.2.1, e] at z; exact c (Option.some.inj z)
      have e1 : atN (y :: ys) k = atN ys k := by simp [atN, List.find?_cons, c]
      have e2 : lkR (x :: xs) d = lkR xs d := by simp [lkR, List.find?_cons, c']
      rw [e1, e2]
      exact ih
theorem KR.mono {B B' : Addr → Prop} (k : Keep B H B' H') (r : KR K B H kvs pl) : KR K B' H' kvs pl := Paired.mapP r fun x e h => ⟨h.1, h.2.1, RT.mono k _ _ h.2.2.1, RT.mono k _ _ h.2.2.2⟩
theorem RdI.grow (h : RdI K P w H0 O0 p q H pl ws) (g : ∀ b o, H b = some o → H' b = some o) : RdI K P w H0 O0 p q H' pl ws := by
  have kp : Keep (RB O0 p q) H (RB O0 p q) H' := fun b o e n => ⟨g b o e, n⟩
  obtain ⟨kvs, h1, h2⟩ := h.dict
  obtain ⟨vs, h3, h4⟩ := h.list
  exact ⟨fun b o e => g b o (h.old b o e), h.np, h.nq, h.ne, ⟨kvs, g _ _ h1, h2.mono kp⟩, ⟨vs, g _ _ h3, RTs.mono kp _ _ h4⟩⟩
theorem keep_updP {o : HO} : Keep (RB O0 p q) H (RB O0 p q) (upd H p o) := fun b o e n => ⟨by rw [upd_ne (fun z => n (.inr (.inl z)))]; exact e, n⟩
theorem keep_updQ {o : HO} : Keep (RB O0 p q) H (RB O0 p q) (upd H q o) := fun b o e n => ⟨by rw [upd_ne (fun z => n (.inr (.inr z)))]; exact e, n⟩
theorem RdI.noTup (h : RdI K P w H0 O0 p q H pl ws) (hO : NoTup H0 O0) : NoTup H (RB O0 p q) := fun a ha => by
  obtain ⟨kvs, h1, _⟩ := h.dict
  obtain ⟨vs, h3, _⟩ := h.list
  rcases ha with ha | rfl | rfl
  · obtain ⟨z1, z2⟩ := hO a ha
    cases e : H0 a with
    | none => exact absurd e z1
    | some o =>
      have e' := h.old a o e
      refine ⟨by rw [e']; simp, fun xs r => ?_⟩
      rcases r with r | ⟨ob, r⟩
      · rw [e'] at r; exact z2 xs (.inl (by rw [e, ← r]))
      · rw [e'] at r; exact z2 xs (.inr ⟨ob, by rw [e, ← r]⟩)
  · refine ⟨by rw [h1]; simp, fun xs r => ?_⟩
    rcases r with r | ⟨ob, r⟩ <;> rw [h1] at r <;> cases r
  · refine ⟨by rw [h3]; simp, fun xs r => ?_⟩
    rcases r with r | ⟨ob, r⟩ <;> rw [h3] at r <;> cases r
end
theorem ifT {b : Bool} {A B : Prop} (hb : b = true) (h : A) : if b = true then A else B := by rw [if_pos hb]; exact h
theorem ifF {b : Bool} {A B : Prop} (hb : b = false) (h : B) : if b = true then A else B := by rw [hb]; exact h
section
variable {K : PySem.W.Frag} {P : Program} {w : World} {H0 H : Hp} {O0 : Addr → Prop} {p q : Addr}
theorem KR.len {B : Addr → Prop} {kvs : NT} {pl : List (PyData × List Int)} (r : KR K B H kvs pl) : kvs.length = pl.length := Paired.length r
theorem RdI.push {pl : List (PyData × List Int)} {ws : List PyData} (h : RdI K P w H0 O0 p q H pl ws) {kvs : NT} (hd : H p = some (NkO P w p kvs)) (kr : KR K (RB O0 p q) H kvs pl) {b : Addr} {d : PyData} {k : NestedKey} (hk : keyOk d = true) (ek : keyN d = some k) (r : RT K (RB O0 p q) H (.ref b) d)
    (hn : atN kvs k = none) {v : V} {pth : List Int} (rv : RT K (RB O0 p q) H v (.list (pth.map .int))) {vs : List V} (hq : H q = some (.lst vs)) (rs : RTs K (RB O0 p q) H vs ws) :
    RdI K P w H0 O0 p q (upd (upd H p (NkO P w p (putN kvs k b v))) q (.lst (vs ++ [.ref b]))) (pl ++ [(d, pth)]) (ws ++ [d]) := by
  have e : putN kvs k b v = kvs ++ [(k, b, v)] := by unfold putN; rw [hn]; rfl
  have k1 : Keep (RB O0 p q) H (RB O0 p q) (upd (upd H p (NkO P w p (putN kvs k b v))) q (.lst (vs ++ [.ref b]))) := fun c o ec n => by
    have z1 := keep_updP (o := NkO P w p (putN kvs k b v)) c o ec n
    exact keep_updQ c o z1.1 n
  refine ⟨fun c o ec => ?_, h.np, h.nq, h.ne, ⟨kvs ++ [(k, b, v)], ?_, ?_⟩, ⟨vs ++ [.ref b], upd_same, ?_⟩⟩
  · rw [upd_ne (fun z => by rw [z, h.nq] at ec; cases ec), upd_ne (fun z => by rw [z, h.np] at ec; cases ec)]
    exact h.old c o ec
  · rw [upd_ne h.ne, upd_same, e]
  · exact Paired.snoc (kr.mono k1) ⟨hk, ek, RT.mono k1 _ _ r, RT.mono k1 _ _ rv⟩
  · exact RTs.snoc (RTs.mono k1 _ _ rs) (RT.mono k1 _ _ r)
end
end NW
namespace NW
open PySem PySem.Spec PyProof.Rows L2
abbrev EvR := Option (PyData × Nat)
def okD (r : Rp) : Option PyData := match r with
  | .ok d _ => some d
  | _ => none
def frD : PyData → Bool
  | .tuple [.int _, .int _] => true
  | _ => false
abbrev oneD : PyData := .tuple [.int 1, .int 1]
def evIt (f : PyData → EvR) : Nat → PyData → Nat → EvR
  | 0, r, c => some (r, c)
  | k + 1, r, c => match f r with
    | some z => evIt f k z.1 (c + z.2)
    | none => none
def evP (fM : PyData → PyData → Option PyData) (p : PyData) : Nat → PyData → Option PyData
  | 0, a => some a
  | k + 1, a => match fM a p with
    | some b => evP fM p k b
    | none => none
structure Ops where
  A : PyData → PyData → Option PyData
  S : PyData → PyData → Option PyData
  M : PyData → PyData → Option PyData
def evB (F : Ops) (f : PyData → EvR) (s : Str) (as : List PyData) : EvR :=
  if s = "power" then (match as with
    | [a, .int k] => if 0 ≤ k ∧ k ≤ 1000 then (match f a with
      | some z => (evP F.M z.1 k.toNat oneD).map fun y => (y, z.2)
      | none => none) else none
    | _ => none)
  else (match as with
    | [a, b] => (match f a with
      | some z => (match f b with
        | some y => ((if s = "plus" then F.A z.1 y.1 else if s = "minus" then F.S z.1 y.1 else if s = "times" then F.M z.1 y.1 else none)).map fun x => (x, z.2 + y.2)
        | none => none)
      | none => none)
    | _ => none)
def evS (F : Ops) (T : List (Str × PyData)) (f : PyData → PyData → EvR) (s : Str) (as : List PyData) (r : PyData) : EvR :=
  if s = "x" then some (r, 0)
  else if s = "number" then (match as with
    | [q] => some (q, 0)
    | _ => none)
  else if s = "name" then (match as with
    | [.str x] => if frD r = true ∧ PyData.strOk x = true then (match T.lookup x with
      | some u => (f u r).map fun z => (z.1, z.2 + 1)
      | none => none) else none
    | _ => none)
  else if s = "of" then (match as with
    | [a, b] => (match f b r with
      | some z => (f a z.1).map fun y => (y.1, z.2 + y.2)
      | none => none)
    | _ => none)
  else if s = "again" then (match as with
    | [a, .int k] => if 0 ≤ k ∧ k ≤ 1000 then evIt (f a) k.toNat r 0 else none
    | _ => none)
  else evB F (fun a => f a r) s as
def evT (F : Ops) (T : List (Str × PyData)) : Nat → PyData → PyData → EvR
  | 0 => fun _ _ => none
  | n + 1 => fun t r => match t with
    | .tuple (.str s :: as) => if PyData.strOk s = true then evS F T (evT F T n) s as r else none
    | _ => none
theorem evIt_mono {f g : PyData → EvR} (h : ∀ r z, f r = some z → g r = some z) : ∀ (k : Nat) (r : PyData) (c : Nat) (z : PyData × Nat), evIt f k r c = some z → evIt g k r c = some z
  | 0, _, _, _, e => e
  | k + 1, r, c, z, e => by
    unfold evIt at e ⊢
    cases e1 : f r with
    | none => rw [e1] at e; cases e
    | some y =>
      rw [e1] at e
      rw [h _ _ e1]
      exact evIt_mono h k _ _ _ e
theorem evB_mono {F : Ops} {f g : PyData → EvR} (h : ∀ r z, f r = some z → g r = some z) {s : Str} {as : List PyData} {z : PyData × Nat} (e : evB F f s as = some z) : evB F g s as = some z := by
  unfold evB at e ⊢
  by_cases h1 : s = "power"
  · rw [if_pos h1] at e ⊢
    split at e
    · rename_i a k
      split at e
      · rename_i hk
        rw [if_pos hk]
        cases e1 : f a with
        | none => rw [e1] at e; cases e
        | some y => rw [e1] at e; rw [h _ _ e1]; exact e
      · cases e
    · cases e
  · rw [if_neg h1] at e ⊢
    split at e
    · rename_i a b
      cases e1 : f a with
      | none => rw [e1] at e; cases e
      | some y =>
        rw [e1] at e
        rw [h _ _ e1]
        cases e2 : f b with
        | none => rw [e2] at e; cases e
        | some x => rw [e2] at e; rw [h _ _ e2]; exact e
    · cases e
theorem evS_mono {F : Ops} {T : List (Str × PyData)} {f g : PyData → PyData → EvR} (h : ∀ t r z, f t r = some z → g t r = some z) {s : Str} {as : List PyData} {r : PyData} {z : PyData × Nat} (e : evS F T f s as r = some z) : evS F T g s as r = some z := by
  unfold evS at e ⊢
  by_cases h1 : s = "x"
  · rw [if_pos h1] at e ⊢; exact e
  rw [if_neg h1] at e ⊢
  by_cases h2 : s = "number"
  · rw [if_pos h2] at e ⊢; exact e
  rw [if_neg h2] at e ⊢
  by_cases h3 : s = "name"
  · rw [if_pos h3] at e ⊢
    split at e
    · split at e
      · rename_i hf
        rw [if_pos hf]
        split at e
        · rename_i u eu
          try rw [eu]
          try dsimp only
          cases e1 : f u r with
          | none => rw [e1] at e; cases e
          | some y => rw [e1] at e; rw [h _ _ _ e1]; exact e
        · cases e
      · cases e
    · cases e
  rw [if_neg h3] at e ⊢
  by_cases h4 : s = "of"
  · rw [if_pos h4] at e ⊢
    split at e
    · rename_i a b
      cases e1 : f b r with
      | none => rw [e1] at e; cases e
      | some y =>
        rw [e1] at e
        rw [h _ _ _ e1]
        dsimp only at e ⊢
        cases e2 : f a y.1 with
        | none => rw [e2] at e; cases e
        | some x => rw [e2] at e; rw [h _ _ _ e2]; exact e
    · cases e
  rw [if_neg h4] at e ⊢
  by_cases h5 : s = "again"
  · rw [if_pos h5] at e ⊢
    split at e
    · rename_i a k
      split at e
      · rename_i hk
        rw [if_pos hk]
        exact evIt_mono (fun r z => h a r z) _ _ _ _ e
      · cases e
    · cases e
  rw [if_neg h5] at e ⊢
  exact evB_mono (fun a z => h a r z) e
theorem evT_mono {F : Ops} {T : List (Str × PyData)} : ∀ (n : Nat) (t r : PyData) (z : PyData × Nat), evT F T n t r = some z → evT F T (n + 1) t r = some z := by
  intro n
  induction n with
  | zero => intro t r z e; cases e
  | succ n ih =>
    intro t r z e
    unfold evT at e ⊢
    try dsimp only at e ⊢
    split at e
    · split at e
      · rename_i hs
        rw [if_pos hs]
        exact evS_mono ih e
      · cases e
    · cases e
theorem evT_le {F : Ops} {T : List (Str × PyData)} {t r : PyData} {z : PyData × Nat} {n m : Nat} (h : n ≤ m) (e : evT F T n t r = some z) : evT F T m t r = some z := by
  obtain ⟨k, rfl⟩ := Nat.exists_eq_add_of_le h
  clear h
  induction k with
  | zero => exact e
  | succ k ih => exact evT_mono _ _ _ _ ih
theorem evT_det {F : Ops} {T : List (Str × PyData)} {t r : PyData} {z y : PyData × Nat} {n m : Nat} (e : evT F T n t r = some z) (e2 : evT F T m t r = some y) : z = y := by
  have h1 := evT_le (m := n + m) (by omega) e
  have h2 := evT_le (m := n + m) (by omega) e2
  rw [h1] at h2
  exact Option.some.inj h2
end NW
namespace NW
open PySem PySem.Spec PyProof.Rows L2
def vf (pt pf : Addr) : List (Str × V) := putF "found" (.ref pf) (putF "terms" (.ref pt) [])
theorem ft_ : ¬ (("found" : Str) = "terms") := by decide +kernel
theorem tf0_ : ¬ (("terms" : Str) = "found") := by decide +kernel
theorem vf_eq {pt pf : Addr} : vf pt pf = ([("terms", V.ref pt), ("found", V.ref pf)] : List (Str × V)) := by
  simp [vf, putF, tf0_]
theorem vf_terms {pt pf : Addr} : (vf pt pf).lookup ("terms" : Str) = some (.ref pt) := by
  rw [vf_eq, List.lookup_cons]
  simp
theorem vf_found {pt pf : Addr} : (vf pt pf).lookup ("found" : Str) = some (.ref pf) := by
  rw [vf_eq, List.lookup_cons, List.lookup_cons]
  have : (("found" : Str) == "terms") = false := by rw [beq_eq_false_iff_ne]; exact ft_
  rw [this]
  simp
theorem vf_no {pt pf : Addr} {m : Str} (h1 : ¬ m = "terms") (h2 : ¬ m = "found") : (vf pt pf).lookup m = none := by
  rw [vf_eq, List.lookup_cons, List.lookup_cons]
  have a : (m == "terms") = false := by rw [beq_eq_false_iff_ne]; exact h1
  have b : (m == "found") = false := by rw [beq_eq_false_iff_ne]; exact h2
  rw [a, b]
  rfl
structure VlC (K : PySem.W.Frag) (C : Addr) : Prop where
  cl : Cls K C
  nt : NoAttr K C "terms"
  nf : NoAttr K C "found"
def VF (K : PySem.W.Frag) (F : Ops) (T : List (Str × PyData)) (B : Addr → Prop) (H : Hp) (kvs : NT) : Prop := ∀ kv, kv ∈ kvs → ∃ (x : Str) (r u d : PyData) (n c : Nat), frD r = true ∧ keyN (.tuple [.str x, r]) = some kv.1 ∧ RT K B H (.ref kv.2.1) (.tuple [.str x, r]) ∧ RT K B H kv.2.2 d ∧ T.lookup x = some u ∧ evT F T n u r = some (d, c)
section
variable {K : PySem.W.Frag} {P : Program} {w : World} {F : Ops} {T : List (Str × PyData)} {B B' : Addr → Prop} {H H' : Hp} {kvs : NT} {C p dx pt pf : Addr} {tv : List (Key × V)} {N : Nat}
theorem VF.mono (k : Keep B H B' H') (h : VF K F T B H kvs) : VF K F T B' H' kvs := fun kv hk => by
  obtain ⟨x, r, u, d, n, c, h1, h2, h3, h4, h5, h6⟩ := h kv hk
  exact ⟨x, r, u, d, n, c, h1, h2, RT.mono k _ _ h3, RT.mono k _ _ h4, h5, h6⟩
theorem fr_key {x : Str} {r : PyData} (h : frD r = true) : keyOk (.tuple [.str x, r]) = true := by
  unfold frD at h
  split at h
  · rename_i a b
    have e : keyN (.tuple [.str x, .tuple [.int a, .int b]]) = some (.tup [.text x, .tup [.num a, .num b]]) := by simp [keyN, keyNs]
    unfold keyOk
    rw [e]
    exact decide_eq_true (by simp [NestedKey.depth, NestedKey.depthAll])
  · cases h
theorem VF.keys (h : VF K F T B H kvs) : ∀ q, q ∈ kvs → KeyAt K H q.1 q.2.1 := fun q hq => by
  obtain ⟨x, r, u, d, n, c, h1, h2, h3, _⟩ := h q hq
  obtain ⟨k, e1, e2⟩ := keyOk_at (fr_key h1) h3
  rw [h2] at e1
  cases e1
  exact e2
structure VlI (K : PySem.W.Frag) (P : Program) (w : World) (F : Ops) (C : Addr) (T : List (Str × PyData)) (B : Addr → Prop) (p dx pt pf : Addr) (tv : List (Key × V)) (N : Nat) (H : Hp) : Prop where
  hp : H p = some (.ins C dx (vf pt pf))
  ht : H pt = some (.dK tv)
  tk : tv.map (·.1) = T.map fun e => .inr e.1
  tr : RTs K B H (tv.map (·.2)) (T.map (·.2))
  hf : ∃ kvs, H pf = some (NkO P w pf kvs) ∧ VF K F T B H kvs ∧ kvs.length ≤ N
  nB : NoTup H B
  bf : B pf
theorem NoTup.stay (h : NoTup H B) (hf : ∃ kvs, H' pf = some (NkO P w pf kvs)) (g : Gro pf H H') : NoTup H' B := fun a ha => by
  obtain ⟨h1, h2⟩ := h a ha
  cases e : H a with
  | none => exact absurd e h1
  | some o =>
    by_cases ap : a = pf
    · subst ap
      obtain ⟨kvs, hk⟩ := hf
      refine ⟨by rw [hk]; simp, fun vs z => ?_⟩
      rcases z with z | ⟨u, z⟩ <;> rw [hk] at z <;> cases z
    · have e' := g a o ap e
      refine ⟨by rw [e']; simp, fun vs z => h2 vs ?_⟩
      rcases z with z | ⟨u, z⟩
      · rw [e'] at z; cases z; exact .inl e
      · rw [e'] at z; cases z; exact .inr ⟨u, e⟩
theorem VlI.ne (h : VlI K P w F C T B p dx pt pf tv N H) : p ≠ pf ∧ pt ≠ pf := by
  obtain ⟨kvs, h1, _⟩ := h.hf
  refine ⟨fun z => ?_, fun z => ?_⟩
  · have := h.hp
    rw [z, h1] at this
    cases this
  · have := h.ht
    rw [z, h1] at this
    cases this
theorem VlI.keep (h : VlI K P w F C T B p dx pt pf tv N H) (g : Gro pf H H') : Keep B H B H' := fun b o e n => ⟨g b o (fun z => n (z ▸ h.bf)) e, n⟩
theorem VlI.grow (h : VlI K P w F C T B p dx pt pf tv N H) (g : ∀ b o, H b = some o → H' b = some o) : VlI K P w F C T B p dx pt pf tv N H' := by
  have k : Keep B H B H' := fun b o e n => ⟨g b o e, n⟩
  obtain ⟨kvs, h1, h2, h3⟩ := h.hf
  exact ⟨g _ _ h.hp, g _ _ h.ht, h.tk, RTs.mono k _ _ h.tr, ⟨kvs, g _ _ h1, h2.mono k, h3⟩, h.nB.stay (pf := pf) ⟨kvs, g _ _ h1⟩ fun b o _ e => g b o e, h.bf⟩
theorem VlI.le (h : VlI K P w F C T B p dx pt pf tv N H) {M : Nat} (hm : N ≤ M) : VlI K P w F C T B p dx pt pf tv M H := by
  obtain ⟨kvs, h1, h2, h3⟩ := h.hf
  exact ⟨h.hp, h.ht, h.tk, h.tr, ⟨kvs, h1, h2, by omega⟩, h.nB, h.bf⟩
theorem VlI.put (h : VlI K P w F C T B p dx pt pf tv N H) {k : NestedKey} {b : Addr} {v : V} {x : Str} {r u d : PyData} {n c : Nat} (hr : frD r = true) (hk : keyN (.tuple [.str x, r]) = some k) (hb : RT K B H (.ref b) (.tuple [.str x, r])) (hv : RT K B H v d) (hu : T.lookup x = some u) (he : evT F T n u r = some (d, c)) {kvs : NT} (hd : H pf = some (NkO P w pf kvs)) (vk : VF K F T B H kvs) (hl : kvs.length ≤ N) :
    VlI K P w F C T B p dx pt pf tv (N + 1) (upd H pf (NkO P w pf (putN kvs k b v))) ∧ Gro pf H (upd H pf (NkO P w pf (putN kvs k b v))) ∧ VF K F T B (upd H pf (NkO P w pf (putN kvs k b v))) (putN kvs k b v) := by
  have g : Gro pf H (upd H pf (NkO P w pf (putN kvs k b v))) := Gro.upd
  have kp := h.keep g
  obtain ⟨n1, n2⟩ := h.ne
  have vN : VF K F T B (upd H pf (NkO P w pf (putN kvs k b v))) (putN kvs k b v) := by
    have new : ∀ kv : NestedKey × Addr × V, kv.1 = k → (∃ b', kv.2.1 = b' ∧ RT K B H (.ref b') (.tuple [.str x, r])) → kv.2.2 = v → ∃ (x : Str) (r u d : PyData) (n c : Nat), frD r = true ∧ keyN (.tuple [.str x, r]) = some kv.1 ∧ RT K B (upd H pf (NkO P w pf (putN kvs k b v))) (.ref kv.2.1) (.tuple [.str x, r]) ∧ RT K B (upd H pf (NkO P w pf (putN kvs k b v))) kv.2.2 d ∧ T.lookup x = some u ∧ evT F T n u r = some (d, c) := by
      rintro kv e1 ⟨b', e2, e3⟩ e4
      exact ⟨x, r, u, d, n, c, hr, by rw [e1]; exact hk, by rw [e2]; exact RT.mono kp _ _ e3, by rw [e4]; exact RT.mono kp _ _ hv, hu, he⟩
    intro kv hkv
    unfold putN at hkv
    by_cases hs : (atN kvs k).isSome = true
    · rw [if_pos hs] at hkv
      obtain ⟨y, hy, e⟩ := List.mem_map.mp hkv
      by_cases ek : y.1 = k
      · rw [if_pos ek] at e
        subst e
        obtain ⟨x', r', u', d', n', c', q1, q2, q3, _⟩ := vk y hy
        refine new _ ek ⟨_, rfl, ?_⟩ rfl
        have : PyData.tuple [.str x', r'] = .tuple [.str x, r] := keyN_inj _ _ _ q2 (by rw [ek]; exact hk)
        rw [← this]
        exact q3
      · rw [if_neg ek] at e
        subst e
        exact (vk.mono kp) _ hy
    · rw [if_neg hs] at hkv
      rcases List.mem_append.mp hkv with hkv | hkv
      · exact (vk.mono kp) _ hkv
      · have : kv = (k, b, v) := by simpa using hkv
        subst this
        exact new _ rfl ⟨_, rfl, hb⟩ rfl
  refine ⟨⟨g _ _ n1 h.hp, g _ _ n2 h.ht, h.tk, RTs.mono kp _ _ h.tr, ⟨_, upd_same, vN, ?_⟩, h.nB.stay (pf := pf) ⟨_, upd_same⟩ g, h.bf⟩, g, vN⟩
  have := putN_len (kvs := kvs) (k := k) (b := b) (v := v)
  omega
theorem VF.at (h : VF K F T B H kvs) {k : NestedKey} {v : V} (e : atN kvs k = some v) {x : Str} {r : PyData} (hk : keyN (.tuple [.str x, r]) = some k) : ∃ (u d : PyData) (n c : Nat), RT K B H v d ∧ T.lookup x = some u ∧ evT F T n u r = some (d, c) := by
  unfold atN at e
  rw [Option.map_eq_some_iff] at e
  obtain ⟨kv, e1, rfl⟩ := e
  have m := List.mem_of_find?_eq_some e1
  have q : kv.1 = k := by have := List.find?_some e1; simpa using this
  obtain ⟨x', r', u, d, n, c, h1, h2, h3, h4, h5, h6⟩ := h kv m
  have : PyData.tuple [.str x', r'] = .tuple [.str x, r] := keyN_inj _ _ _ h2 (by rw [q]; exact hk)
  simp only [PyData.tuple.injEq, List.cons.injEq, PyData.str.injEq, and_true] at this
  obtain ⟨rfl, rfl⟩ := this
  exact ⟨u, d, n, c, h4, h5, h6⟩
def spV (K : PySem.W.Frag) (P : Program) (w : World) (F : Ops) (C : Addr) (n : Nat) (g : List (Str × PyData) → List PyData → EvR) : Sp := fun vs H Q _ => ∃ (B : Addr → Prop) (p dx pt pf : Addr) (tv : List (Key × V)) (T : List (Str × PyData)) (N : Nat) (ws : List V) (ds : List PyData),
  vs = .ref p :: ws ∧ VlI K P w F C T B p dx pt pf tv N H ∧ RTs K B H ws ds ∧ ds.length = n ∧ ∃ d c, g T ds = some (d, c) ∧ N + c ≤ 1000000 ∧ ∀ v H', Gro pf H H' → VlI K P w F C T B p dx pt pf tv (N + c) H' → RT K B H' v d → Q v H'
def gRow (F : Ops) (n : Nat) (T : List (Str × PyData)) (ds : List PyData) : EvR := match ds with
  | [.str x, r] => if frD r = true ∧ PyData.strOk x = true then (match T.lookup x with
    | some u => (evT F T n u r).map fun z => (z.1, z.2 + 1)
    | none => none) else none
  | _ => none
def gVal (F : Ops) (n : Nat) (T : List (Str × PyData)) (ds : List PyData) : EvR := match ds with
  | [t, r] => evT F T n t r
  | _ => none
def gBoth (F : Ops) (n : Nat) (T : List (Str × PyData)) (ds : List PyData) : EvR := match ds with
  | [.tuple (.str s :: as), r] => if PyData.strOk s = true then evB F (fun a => evT F T n a r) s as else none
  | _ => none
theorem lookI_inr {x : Str} {u : PyData} : ∀ {T : List (Str × PyData)}, T.lookup x = some u → lookI (T.map fun e => ((Sum.inr e.1 : Key), e.2)) (.inr x) = some u
  | [], e => by cases e
  | (y, v) :: T, e => by
    rw [List.lookup_cons] at e
    unfold lookI
    rw [List.map_cons, List.find?_cons]
    by_cases h : x = y
    · subst h
      simp at e ⊢
      exact e
    · have h1 : (x == y) = false := by rw [beq_eq_false_iff_ne]; exact h
      have h2 : decide ((Sum.inr y : Key) = .inr x) = false := decide_eq_false fun z => h (Sum.inr.inj z).symm
      rw [h1] at e
      rw [h2]
      exact lookI_inr e
theorem tv_at {T : List (Str × PyData)} {tv : List (Key × V)} (h1 : tv.map (·.1) = T.map fun e => .inr e.1) (h2 : RTs K B H (tv.map (·.2)) (T.map (·.2))) {x : Str} {u : PyData} (e : T.lookup x = some u) : ∃ v, valV tv (.inr x) = some v ∧ RT K B H v u := by
  have e2 : T.map (·.2) = (T.map fun e => ((Sum.inr e.1 : Key), e.2)).map (·.2) := by rw [List.map_map]; rfl
  rw [e2] at h2
  exact look_r (es := T.map fun e => ((Sum.inr e.1 : Key), e.2)) (by rw [h1, List.map_map]; rfl) h2 (lookI_inr e)
end
end NW
namespace NW
open PySem PySem.Spec PyProof.Rows L2
section
variable {X : Cx}
theorem pairs_of2 {pins : List (Addr × Obj)} {σ : L2.St} {H : Hp} {s : Shared} (I : Inv X pins σ H s) : ∀ {ps : List Addr} {kvs : List (Key × V)}, Paired (fun p kv => SqT X.K H p [kV kv.1, kv.2]) ps kvs →
    ∃ (prs : List (Key × Value)) (pv : List (Value × Value)), KV kvs prs ∧ prs.length = ps.length ∧ pv.length = ps.length ∧ ∀ (j : Nat) (k v : Value), pv[j]? = some (k, v) → ∃ (b : Addr) (key : Key), ps[j]? = some b ∧ IsTup s.heap b #[k, v] ∧ prs[j]? = some (key, v) ∧ keyIs key k = true
  | _, _, .nil => ⟨[], [], .nil, rfl, rfl, fun j k v e => by simp at e⟩
  | _, _, .cons (a := p) (b := kv) h t => by
    obtain ⟨prs, pv, r, hl, hl2, hp⟩ := pairs_of2 I t
    obtain ⟨its, rv, ht, _⟩ := I.tuple h
    obtain ⟨u, y, ei, ru, ry⟩ := vals2 rv
    subst ei
    refine ⟨(kv.1, y) :: prs, (u, y) :: pv, .cons ⟨rfl, ry⟩ r, by rw [List.length_cons, List.length_cons, hl], by rw [List.length_cons, List.length_cons, hl2], fun j k v e => ?_⟩
    cases j with
    | zero =>
      have e' : (u, y) = (k, v) := Option.some.inj e
      cases e'
      exact ⟨p, kv.1, rfl, ht, rfl, kV_is (P := X.prog) (w := X.w) ru⟩
    | succ j =>
      obtain ⟨b, key, e1, e2, e3, e4⟩ := hp j k v (by simpa using e)
      exact ⟨b, key, by simpa using e1, e2, by simpa using e3, e4⟩
def rDictT (K : PySem.W.Frag) : List V → Hp → VK → Prop := fun xs H Q => ∃ (a : Addr) (o : Obj) (ps : List Addr) (kvs : List (Key × V)), xs = [.ref a] ∧ H a = some (.frz o (.tup (ps.map V.ref))) ∧ o.dict = none ∧ Paired (fun p kv => SqT K H p [kV kv.1, kv.2]) ps kvs ∧
    ∀ p, H p = none → Q (.ref p) (upd H p (.dK (mergeK [] kvs)))
theorem call_dictT (hcalm : X.calm = true) : CallR X (.type "dict") (rDictT X.K) := by
  intro pins s σ H xs us Q I r q
  obtain ⟨a, o, ps, kvs, ex, ha, ho, hp, q⟩ := q
  subst ex
  obtain ⟨u, eu, rx⟩ := vals1 r
  subst eu
  cases rx
  obtain ⟨hg, hz, its, rv, p⟩ := I.hok a _ ha
  have ei := refs_at rv
  subst ei
  rw [List.length_map] at hz
  obtain ⟨prs, pv, rel, hl, hl2, hpr⟩ := pairs_of2 I hp
  obtain ⟨o', ho', hc, n, hdat⟩ := p
  rw [hg] at ho'
  cases ho'
  have P := PairArg.tuple (prog := X.prog) (w := X.w) a (ps.map Value.ref).toArray (fun j => ps.getD j 0) pv
  refine PySem.call_dict_pairs (knd := mixKind X.prog X.w) (kvs := prs) P (I.ok.hd hcalm) ⟨⟨o, n, hg, hc, ho, hdat⟩, by simp [hl2], fun j k v e => ?_⟩ ⟨by rw [hl, hl2], fun i k v e => ?_⟩ (by rw [hl2]; exact hz) fun h' tk hd' hk => ?_
  · obtain ⟨b, key, e1, e2, e3, e4⟩ := hpr j k v e
    have eb : ps.getD j 0 = b := by rw [List.getD_eq_getElem?_getD, e1]; rfl
    refine ⟨?_, .inl ?_⟩
    · show _ = some (Value.ref (ps.getD j 0))
      rw [eb]; simp [e1]
    · show s.heap.IsTuple (ps.getD j 0) #[k, v]
      rw [eb]; exact e2
  · obtain ⟨b, key, e1, e2, e3, e4⟩ := hpr i k v e
    exact ⟨key, e3, e4⟩
  · have hm : (s.heap.objs.size == sysModules) = false := beq_eq_false_iff_ne.mpr (Nat.ne_of_gt I.big)
    have hlen : (mergeK [] kvs).length ≤ sizeLine := by
      refine Nat.le_trans (length_mergeK kvs []) ?_
      rw [List.length_nil, Nat.zero_add, rel.length, hl]
      exact hz
    exact ⟨.ref s.heap.objs.size, upd H s.heap.objs.size (.dK (mergeK [] kvs)), I.laid (t' := tk) (fun b o e => hk b o (by simp) e) (Nat.le_refl _) (show ObjOk X.prog X.w _ _ _ (.dK (mergeK [] kvs)) from ⟨hlen, hm, merged [] prs, KV.merge rel .nil, hd'⟩), rfl, q _ (I.hok.fresh (Nat.le_refl _))⟩
def kTupF (K : PySem.W.Frag) (x : V) (H : Hp) (Q : VK) : Prop := ∃ p xs, x = .ref p ∧ SqL K H p xs ∧ ∀ (q : Addr) (o : Obj), H q = none → o.dict = none → Q (.ref q) (upd H q (.frz o (.tup xs)))
theorem rl_tupF (pins : List (Addr × Obj)) (s : Shared) (σ : L2.St) (H : Hp) (x : V) (v : Value) (Q : VK) (I : Inv X pins σ H s) (r : RelV x v) (h : kTupF X.K x H Q) :
    wpAny (model X.prog X.w) X.A (call (.type "tuple") [v]) (EP X pins σ Q) X.xe s := by
  obtain ⟨p, xs, rfl, hs, q⟩ := h
  obtain rfl : v = .ref p := r
  obtain ⟨its, rv, pl, hz⟩ := I.list hs
  refine call_tuple_list pl.isList (fun h' hk => ?_) (by rw [List.size_toArray, ← rv.length]; exact hz)
  have I1 : Inv X pins σ H { s with heap := h' } := I.kept (t' := s.toks) hk
  have g : (h'.push { cls := .type "tuple", data := .seq its.toArray }).get? h'.objs.size = some { cls := .type "tuple", data := .seq its.toArray } := Heap.get?_push_size _ rfl
  have I2 : Inv X pins σ (upd H h'.objs.size (.frz { cls := .type "tuple", data := .seq its.toArray } (.tup xs))) { s with heap := h'.push { cls := .type "tuple", data := .seq its.toArray } } :=
    I1.laid (t' := s.toks) (fun b o e => Heap.get?_push_of_some _ e) (Nat.le_refl _) (show ObjOk X.prog X.w _ _ _ (.frz { cls := .type "tuple", data := .seq its.toArray } (.tup xs)) from ⟨g, hz, its, rv, IsTup.new _ _⟩)
  exact ⟨.ref h'.objs.size, _, I2, rfl, q _ _ (I1.hok.fresh (Nat.le_refl _)) rfl⟩
theorem pe_tupF {a : Expr} {ta : TE} {p pos : Pos} (hg : Gl X "tuple") (hm : X.mg "tuple" = none) (ha : PE X a ta) (na : starEach [a] X.env = (false, eval a X.env) :: starEach [] X.env := by rfl) :
    PE X (.Call (.Name "tuple" p) [a] [] pos) (tThen ta (kTupF X.K)) := by
  refine ⟨fun pins s σ H Q I h => ?_⟩
  exact Call_ (ld_blt I hg hm boot_tuple (PyProof.Rows.callWith_type1 (one_arg ha I h (fun v s2 x H2 I2 r q => rl_tupF pins s2 σ H2 x v Q I2 r q) na) na))
end
end NW
namespace NW
open PySem PySem.Spec PyProof.Rows L2
section
variable {K : PySem.W.Frag} {P : Program} {w : World} {F : Ops} {T : List (Str × PyData)} {B B' : Addr → Prop} {H H' : Hp} {kvs : NT} {pt pf D : Addr} {tv : List (Key × V)} {N : Nat}
theorem VF.weak (g : ∀ a, B' a → B a) (h : VF K F T B H kvs) : VF K F T B' H kvs := fun kv hk => by
  obtain ⟨x, r, u, d, n, c, h1, h2, h3, h4, h5, h6⟩ := h kv hk
  exact ⟨x, r, u, d, n, c, h1, h2, RT.weak g _ _ h3, RT.weak g _ _ h4, h5, h6⟩
structure VlJ (K : PySem.W.Frag) (P : Program) (w : World) (F : Ops) (T : List (Str × PyData)) (B : Addr → Prop) (pt pf : Addr) (tv : List (Key × V)) (N : Nat) (H : Hp) : Prop where
  ht : H pt = some (.dK tv)
  tk : tv.map (·.1) = T.map fun e => .inr e.1
  tr : RTs K B H (tv.map (·.2)) (T.map (·.2))
  hf : ∃ kvs, H pf = some (NkO P w pf kvs) ∧ VF K F T B H kvs ∧ kvs.length ≤ N
  nB : NoTup H B
  bf : B pf
theorem VlJ.ne (h : VlJ K P w F T B pt pf tv N H) : pt ≠ pf := by
  obtain ⟨kvs, h1, _⟩ := h.hf
  intro z
  have := h.ht
  rw [z, h1] at this
  cases this
theorem VlJ.keep (h : VlJ K P w F T B pt pf tv N H) (g : Gro pf H H') : Keep B H B H' := fun b o e n => ⟨g b o (fun z => n (z ▸ h.bf)) e, n⟩
theorem VlJ.grow (h : VlJ K P w F T B pt pf tv N H) (g : ∀ b o, H b = some o → H' b = some o) : VlJ K P w F T B pt pf tv N H' := by
  have k : Keep B H B H' := fun b o e n => ⟨g b o e, n⟩
  obtain ⟨kvs, h1, h2, h3⟩ := h.hf
  exact ⟨g _ _ h.ht, h.tk, RTs.mono k _ _ h.tr, ⟨kvs, g _ _ h1, h2.mono k, h3⟩, h.nB.stay (pf := pf) ⟨kvs, g _ _ h1⟩ fun b o _ e => g b o e, h.bf⟩
theorem VlJ.le (h : VlJ K P w F T B pt pf tv N H) {M : Nat} (hm : N ≤ M) : VlJ K P w F T B pt pf tv M H := by
  obtain ⟨kvs, h1, h2, h3⟩ := h.hf
  exact ⟨h.ht, h.tk, h.tr, ⟨kvs, h1, h2, by omega⟩, h.nB, h.bf⟩
theorem VlJ.weak (h : VlJ K P w F T B pt pf tv N H) (g : ∀ a, B' a → B a) (b : B' pf) : VlJ K P w F T B' pt pf tv N H := by
  obtain ⟨kvs, h1, h2, h3⟩ := h.hf
  exact ⟨h.ht, h.tk, RTs.weak g _ _ h.tr, ⟨kvs, h1, h2.weak g, h3⟩, fun a ha => h.nB a (g a ha), b⟩
theorem VlJ.ban (h : VlJ K P w F T B pt pf tv N H) (hD : H D = none) {xs : List V} : VlJ K P w F T (fun b => B b ∨ b = D) pt pf tv N (upd H D (.lst xs)) := by
  have g : ∀ b o, H b = some o → upd H D (.lst xs) b = some o := fun b o e => by rw [upd_ne (ne_of_none e hD)]; exact e
  have k : Keep B H (fun b => B b ∨ b = D) (upd H D (.lst xs)) := fun b o e n => ⟨g b o e, fun z => z.elim n fun z => by rw [z, hD] at e; cases e⟩
  obtain ⟨kvs, h1, h2, h3⟩ := h.hf
  refine ⟨g _ _ h.ht, h.tk, RTs.mono k _ _ h.tr, ⟨kvs, g _ _ h1, h2.mono k, h3⟩, fun b hb => ?_, .inl h.bf⟩
  rcases hb with hb | rfl
  · exact (h.nB.stay (pf := pf) ⟨kvs, g _ _ h1⟩ fun b o _ e => g b o e) b hb
  · refine ⟨by rw [upd_same]; simp, fun vs z => ?_⟩
    rcases z with z | ⟨u, z⟩ <;> rw [upd_same] at z <;> cases z
theorem VlJ.chg (h : VlJ K P w F T B pt pf tv N H) (hb : B D) (n1 : pt ≠ D) (n2 : pf ≠ D) {xs : List V} : VlJ K P w F T B pt pf tv N (upd H D (.lst xs)) := by
  have k : Keep B H B (upd H D (.lst xs)) := fun b o e n => ⟨by rw [upd_ne (show b ≠ D by rintro rfl; exact n hb)]; exact e, n⟩
  obtain ⟨kvs, h1, h2, h3⟩ := h.hf
  refine ⟨by rw [upd_ne n1]; exact h.ht, h.tk, RTs.mono k _ _ h.tr, ⟨kvs, by rw [upd_ne n2]; exact h1, h2.mono k, h3⟩, fun b hb2 => ?_, h.bf⟩
  obtain ⟨q1, q2⟩ := h.nB b hb2
  by_cases e : b = D
  · subst e
    refine ⟨by rw [upd_same]; simp, fun vs z => ?_⟩
    rcases z with z | ⟨u, z⟩ <;> rw [upd_same] at z <;> cases z
  · refine ⟨by rw [upd_ne e]; exact q1, fun vs z => q2 vs ?_⟩
    rcases z with z | ⟨u, z⟩
    · rw [upd_ne e] at z; exact .inl z
    · rw [upd_ne e] at z; exact .inr ⟨u, z⟩
theorem VlJ.put (h : VlJ K P w F T B pt pf tv N H) {k : NestedKey} {b : Addr} {v : V} {x : Str} {r u d : PyData} {n c : Nat} (hr : frD r = true) (hk : keyN (.tuple [.str x, r]) = some k) (hb : RT K B H (.ref b) (.tuple [.str x, r])) (hv : RT K B H v d) (hu : T.lookup x = some u) (he : evT F T n u r = some (d, c)) {kvs : NT} (hd : H pf = some (NkO P w pf kvs)) (vk : VF K F T B H kvs) (hl : kvs.length ≤ N) :
    VlJ K P w F T B pt pf tv (N + 1) (upd H pf (NkO P w pf (putN kvs k b v))) ∧ Gro pf H (upd H pf (NkO P w pf (putN kvs k b v))) ∧ VF K F T B (upd H pf (NkO P w pf (putN kvs k b v))) (putN kvs k b v) := by
  have g : Gro pf H (upd H pf (NkO P w pf (putN kvs k b v))) := Gro.upd
  have kp := h.keep g
  have n2 := h.ne
  have vN : VF K F T B (upd H pf (NkO P w pf (putN kvs k b v))) (putN kvs k b v) := by
    have new : ∀ kv : NestedKey × Addr × V, kv.1 = k → (∃ b', kv.2.1 = b' ∧ RT K B H (.ref b') (.tuple [.str x, r])) → kv.2.2 = v → ∃ (x : Str) (r u d : PyData) (n c : Nat), frD r = true ∧ keyN (.tuple [.str x, r]) = some kv.1 ∧ RT K B (upd H pf (NkO P w pf (putN kvs k b v))) (.ref kv.2.1) (.tuple [.str x, r]) ∧ RT K B (upd H pf (NkO P w pf (putN kvs k b v))) kv.2.2 d ∧ T.lookup x = some u ∧ evT F T n u r = some (d, c) := by
      rintro kv e1 ⟨b', e2, e3⟩ e4
      exact ⟨x, r, u, d, n, c, hr, by rw [e1]; exact hk, by rw [e2]; exact RT.mono kp _ _ e3, by rw [e4]; exact RT.mono kp _ _ hv, hu, he⟩
    intro kv hkv
    unfold putN at hkv
    by_cases hs : (atN kvs k).isSome = true
    · rw [if_pos hs] at hkv
      obtain ⟨y, hy, e⟩ := List.mem_map.mp hkv
      by_cases ek : y.1 = k
      · rw [if_pos ek] at e
        subst e
        obtain ⟨x', r', u', d', n', c', q1, q2, q3, _⟩ := vk y hy
        refine new _ ek ⟨_, rfl, ?_⟩ rfl
        have : PyData.tuple [.str x', r'] = .tuple [.str x, r] := keyN_inj _ _ _ q2 (by rw [ek]; exact hk)
        rw [← this]
        exact q3
      · rw [if_neg ek] at e
        subst e
        exact (vk.mono kp) _ hy
    · rw [if_neg hs] at hkv
      rcases List.mem_append.mp hkv with hkv | hkv
      · exact (vk.mono kp) _ hkv
      · have : kv = (k, b, v) := by simpa using hkv
        subst this
        exact new _ rfl ⟨_, rfl, hb⟩ rfl
  refine ⟨⟨g _ _ n2 h.ht, h.tk, RTs.mono kp _ _ h.tr, ⟨_, upd_same, vN, ?_⟩, h.nB.stay (pf := pf) ⟨_, upd_same⟩ g, h.bf⟩, g, vN⟩
  have := putN_len (kvs := kvs) (k := k) (b := b) (v := v)
  omega
def spJ (K : PySem.W.Frag) (P : Program) (w : World) (F : Ops) (n : Nat) : Sp := fun vs H Q _ => ∃ (B : Addr → Prop) (pt pf : Addr) (tv : List (Key × V)) (T : List (Str × PyData)) (N : Nat) (vt vr : V) (t r : PyData),
  vs = [vt, vr, .ref pt, .ref pf] ∧ VlJ K P w F T B pt pf tv N H ∧ RT K B H vt t ∧ RT K B H vr r ∧ ∃ d c, evT F T n t r = some (d, c) ∧ N + c ≤ 1000000 ∧ ∀ v H', Gro pf H H' → VlJ K P w F T B pt pf tv (N + c) H' → RT K B H' v d → Q v H'
end
end NW
namespace NW
open PySem PySem.Spec PyProof.Rows L2
theorem execs_app {env : Env} : ∀ (as bs : List Stmt), execs (as ++ bs) env = (do match ← execs as env with | .next => execs bs env | f => pure f)
  | [], bs => by
    show execs bs env = _
    rw [show execs [] env = (pure .next : Sem Flow) from rfl, pure_bind]
  | st :: rest, bs => by
    rw [List.cons_append, execs_cons, execs_cons, bind_assoc]
    refine congrArg _ (funext fun f => ?_)
    cases f with
    | next => exact execs_app rest bs
    | ret v => rw [pure_bind]
    | brk => rw [pure_bind]
    | cont => rw [pure_bind]
section
variable {X : Cx}
theorem pss_app {as bs : List Stmt} {t u : TS} (h1 : PSs X as t) (h2 : PSs X bs u) : PSs X (as ++ bs) (tSeq t u) := by
  refine ⟨fun pins s σ H D I h => ?_⟩
  rw [execs_app]
  refine wpAny_bind (thn (h1.run pins s σ H { D with nx := u D } I h) fun f s1 q => ?_)
  cases f with
  | next =>
    obtain ⟨σ', H', I', q⟩ := q
    exact h2.run pins s1 σ' H' D I' q
  | ret v => exact wpAny_pure q
  | brk => exact wpAny_pure q
  | cont => exact wpAny_pure q
end
def flowL (n i : Nat) (m : MS) (ds : List PyData) (f : Fl) : Rf := match m (startL n (.flow :: ds.map .d)) ⟨some f, []⟩ with
  | .nx l st => (match l[i]? with
    | some (some (.ref j)) => (match st.obs[j]?, st.fl with
      | some (.lst xs), some f' => .ok (.tuple xs) false f'
      | _, _ => .no)
    | _ => .no)
  | _ => .no
def spFL (K : PySem.W.Frag) (k : Nat) (m : List PyData → Fl → Rf) : Sp := fun vs H Q _ => ∃ (fa fb : Addr) (O0 : Addr → Prop) (f : Fl) (vs' : List V) (ds xs : List PyData) (f' : Fl), vs = .ref fa :: vs' ∧ NoTup H O0 ∧ ¬ O0 fa ∧ H fa = some (.lst (flV fb f)) ∧
  H fb = some (.lst (f.cells.map V.int)) ∧ fb ≠ fa ∧ ¬ O0 fb ∧ RTs K (fun p => O0 p ∨ p = fa) H vs' ds ∧ ds.length + 1 = k ∧ m ds f = .ok (.tuple xs) false f' ∧
  ∀ (a : Addr) (o : Obj) (vs : List V) H', (∀ b o, H b = some o → b ≠ fa → H' b = some o) → H' fa = some (.lst (flV fb f')) → f'.cells = f.cells → H a = none → H' a = some (.frz o (.tup vs)) → o.dict = none → RTs K (fun p => O0 p ∨ p = fa) H' vs xs → Q (.ref a) H'
section
variable {P : Program} {w : World} {K : PySem.W.Frag} {mg : Str → Option Value} {base : Heap} {N ps : List Str} {x : Str} {st : Stmt} {k i : Nat} {m : MS}
theorem calFL (D : DefIn K mg x st ps) (S : FnScope N ps (defScope st)) (hN : ps.length ≤ N.length) {init : List Stmt} {last : Stmt} (hbody : defBody st = init ++ [last])
    (hb : ∀ (f : Addr) (cdv : Value) (A : Around) (outer : List Env) (s : Shared) (H : Hp) (E : XK), Room k (A.deeper (envOfC x (defScope st) s.heap.objs.size f cdv)) →
      (∃ t, QSs (cxOf CX0 P w K mg base N x (defScope st) f cdv A outer s H E).nox init t m) ∧ PS (cxOf CX0 P w K mg base N x (defScope st) f cdv A outer s H E).nox last (tRet (tThen (tVar i) (kTupF K)))) : Cal P w K mg base (k + 1) x ps (spFL K ps.length (flowL N.length i m)) := by
  obtain ⟨f, fd, F, hm, hb'⟩ := D.ex
  refine ⟨f, fd, F.ok S (fun vs H Q E h => ?_) (fun cdv A outer s H vs Q E hr h => ?_), hm, F.kp, hb'⟩
  · obtain ⟨fa, fb, O0, g, vs', ds, xs, g', rfl, _, _, _, _, _, _, r, hl, _⟩ := h
    rw [List.length_cons, r.len, hl]
  · obtain ⟨fa, fb, O0, g, vs', ds, xs, g', rfl, hO, hO1, h1, h2, hne, hO2, r, hl, e, q⟩ := h
    obtain ⟨⟨t, hq⟩, hlast⟩ := hb f cdv A outer s H E hr
    refine ⟨tSeq t _, by rw [hbody]; exact pss_app hq.pss (pss_one hlast), ?_⟩
    have own0 : ∀ b, Own ⟨K, fa, fb, O0, fun _ => none, fun _ _ _ _ => False⟩ [] ⟨some g, []⟩ b ↔ b = fa := fun b => ⟨fun h => by
      rcases h with ⟨_, h⟩ | ⟨i, xs, h, _⟩
      · exact h
      · simp at h, fun h => .inl ⟨rfl, h⟩⟩
    have bn : ∀ a, Ban ⟨K, fa, fb, O0, fun _ => none, fun _ _ _ _ => False⟩ [] ⟨some g, []⟩ a → (O0 a ∨ a = fa) := fun a h => h.imp id (own0 a).mp
    have re : Re ⟨K, fa, fb, O0, fun _ => none, fun _ _ _ _ => False⟩ [] H (L2.start N (.ref fa :: vs')) (startL N.length (.flow :: ds.map .d)) ⟨some g, []⟩ := by
      refine ⟨⟨rfl, .nil, fun p hp => by simp at hp, fun i xs h => by simp at h, fun f h => ?_, fun p hp => ⟨(hO p hp).1, fun z => hO1 ((own0 p).mp z ▸ hp), (hO p hp).2⟩⟩, ⟨start_len N (by simp [r.len]) (by simp; omega), fun i u e => ?_⟩⟩
      · cases h
        exact ⟨⟨h1, h2, fun z => (bn _ z).elim hO2 hne⟩, by simp⟩
      · have e1 := start_get N (vs := .ref fa :: vs') e
        cases i with
        | zero => simp at e1; subst e1; exact ⟨.ref fa, start_getV N rfl, rfl⟩
        | succ i =>
          rw [List.getElem?_cons_succ, List.getElem?_map] at e1
          cases e2 : ds[i]? with
          | none => rw [e2] at e1; cases e1
          | some y =>
            rw [e2] at e1; cases e1
            obtain ⟨v, h1, h2⟩ := r.get e2
            exact ⟨v, start_getV N (by simpa using h1), RT.weak bn _ _ h2⟩
    refine hq.sim ⟨K, fa, fb, O0, fun _ => none, fun _ _ _ _ => False⟩ rfl [] H _ _ _ re _ ?_
    unfold flowL at e
    cases em : m (startL N.length (.flow :: ds.map .d)) ⟨some g, []⟩ with
    | nx l' st' =>
      rw [em] at e
      dsimp only at e
      split at e
      · rename_i j hj
        split at e
        · rename_i ys g2 ho hf
          cases e
          intro σ' H' β' f1 re'
          obtain ⟨v, hv, p, hp, rfl⟩ := re'.lo.2 i _ hj
          obtain ⟨p', vs, a1, b1, c1⟩ := re'.rl.ob j _ ho
          rw [hp] at a1
          cases a1
          refine ⟨_, hv, p, vs, rfl, .inl (.inl b1), fun qa o hq0 hod => ?_⟩
          have s1 : ∀ b o, H b = some o → b ≠ fa → H' b = some o := fun b o hb n => (f1.stay b o hb fun z => n ((own0 b).mp z)).1
          obtain ⟨⟨h3, h4⟩, _⟩ := re'.rl.flo g' hf
          have h5 := s1 _ _ h2 hne
          rw [h4.1] at h5
          have hc : g'.cells = g.cells := by
            refine ints_inj ?_
            injection h5 with h5
            injection h5
          have ng : ∀ {b : Addr} {o : HO}, H' b = some o → b ≠ qa := fun e => ne_of_none e hq0
          refine q qa o vs _ (fun b o hb n => by rw [upd_ne (ng (s1 b o hb n))]; exact s1 b o hb n) (by rw [upd_ne (ng h3)]; exact h3) hc ?_ upd_same hod ?_
          · cases z : H qa with
            | none => rfl
            | some u => exact absurd hq0 (f1.there _ (by rw [z]; simp))
          · have kk : Keep (Ban ⟨K, fa, fb, O0, fun _ => none, fun _ _ _ _ => False⟩ β' st') H' (Ban ⟨K, fa, fb, O0, fun _ => none, fun _ _ _ _ => False⟩ β' st') (upd H' qa (.frz o (.tup vs))) := fun b o e n => ⟨by rw [upd_ne (ng e)]; exact e, n⟩
            exact RTs.weak (fun a z => z.imp id fun z => .inl ⟨by rw [hf]; rfl, z⟩) _ _ (RTs.mono kk _ _ c1)
        · cases e
      · cases e
    | rt u st' => rw [em] at e; cases e
    | bk l s => rw [em] at e; cases e
    | ct l s => rw [em] at e; cases e
    | ex x l s => rw [em] at e; cases e
    | no => rw [em] at e; cases e
end
theorem rd_E {K : PySem.W.Frag} {te : TE} {m : ME} (h : ∀ G : Gx, G.K = K → SimE G te m) {B : Addr → Prop} {H : Hp} {σ : L2.St} {l : Loc} {x : PyData} {st' : Sto} {Q : VK} (hB : NoTup H B) (hlen : σ.length = l.length)
    (hl : ∀ (i : Nat) (u : U), l[i]? = some (some u) → ∃ x v, u = .d x ∧ σ[i]? = some (some v) ∧ RT K B H v x) (e : m l ⟨none, []⟩ = .ok (.d x) st') (q : ∀ v H', (∀ b o, H b = some o → H' b = some o) → RT K B H' v x → Q v H') : te σ H Q := by
  have own0 : ∀ b, ¬ Own ⟨K, 0, 0, B, fun _ => none, fun _ _ _ _ => False⟩ [] ⟨none, []⟩ b := fun b h => by
    rcases h with ⟨h, _⟩ | ⟨i, xs, h, _⟩
    · cases h
    · simp at h
  have re : Re ⟨K, 0, 0, B, fun _ => none, fun _ _ _ _ => False⟩ [] H σ l ⟨none, []⟩ := by
    refine ⟨⟨rfl, .nil, fun p hp => by simp at hp, fun i xs h => by simp at h, fun f h => (by cases h), fun p hp => ⟨(hB p hp).1, own0 p, (hB p hp).2⟩⟩, ⟨hlen, fun i u e => ?_⟩⟩
    obtain ⟨x, v, rfl, h1, h2⟩ := hl i u e
    exact ⟨v, h1, RT.weak (fun a h => h.elim id fun z => (own0 a z).elim) _ _ h2⟩
  refine h ⟨K, 0, 0, B, fun _ => none, fun _ _ _ _ => False⟩ rfl [] H σ l _ re Q ?_
  rw [e]
  intro v H' β' f rl r
  exact q v H' (fun b o h => (f.stay b o h (own0 b)).1) (RT.weak (fun a h => .inl h) _ _ r)
def opsP (mA mS mM : List PyData → Rp) : Ops := ⟨fun p q => okD (mA [p, q]), fun p q => okD (mS [p, q]), fun p q => okD (mM [p, q])⟩
def pairsT : List PyData → Option (List (Str × PyData))
  | [] => some []
  | .tuple [.str x, t] :: r => (pairsT r).map ((x, t) :: ·)
  | _ => none
def gAll (F : Ops) (n : Nat) (ds : List PyData) (r : PyData) : EvR := match pairsT ds, ds.getLast? with
  | some TT, some (.tuple (.str x :: _)) => if (TT.map (·.1)).Nodup then gRow F n TT [.str x, r] else none
  | _, _ => none
def opsL (mA mM : List PyData → Rp) : Ops := ⟨fun z y => match y with
    | .tuple [.int a, .int b] => if a.natAbs.log2 < 999000 then okD (mA [z, .tuple [.int (a * 1), .int b]]) else none
    | _ => none,
  fun z y => match y with
    | .tuple [.int a, .int b] => if a.natAbs.log2 < 999000 then okD (mA [z, .tuple [.int (a * (0 - 1)), .int b]]) else none
    | _ => none,
  fun p q => okD (mM [p, q])⟩
def gAllL (F : Ops) (n : Nat) (ds : List PyData) (r : PyData) : EvR := match pairsT ds, ds.getLast? with
  | some TT, some (.tuple [.str _, t]) => if (TT.map (·.1)).Nodup then evT F TT n t r else none
  | _, _ => none
def Same (mL : List PyData → Rp) (g g' : List PyData → PyData → EvR) (xs : List PyData) (r : PyData) : Prop := ∃ d c c', g xs r = some (d, c) ∧ c ≤ 1000000 ∧ g' xs r = some (d, c') ∧ c' ≤ 1000000 ∧ okD (mL [d, d]) = some (.bool true)
def Hs18 (mR mP : List PyData → Fl → Rf) (mL : List PyData → Rp) (g g' : List PyData → PyData → EvR) (ns : List Int) : Prop := ∃ (xs1 xs2 : List PyData) (p1 p2 : PyData) (f1 f2 f3 f4 : Fl) (b1 b2 : Bool), mR [.int 6] (fl0 ns) = .ok (.tuple xs1) false f1 ∧ mR [.int 6] f1 = .ok (.tuple xs2) false f2 ∧ mP [] f2 = .ok p1 b1 f3 ∧ mP [] f3 = .ok p2 b2 f4 ∧
  ∀ xs, (xs = xs1 ∨ xs = xs2) → ∀ r, (r = p1 ∨ r = p2 ∨ r = .tuple [.int 0, .int 1] ∨ r = .tuple [.int 1, .int 1]) → Same mL g g' xs r
end NW
namespace NW
open PySem PySem.Spec PyProof.Rows L2 LiI
noncomputable def b_common_part : MS :=
    (sSeq (sWhile (bTest (eOp (opEq true) (eVar 1) (eC (.int 0))))
    (sPar 0 1 (aCons (eVar 1) (aCons (eOp fMod (eVar 0) (eVar 1)) aNil))))
    (sRet (eCB cAbs (aCons (eVar 0) aNil))))
@[irreducible] noncomputable def m_common_part : List PyData → Rp := pureOf 2 b_common_part
noncomputable def b_fraction : MS :=
    (sSeq (sAsg 2 (eCallP 2 m_common_part (aCons (eVar 0) (aCons (eVar 1) aNil))))
    (sSeq (sIf (bTest (eOp fLt (eVar 1) (eC (.int 0))))
    (sAsg 2 (eOp fSub (eC (.int 0)) (eVar 2)))
    sNext)
    (sRet (eTup (aCons (eOp fDiv (eVar 0) (eVar 2)) (aCons (eOp fDiv (eVar 1) (eVar 2)) aNil))))))
@[irreducible] noncomputable def m_fraction : List PyData → Rp := pureOf 3 b_fraction
noncomputable def b_L_flow : MS :=
    (sRet (eOwn (lDisp (aCons (eFrz (lCB cListOf (aCons (eVar 0) aNil))) (aCons (eC (.int 0)) (aCons (eC (.int 0)) (aCons (eC (.int 1)) (aCons (eC (.int 0)) aNil))))))))
noncomputable def b_L_pick : MS :=
    (sSeq (sIf (bAnd (bTest (eOp (opEq false) (eOp fIx (eVar 0) (eC (.int 2))) (eC (.int 0)))) (bTest (eOp fLt (eOp fIx (eVar 0) (eC (.int 1))) (eCB cLen (aCons (eOp fIx (eVar 0) (eC (.int 0))) aNil)))))
    (sSeq (sAsg 2 (eOp fIx (eOp fIx (eVar 0) (eC (.int 0))) (eOp fIx (eVar 0) (eC (.int 1)))))
    (sSeq (sAsgG (eOp fAddA (eOp fIx (eVar 0) (eC (.int 1))) (eC (.int 1))) (gSubM (eVar 0) (eC (.int 1))))
    (sIf (bTest (eOp fGe (eVar 2) (eOp fPow (eC (.int 10)) (eC (.int 18)))))
    (sAsgG (eVar 2) (gSubM (eVar 0) (eC (.int 2))))
    (sAsgG (eOp fMod (eOp fAddA (eOp fAddA (eOp fMulA (eOp fIx (eVar 0) (eC (.int 3))) (eC (.int 40013))) (eOp fMod (eVar 2) (eC (.int 1000003)))) (eC (.int 1))) (eC (.int 2147483647))) (gSubM (eVar 0) (eC (.int 3)))))))
    sNext)
    (sSeq (sIf (bTest (eOp fGt (eOp fIx (eVar 0) (eC (.int 2))) (eC (.int 0))))
    (sSeq (sAsg 3 (eOp fMod (eOp fIx (eVar 0) (eC (.int 2))) (eVar 1)))
    (sSeq (sAsgG (eOp fDiv (eOp fIx (eVar 0) (eC (.int 2))) (eVar 1)) (gSubM (eVar 0) (eC (.int 2))))
    (sRet (eVar 3))))
    sNext)
    (sSeq (sAsgG (eOp fAddA (eOp fIx (eVar 0) (eC (.int 4))) (eC (.int 1))) (gSubM (eVar 0) (eC (.int 4))))
    (sSeq (sAsgG (eOp fMod (eOp fAddA (eOp fAddA (eOp fMulA (eOp fIx (eVar 0) (eC (.int 3))) (eC (.int 48271))) (eC (.int 12820163))) (eOp fIx (eVar 0) (eC (.int 4)))) (eC (.int 2147483647))) (gSubM (eVar 0) (eC (.int 3))))
    (sRet (eOp fMod (eOp fDiv (eOp fMod (eOp fMulA (eOp fAddA (eOp fMod (eOp fIx (eVar 0) (eC (.int 3))) (eC (.int 65521))) (eC (.int 1))) (eOp fAddA (eOp fDiv (eOp fIx (eVar 0) (eC (.int 3))) (eC (.int 65521))) (eC (.int 7919)))) (eC (.int 1000003))) (eC (.int 7))) (eVar 1)))))))
@[irreducible] noncomputable def m_L_pick : List PyData → Fl → Rf := flowOf 4 b_L_pick
noncomputable def b_L_common : MS :=
    (sSeq (sWhile (bTest (eOp (opEq true) (eVar 1) (eC (.int 0))))
    (sPar 0 1 (aCons (eVar 1) (aCons (eOp fMod (eVar 0) (eVar 1)) aNil))))
    (sRet (eCB cAbs (aCons (eVar 0) aNil))))
@[irreducible] noncomputable def m_L_common : List PyData → Rp := pureOf 2 b_L_common
noncomputable def b_added : MS :=
    (sRet (eCallP 2 m_fraction (aCons (eOp fAddA (eOp fMulA (eOp fIx (eVar 0) (eC (.int 0))) (eOp fIx (eVar 1) (eC (.int 1)))) (eOp fMulA (eOp fIx (eVar 1) (eC (.int 0))) (eOp fIx (eVar 0) (eC (.int 1))))) (aCons (eOp fMulA (eOp fIx (eVar 0) (eC (.int 1))) (eOp fIx (eVar 1) (eC (.int 1)))) aNil))))
@[irreducible] noncomputable def m_added : List PyData → Rp := pureOf 2 b_added
noncomputable def b_taken : MS :=
    (sRet (eCallP 2 m_fraction (aCons (eOp fSub (eOp fMulA (eOp fIx (eVar 0) (eC (.int 0))) (eOp fIx (eVar 1) (eC (.int 1)))) (eOp fMulA (eOp fIx (eVar 1) (eC (.int 0))) (eOp fIx (eVar 0) (eC (.int 1))))) (aCons (eOp fMulA (eOp fIx (eVar 0) (eC (.int 1))) (eOp fIx (eVar 1) (eC (.int 1)))) aNil))))
@[irreducible] noncomputable def m_taken : List PyData → Rp := pureOf 2 b_taken
noncomputable def b_multiplied : MS :=
    (sRet (eCallP 2 m_fraction (aCons (eOp fMulA (eOp fIx (eVar 0) (eC (.int 0))) (eOp fIx (eVar 1) (eC (.int 0)))) (aCons (eOp fMulA (eOp fIx (eVar 0) (eC (.int 1))) (eOp fIx (eVar 1) (eC (.int 1)))) aNil))))
@[irreducible] noncomputable def m_multiplied : List PyData → Rp := pureOf 2 b_multiplied
noncomputable def b_L_alike (mm : List PyData → Rp) : MS :=
    (sSeq (sIf (bTru (eIsiT (eVar 1) ["list", "tuple"]))
    (sSeq (sIf (bTest (eOp (opEq true) (eIsi (eVar 0) "list") (eIsi (eVar 1) "list")))
    (sRet (eC (.bool false)))
    sNext)
    (sSeq (sIf (bTest (eOp (opEq true) (eIsi (eVar 0) "tuple") (eIsi (eVar 1) "tuple")))
    (sRet (eC (.bool false)))
    sNext)
    (sRet (eAndV (eOp (opEq false) (eCB cLen (aCons (eVar 0) aNil)) (eCB cLen (aCons (eVar 1) aNil))) (eCB cAll (aCons (eFrz (lLc (mR1 (aCons (eCB cLen (aCons (eVar 1) aNil)) aNil)) (([(("_law_k" : Str), 2)] : List (Str × Nat)).map (·.2)) (gNameM 2) bYes (eCallP 2 mm (aCons (eOp fIx (eVar 0) (eVar 2)) (aCons (eOp fIx (eVar 1) (eVar 2)) aNil))))) aNil))))))
    sNext)
    (sRet (eAndV (eOp (opEq false) (eIsi (eVar 0) "bool") (eIsi (eVar 1) "bool")) (eOp (opEq false) (eVar 0) (eVar 1)))))
noncomputable def r_L_alike : Nat → List PyData → Rp
  | 0 => fun _ => .no
  | n + 1 => pureOf 3 (b_L_alike (r_L_alike n))
@[irreducible] noncomputable def m_L_alike (n : Nat) : List PyData → Rp := r_L_alike n
theorem z_L_alike : m_L_alike 0 = fun _ => .no := by unfold m_L_alike; rfl
theorem s_L_alike {n : Nat} : m_L_alike (n + 1) = pureOf 3 (b_L_alike (m_L_alike n)) := by unfold m_L_alike; rfl
noncomputable def b_L_fraction : MS :=
    (sSeq (sAsg 2 (eCallP 2 m_L_common (aCons (eVar 0) (aCons (eVar 1) aNil))))
    (sSeq (sIf (bTest (eOp fLt (eVar 1) (eC (.int 0))))
    (sAsg 2 (eOp fSub (eC (.int 0)) (eVar 2)))
    sNext)
    (sRet (eTup (aCons (eOp fDiv (eVar 0) (eVar 2)) (aCons (eOp fDiv (eVar 1) (eVar 2)) aNil))))))
@[irreducible] noncomputable def m_L_fraction : List PyData → Rp := pureOf 3 b_L_fraction
noncomputable def b_L_added : MS :=
    (sRet (eCallP 2 m_L_fraction (aCons (eOp fAddA (eOp fMulA (eOp fIx (eVar 0) (eC (.int 0))) (eOp fIx (eVar 1) (eC (.int 1)))) (eOp fMulA (eOp fIx (eVar 1) (eC (.int 0))) (eOp fIx (eVar 0) (eC (.int 1))))) (aCons (eOp fMulA (eOp fIx (eVar 0) (eC (.int 1))) (eOp fIx (eVar 1) (eC (.int 1)))) aNil))))
@[irreducible] noncomputable def m_L_added : List PyData → Rp := pureOf 2 b_L_added
noncomputable def b_L_product : MS :=
    (sRet (eCallP 2 m_L_fraction (aCons (eOp fMulA (eOp fIx (eVar 0) (eC (.int 0))) (eOp fIx (eVar 1) (eC (.int 0)))) (aCons (eOp fMulA (eOp fIx (eVar 0) (eC (.int 1))) (eOp fIx (eVar 1) (eC (.int 1)))) aNil))))
@[irreducible] noncomputable def m_L_product : List PyData → Rp := pureOf 2 b_L_product
noncomputable def b_L_number : MS :=
    (sRet (eOp fSub (eCallF 2 m_L_pick (aCons (eVar 0) (aCons (eOp fAddA (eOp fMulA (eC (.int 2)) (eVar 1)) (eC (.int 1))) aNil))) (eVar 1)))
@[irreducible] noncomputable def m_L_number : List PyData → Fl → Rf := flowOf 2 b_L_number
noncomputable def b_L_any_fraction : MS :=
    (sRet (eCallP 2 m_L_fraction (aCons (eCallF 2 m_L_number (aCons (eVar 0) (aCons (eVar 1) aNil))) (aCons (eOp fAddA (eC (.int 1)) (eCallF 2 m_L_pick (aCons (eVar 0) (aCons (eOp fIx (eFrz (lDisp (aCons (eC (.int 1)) (aCons (eC (.int 1)) (aCons (eC (.int 3)) (aCons (eVar 1) aNil)))))) (eCallF 2 m_L_pick (aCons (eVar 0) (aCons (eC (.int 4)) aNil)))) aNil)))) aNil))))
@[irreducible] noncomputable def m_L_any_fraction : List PyData → Fl → Rf := flowOf 2 b_L_any_fraction
noncomputable def b_L_word : MS :=
    (sSeq (sAsg 1 (eC (.str ("abcdefghijklmnopqrstuvwxyz" : Str))))
    (sSeq (sAsg 2 (eMeth1 fJoin (eC (.str ("" : Str))) (eFrz (lLc (mR1 (aCons (eOp fAddA (eC (.int 1)) (eCallF 2 m_L_pick (aCons (eVar 0) (aCons (eC (.int 6)) aNil)))) aNil)) (([(("_law_k" : Str), 3)] : List (Str × Nat)).map (·.2)) (gNameM 3) bYes (eOp fIx (eVar 1) (eCallF 2 m_L_pick (aCons (eVar 0) (aCons (eC (.int 26)) aNil))))))))
    (sSeq (sIf (bTest (eOp (opEq false) (eCallF 2 m_L_pick (aCons (eVar 0) (aCons (eC (.int 6)) aNil))) (eC (.int 0))))
    (sAsg 2 (eOp fIx (eFrz (lDisp (aCons (eC (.str ("ofx" : Str))) (aCons (eC (.str ("xof" : Str))) (aCons (eC (.str ("o" : Str))) (aCons (eC (.str ("f" : Str))) (aCons (eC (.str ("agai" : Str))) (aCons (eSlAny (eC (.str ("again" : Str))) (oSome (eC (.int 1))) oNone) (aCons (eC (.str ("xx" : Str))) (aCons (eC (.str ("aga" : Str))) aNil)))))))))) (eCallF 2 m_L_pick (aCons (eVar 0) (aCons (eC (.int 8)) aNil)))))
    sNext)
    (sRet (eOp fAddA (eVar 2) (eOp fMulS (eC (.str ("z" : Str))) (eCB cInt (aCons (eOp (fIn false) (eVar 2) (eTup (aCons (eC (.str ("x" : Str))) (aCons (eC (.str ("of" : Str))) (aCons (eC (.str ("again" : Str))) aNil))))) aNil))))))))
@[irreducible] noncomputable def m_L_word : List PyData → Fl → Rf := flowOf 4 b_L_word
noncomputable def b_L_words : MS :=
    (sSeq (sAsg 2 (eC (.str ("abcdefghijklmnopqrstuvwxyz" : Str))))
    (sSeq (sAsg 3 (eOp (opEq false) (eCallF 2 m_L_pick (aCons (eVar 0) (aCons (eC (.int 2)) aNil))) (eC (.int 0))))
    (sSeq (sAsg 4 (eCallF 1 m_L_word (aCons (eVar 0) aNil)))
    (sSeq (sAsg 5 (eCallF 2 m_L_pick (aCons (eVar 0) (aCons (eCB cLen (aCons (eVar 4) aNil)) aNil))))
    (sSeq (sAsg 6 (eCallF 2 m_L_pick (aCons (eVar 0) (aCons (eC (.int 26)) aNil))))
    (sSeq (sAsg 7 (eOwn (lDisp aNil)))
    (sSeq (sFor (mR1 (aCons (eVar 1) aNil)) (gNameM 8)
    (sSeq (sAsg 9 (eCallF 1 m_L_word (aCons (eVar 0) aNil)))
    (sSeq (sIf (bTru (eVar 3))
    (sAsg 9 (eOp fAddA (eOp fAddA (eSlAny (eVar 4) oNone (oSome (eVar 5))) (eOp fIx (eVar 2) (eOp fMod (eOp fAddA (eVar 6) (eVar 8)) (eC (.int 26))))) (eSlAny (eVar 4) (oSome (eOp fAddA (eVar 5) (eC (.int 1)))) oNone)))
    sNext)
    (sSeq (sAsg 10 (eC (.int 0)))
    (sSeq (sWhile (bOr (bTest (eOp (fIn false) (eVar 9) (eVar 7))) (bTest (eOp (fIn false) (eVar 9) (eTup (aCons (eC (.str ("x" : Str))) (aCons (eC (.str ("of" : Str))) (aCons (eC (.str ("again" : Str))) aNil)))))))
    (sSeq (sAsg 9 (eOp fMulS (eOp fIx (eVar 2) (eOp fMod (eVar 10) (eC (.int 26)))) (eOp fAddA (eC (.int 2)) (eOp fDiv (eVar 10) (eC (.int 26))))))
    (sAsg 10 (eOp fAddA (eVar 10) (eC (.int 1))))))
    (sDrop (eMethL mAppend (eVar 7) (aCons (eVar 9) aNil))))))))
    (sRet (eVar 7)))))))))
@[irreducible] noncomputable def m_L_words : List PyData → Fl → Rf := flowOf 11 b_L_words
noncomputable def b_L_leaf : MS :=
    (sSeq (sAsg 2 (eCallF 2 m_L_pick (aCons (eVar 0) (aCons (eC (.int 6)) aNil))))
    (sSeq (sIf (bTest (eOp fLt (eVar 2) (eC (.int 2))))
    (sRet (eTup (aCons (eC (.str ("x" : Str))) aNil)))
    sNext)
    (sSeq (sIf (bAnd (bTest (eOp fLt (eVar 2) (eC (.int 4)))) (bTest (eOp fGt (eCB cLen (aCons (eVar 1) aNil)) (eC (.int 0)))))
    (sRet (eTup (aCons (eC (.str ("name" : Str))) (aCons (eOp fIx (eVar 1) (eCallF 2 m_L_pick (aCons (eVar 0) (aCons (eCB cLen (aCons (eVar 1) aNil)) aNil)))) aNil))))
    sNext)
    (sSeq (sAsg 3 (eCallF 2 m_L_number (aCons (eVar 0) (aCons (eOp fIx (eFrz (lDisp (aCons (eC (.int 3)) (aCons (eC (.int 3)) (aCons (eC (.int 20)) (aCons (eC (.int 999)) aNil)))))) (eCallF 2 m_L_pick (aCons (eVar 0) (aCons (eC (.int 4)) aNil)))) aNil))))
    (sRet (eTup (aCons (eC (.str ("number" : Str))) (aCons (eCallP 2 m_L_fraction (aCons (eVar 3) (aCons (eOp fAddA (eC (.int 1)) (eCallF 2 m_L_pick (aCons (eVar 0) (aCons (eOp fIx (eFrz (lDisp (aCons (eC (.int 1)) (aCons (eC (.int 1)) (aCons (eC (.int 9)) (aCons (eC (.int 999)) aNil)))))) (eCallF 2 m_L_pick (aCons (eVar 0) (aCons (eC (.int 4)) aNil)))) aNil)))) aNil))) aNil))))))))
@[irreducible] noncomputable def m_L_leaf : List PyData → Fl → Rf := flowOf 4 b_L_leaf
noncomputable def b_L_term (mm : List PyData → Fl → Rf) : MS :=
    (sSeq (sAsg 4 (eCallF 2 m_L_pick (aCons (eVar 0) (aCons (eC (.int 9)) aNil))))
    (sSeq (sIf (bOr (bTest (eOp fLt (eVar 2) (eC (.int 2)))) (bOr (bTest (eOp (opEq false) (eVar 3) (eC (.int 0)))) (bOr (bTest (eOp fLt (eVar 4) (eC (.int 1)))) (bAnd (bTest (eOp fLt (eVar 2) (eC (.int 3)))) (bTest (eOp fGt (eVar 4) (eC (.int 2))))))))
    (sRet (eCallF 2 m_L_leaf (aCons (eVar 0) (aCons (eVar 1) aNil))))
    sNext)
    (sSeq (sIf (bTest (eOp fLt (eVar 4) (eC (.int 3))))
    (sRet (eTup (aCons (eOp fIx (eFrz (lDisp (aCons (eC (.str ("power" : Str))) (aCons (eC (.str ("again" : Str))) aNil)))) (eOp fSub (eVar 4) (eC (.int 1)))) (aCons (eCallF 4 mm (aCons (eVar 0) (aCons (eVar 1) (aCons (eOp fSub (eVar 2) (eC (.int 1))) (aCons (eOp fSub (eVar 3) (eC (.int 1))) aNil))))) (aCons (eCallF 2 m_L_pick (aCons (eVar 0) (aCons (eC (.int 7)) aNil))) aNil)))))
    sNext)
    (sSeq (sAsg 5 (eOp fAddA (eC (.int 1)) (eCallF 2 m_L_pick (aCons (eVar 0) (aCons (eOp fSub (eVar 2) (eC (.int 2))) aNil)))))
    (sSeq (sAsg 6 (eCallF 4 mm (aCons (eVar 0) (aCons (eVar 1) (aCons (eVar 5) (aCons (eOp fSub (eVar 3) (eC (.int 1))) aNil))))))
    (sSeq (sAsg 7 (eCallF 4 mm (aCons (eVar 0) (aCons (eVar 1) (aCons (eOp fSub (eOp fSub (eVar 2) (eC (.int 1))) (eVar 5)) (aCons (eOp fSub (eVar 3) (eC (.int 1))) aNil))))))
    (sRet (eTup (aCons (eOp fIx (eFrz (lDisp (aCons (eC (.str ("plus" : Str))) (aCons (eC (.str ("minus" : Str))) (aCons (eC (.str ("times" : Str))) (aCons (eC (.str ("times" : Str))) (aCons (eC (.str ("of" : Str))) (aCons (eC (.str ("of" : Str))) aNil)))))))) (eOp fSub (eVar 4) (eC (.int 3)))) (aCons (eVar 6) (aCons (eVar 7) aNil)))))))))))
noncomputable def r_L_term : Nat → List PyData → Fl → Rf
  | 0 => fun _ _ => .no
  | n + 1 => flowOf 8 (b_L_term (r_L_term n))
@[irreducible] noncomputable def m_L_term (n : Nat) : List PyData → Fl → Rf := r_L_term n
theorem z_L_term : m_L_term 0 = fun _ _ => .no := by unfold m_L_term; rfl
theorem s_L_term {n : Nat} : m_L_term (n + 1) = flowOf 8 (b_L_term (m_L_term n)) := by unfold m_L_term; rfl
noncomputable def b_L_inner : MS :=
    (sSeq (sIf (bTest (eOp (fIn false) (eOp fIx (eVar 0) (eC (.int 0))) (eTup (aCons (eC (.str ("x" : Str))) (aCons (eC (.str ("number" : Str))) (aCons (eC (.str ("name" : Str))) aNil))))))
    (sRet (eFrz (lDisp aNil)))
    sNext)
    (sSeq (sIf (bTest (eOp (fIn false) (eOp fIx (eVar 0) (eC (.int 0))) (eTup (aCons (eC (.str ("power" : Str))) (aCons (eC (.str ("again" : Str))) aNil)))))
    (sRet (eFrz (lDisp (aCons (eOp fIx (eVar 0) (eC (.int 1))) aNil))))
    sNext)
    (sRet (eFrz (lDisp (aCons (eOp fIx (eVar 0) (eC (.int 1))) (aCons (eOp fIx (eVar 0) (eC (.int 2))) aNil)))))))
@[irreducible] noncomputable def m_L_inner : List PyData → Rp := pureOf 1 b_L_inner
noncomputable def b_L_parts (mm : List PyData → Rp) : MS :=
    (sSeq (sAsg 1 (eOwn (lDisp (aCons (eVar 0) aNil))))
    (sSeq (sFor (mAny (eCallP 1 m_L_inner (aCons (eVar 0) aNil))) (gNameM 2)
    (sDrop (eMethL mExtend (eVar 1) (aCons (eCallP 1 mm (aCons (eVar 2) aNil)) aNil))))
    (sRet (eVar 1))))
noncomputable def r_L_parts : Nat → List PyData → Rp
  | 0 => fun _ => .no
  | n + 1 => pureOf 3 (b_L_parts (r_L_parts n))
@[irreducible] noncomputable def m_L_parts (n : Nat) : List PyData → Rp := r_L_parts n
theorem z_L_parts : m_L_parts 0 = fun _ => .no := by unfold m_L_parts; rfl
theorem s_L_parts {n : Nat} : m_L_parts (n + 1) = pureOf 3 (b_L_parts (m_L_parts n)) := by unfold m_L_parts; rfl
noncomputable def b_L_multiplied : MS :=
    (sSeq (sAsg 2 (eC (.int 1)))
    (sSeq (sFor (mR1 (aCons (eVar 1) aNil)) (gNameM 3)
    (sAsg 2 (eOp fMulA (eVar 2) (eVar 0))))
    (sRet (eVar 2))))
@[irreducible] noncomputable def m_L_multiplied : List PyData → Rp := pureOf 4 b_L_multiplied
noncomputable def b_L_reach (mm : List U → Rp) : MS :=
    (sSeq (sIf (bTest (eOp (opEq false) (eOp fIx (eVar 0) (eC (.int 0))) (eC (.str ("name" : Str)))))
    (sRet (eOp fDGet (eVar 1) (eOp fIx (eVar 0) (eC (.int 1)))))
    sNext)
    (sSeq (sAsg 2 (if true = true then eFrz (lLc (mAny (eCallP 1 m_L_inner (aCons (eVar 0) aNil))) (([(("_law_one" : Str), 3)] : List (Str × Nat)).map (·.2)) (gNameM 3) bYes (eCallU 2 mm (aCons (eVar 3) (aCons (eVar 1) aNil)))) else eOwn (lLc (mAny (eCallP 1 m_L_inner (aCons (eVar 0) aNil))) (([(("_law_one" : Str), 3)] : List (Str × Nat)).map (·.2)) (gNameM 3) bYes (eCallU 2 mm (aCons (eVar 3) (aCons (eVar 1) aNil))))))
    (sSeq (sIf (bTest (eOp (opEq false) (eOp fIx (eVar 0) (eC (.int 0))) (eC (.str ("power" : Str)))))
    (sRet (eOp fIx (eFrz (lDisp (aCons (eC (.int 1)) (aCons (eOp fMulA (eOp fIx (eVar 2) (eC (.int 0))) (eOp fIx (eVar 0) (eC (.int 2)))) aNil)))) (eCB cInt (aCons (eOp fGt (eOp fIx (eVar 0) (eC (.int 2))) (eC (.int 0))) aNil))))
    sNext)
    (sSeq (sIf (bTest (eOp (opEq false) (eOp fIx (eVar 0) (eC (.int 0))) (eC (.str ("again" : Str)))))
    (sRet (eOp fIx (eFrz (lDisp (aCons (eC (.int 1)) (aCons (eCB cMax2 (aCons (eOp fIx (eVar 0) (eC (.int 2))) (aCons (eCallP 2 m_L_multiplied (aCons (eOp fIx (eVar 2) (eC (.int 0))) (aCons (eOp fIx (eVar 0) (eC (.int 2))) aNil))) aNil))) aNil)))) (eCB cInt (aCons (eOp fGt (eOp fIx (eVar 0) (eC (.int 2))) (eC (.int 0))) aNil))))
    sNext)
    (sSeq (sIf (bTest (eOp (opEq false) (eOp fIx (eVar 0) (eC (.int 0))) (eC (.str ("times" : Str)))))
    (sRet (eOp fAddA (eOp fIx (eVar 2) (eC (.int 0))) (eOp fIx (eVar 2) (eC (.int 1)))))
    sNext)
    (sSeq (sIf (bTest (eOp (opEq false) (eOp fIx (eVar 0) (eC (.int 0))) (eC (.str ("of" : Str)))))
    (sRet (eOp fMulA (eOp fIx (eVar 2) (eC (.int 0))) (eOp fIx (eVar 2) (eC (.int 1)))))
    sNext)
    (sRet (eCB cMaxL (aCons (eOp fAddA (eVar 2) (eFrz (lDisp (aCons (eC (.int 1)) aNil)))) aNil)))))))))
noncomputable def r_L_reach : Nat → List U → Rp
  | 0 => fun _ => .no
  | n + 1 => pureU 4 (b_L_reach (r_L_reach n))
@[irreducible] noncomputable def m_L_reach (n : Nat) : List U → Rp := r_L_reach n
theorem s_L_reach {n : Nat} : m_L_reach (n + 1) = pureU 4 (b_L_reach (m_L_reach n)) := by unfold m_L_reach; rfl
noncomputable def b_L_heft (mm : List U → Rp) : MS :=
    (sSeq (sIf (bTest (eOp (opEq false) (eOp fIx (eVar 0) (eC (.int 0))) (eC (.str ("x" : Str)))))
    (sRet (eTup (aCons (eC (.int 0)) (aCons (eC (.int 1)) aNil))))
    sNext)
    (sSeq (sIf (bTest (eOp (opEq false) (eOp fIx (eVar 0) (eC (.int 0))) (eC (.str ("number" : Str)))))
    (sRet (eTup (aCons (eC (.int 3)) (aCons (eC (.int 0)) aNil))))
    sNext)
    (sSeq (sIf (bTest (eOp (opEq false) (eOp fIx (eVar 0) (eC (.int 0))) (eC (.str ("name" : Str)))))
    (sRet (eOp fDGet (eVar 1) (eOp fIx (eVar 0) (eC (.int 1)))))
    sNext)
    (sSeq (sAsg 2 (if true = true then eFrz (lLc (mAny (eCallP 1 m_L_inner (aCons (eVar 0) aNil))) (([(("_law_one" : Str), 7)] : List (Str × Nat)).map (·.2)) (gNameM 7) bYes (eCallU 2 mm (aCons (eVar 7) (aCons (eVar 1) aNil)))) else eOwn (lLc (mAny (eCallP 1 m_L_inner (aCons (eVar 0) aNil))) (([(("_law_one" : Str), 7)] : List (Str × Nat)).map (·.2)) (gNameM 7) bYes (eCallU 2 mm (aCons (eVar 7) (aCons (eVar 1) aNil))))))
    (sSeq (sAsgG (eOp fIx (eVar 2) (eC (.int 0))) (gTupM 2 (gConsM (gNameM 3) (gConsM (gNameM 4) gNilM))))
    (sSeq (sIf (bTest (eOp (opEq false) (eOp fIx (eVar 0) (eC (.int 0))) (eC (.str ("power" : Str)))))
    (sRet (eTup (aCons (eOp fAddA (eOp fMulA (eVar 3) (eOp fIx (eVar 0) (eC (.int 2)))) (eC (.int 1))) (aCons (eOp fMulA (eVar 4) (eOp fIx (eVar 0) (eC (.int 2)))) aNil))))
    sNext)
    (sSeq (sIf (bTest (eOp (opEq false) (eOp fIx (eVar 0) (eC (.int 0))) (eC (.str ("of" : Str)))))
    (sRet (eTup (aCons (eOp fAddA (eVar 3) (eOp fMulA (eVar 4) (eOp fIx (eOp fIx (eVar 2) (eC (.int 1))) (eC (.int 0))))) (aCons (eOp fMulA (eVar 4) (eOp fIx (eOp fIx (eVar 2) (eC (.int 1))) (eC (.int 1)))) aNil))))
    sNext)
    (sSeq (sIf (bTest (eOp (opEq false) (eOp fIx (eVar 0) (eC (.int 0))) (eC (.str ("again" : Str)))))
    (sSeq (sAsg 5 (eTup (aCons (eC (.int 0)) (aCons (eC (.int 1)) aNil))))
    (sSeq (sFor (mR1 (aCons (eOp fIx (eVar 0) (eC (.int 2))) aNil)) (gNameM 6)
    (sAsg 5 (eTup (aCons (eOp fAddA (eVar 3) (eOp fMulA (eVar 4) (eOp fIx (eVar 5) (eC (.int 0))))) (aCons (eOp fMulA (eVar 4) (eOp fIx (eVar 5) (eC (.int 1)))) aNil)))))
    (sRet (eVar 5))))
    sNext)
    (sRet (eTup (aCons (eOp fAddA (eOp fAddA (eVar 3) (eOp fIx (eOp fIx (eVar 2) (eC (.int 1))) (eC (.int 0)))) (eC (.int 1))) (aCons (eOp fAddA (eVar 4) (eOp fIx (eOp fIx (eVar 2) (eC (.int 1))) (eC (.int 1)))) aNil))))))))))))
noncomputable def r_L_heft : Nat → List U → Rp
  | 0 => fun _ => .no
  | n + 1 => pureU 8 (b_L_heft (r_L_heft n))
@[irreducible] noncomputable def m_L_heft (n : Nat) : List U → Rp := r_L_heft n
theorem s_L_heft {n : Nat} : m_L_heft (n + 1) = pureU 8 (b_L_heft (m_L_heft n)) := by unfold m_L_heft; rfl
end NW
namespace NW
open PySem PySem.Spec PyProof.Rows L2 LiI
noncomputable def b_L_reach_2 (mm : List U → Rp) : MS :=
    (sSeq (sIf (bTest (eOp (opEq false) (eOp fIx (eVar 0) (eC (.int 0))) (eC (.str ("name" : Str)))))
    (sRet (eOp fDGet (eVar 1) (eOp fIx (eVar 0) (eC (.int 1)))))
    sNext)
    (sSeq (sAsg 2 (if true = true then eFrz (lLc (mAny (eCallP 1 m_L_inner (aCons (eVar 0) aNil))) (([(("_law_one" : Str), 3)] : List (Str × Nat)).map Prod.snd) (gNameM 3) bYes (eCallU 2 mm (aCons (eVar 3) (aCons (eVar 1) aNil)))) else eOwn (lLc (mAny (eCallP 1 m_L_inner (aCons (eVar 0) aNil))) (([(("_law_one" : Str), 3)] : List (Str × Nat)).map Prod.snd) (gNameM 3) bYes (eCallU 2 mm (aCons (eVar 3) (aCons (eVar 1) aNil))))))
    (sSeq (sIf (bTest (eOp (opEq false) (eOp fIx (eVar 0) (eC (.int 0))) (eC (.str ("power" : Str)))))
    (sRet (eOp fMulA (eOp fIx (eVar 2) (eC (.int 0))) (eCB cMax2 (aCons (eC (.int 1)) (aCons (eOp fIx (eVar 0) (eC (.int 2))) aNil)))))
    sNext)
    (sSeq (sIf (bTest (eOp (opEq false) (eOp fIx (eVar 0) (eC (.int 0))) (eC (.str ("again" : Str)))))
    (sRet (eOp fIx (eFrz (lDisp (aCons (eC (.int 1)) (aCons (eCB cMax2 (aCons (eOp fIx (eVar 0) (eC (.int 2))) (aCons (eCallP 2 m_L_multiplied (aCons (eOp fIx (eVar 2) (eC (.int 0))) (aCons (eOp fIx (eVar 0) (eC (.int 2))) aNil))) aNil))) aNil)))) (eCB cInt (aCons (eOp fGt (eOp fIx (eVar 0) (eC (.int 2))) (eC (.int 0))) aNil))))
    sNext)
    (sSeq (sIf (bTest (eOp (opEq false) (eOp fIx (eVar 0) (eC (.int 0))) (eC (.str ("times" : Str)))))
    (sRet (eOp fAddA (eOp fIx (eVar 2) (eC (.int 0))) (eOp fIx (eVar 2) (eC (.int 1)))))
    sNext)
    (sSeq (sIf (bTest (eOp (opEq false) (eOp fIx (eVar 0) (eC (.int 0))) (eC (.str ("of" : Str)))))
    (sRet (eOp fMulA (eOp fIx (eVar 2) (eC (.int 0))) (eOp fIx (eVar 2) (eC (.int 1)))))
    sNext)
    (sRet (eCB cMaxL (aCons (eOp fAddA (eVar 2) (eFrz (lDisp (aCons (eC (.int 1)) aNil)))) aNil)))))))))
noncomputable def r_L_reach_2 : Nat → List U → Rp
  | 0 => fun _ => .no
  | n + 1 => pureU 4 (b_L_reach_2 (r_L_reach_2 n))
@[irreducible] noncomputable def m_L_reach_2 (n : Nat) : List U → Rp := r_L_reach_2 n
theorem z_L_reach_2 : m_L_reach_2 0 = fun _ => .no := by unfold m_L_reach_2; rfl
theorem s_L_reach_2 {n : Nat} : m_L_reach_2 (n + 1) = pureU 4 (b_L_reach_2 (m_L_reach_2 n)) := by unfold m_L_reach_2; rfl
noncomputable def b_L_asks (mm : List U → Rp) : MS :=
    (sSeq (sIf (bTest (eOp (opEq false) (eOp fIx (eVar 0) (eC (.int 0))) (eC (.str ("name" : Str)))))
    (sRet (eOp fAddA (eC (.int 1)) (eOp fDGet (eVar 1) (eOp fIx (eVar 0) (eC (.int 1))))))
    sNext)
    (sSeq (sAsg 2 (if true = true then eFrz (lLc (mAny (eCallP 1 m_L_inner (aCons (eVar 0) aNil))) (([(("_law_one" : Str), 3)] : List (Str × Nat)).map Prod.snd) (gNameM 3) bYes (eCallU 2 mm (aCons (eVar 3) (aCons (eVar 1) aNil)))) else eOwn (lLc (mAny (eCallP 1 m_L_inner (aCons (eVar 0) aNil))) (([(("_law_one" : Str), 3)] : List (Str × Nat)).map Prod.snd) (gNameM 3) bYes (eCallU 2 mm (aCons (eVar 3) (aCons (eVar 1) aNil))))))
    (sSeq (sIf (bTest (eOp (opEq false) (eOp fIx (eVar 0) (eC (.int 0))) (eC (.str ("again" : Str)))))
    (sRet (eOp fAddA (eC (.int 1)) (eOp fMulA (eOp fIx (eVar 2) (eC (.int 0))) (eOp fIx (eVar 0) (eC (.int 2))))))
    sNext)
    (sRet (eOp fAddA (eC (.int 1)) (eCB cSumA (aCons (eVar 2) aNil)))))))
noncomputable def r_L_asks : Nat → List U → Rp
  | 0 => fun _ => .no
  | n + 1 => pureU 4 (b_L_asks (r_L_asks n))
@[irreducible] noncomputable def m_L_asks (n : Nat) : List U → Rp := r_L_asks n
theorem z_L_asks : m_L_asks 0 = fun _ => .no := by unfold m_L_asks; rfl
theorem s_L_asks {n : Nat} : m_L_asks (n + 1) = pureU 4 (b_L_asks (m_L_asks n)) := by unfold m_L_asks; rfl
noncomputable def b_L_heft_2 (mm : List U → Rp) : MS :=
    (sSeq (sIf (bTest (eOp (opEq false) (eOp fIx (eVar 0) (eC (.int 0))) (eC (.str ("x" : Str)))))
    (sRet (eTup (aCons (eC (.int 0)) (aCons (eC (.int 1)) aNil))))
    sNext)
    (sSeq (sIf (bTest (eOp (opEq false) (eOp fIx (eVar 0) (eC (.int 0))) (eC (.str ("number" : Str)))))
    (sRet (eTup (aCons (eC (.int 3)) (aCons (eC (.int 0)) aNil))))
    sNext)
    (sSeq (sIf (bTest (eOp (opEq false) (eOp fIx (eVar 0) (eC (.int 0))) (eC (.str ("name" : Str)))))
    (sRet (eOp fDGet (eVar 1) (eOp fIx (eVar 0) (eC (.int 1)))))
    sNext)
    (sSeq (sAsg 2 (if true = true then eFrz (lLc (mAny (eCallP 1 m_L_inner (aCons (eVar 0) aNil))) (([(("_law_one" : Str), 7)] : List (Str × Nat)).map Prod.snd) (gNameM 7) bYes (eCallU 2 mm (aCons (eVar 7) (aCons (eVar 1) aNil)))) else eOwn (lLc (mAny (eCallP 1 m_L_inner (aCons (eVar 0) aNil))) (([(("_law_one" : Str), 7)] : List (Str × Nat)).map Prod.snd) (gNameM 7) bYes (eCallU 2 mm (aCons (eVar 7) (aCons (eVar 1) aNil))))))
    (sSeq (sAsgG (eOp fIx (eVar 2) (eC (.int 0))) (gTupM 2 (gConsM (gNameM 3) (gConsM (gNameM 4) gNilM))))
    (sSeq (sIf (bTest (eOp (opEq false) (eOp fIx (eVar 0) (eC (.int 0))) (eC (.str ("power" : Str)))))
    (sRet (eTup (aCons (eOp fAddA (eOp fMulA (eVar 3) (eCB cMax2 (aCons (eC (.int 1)) (aCons (eOp fIx (eVar 0) (eC (.int 2))) aNil)))) (eC (.int 1))) (aCons (eOp fMulA (eVar 4) (eCB cMax2 (aCons (eC (.int 1)) (aCons (eOp fIx (eVar 0) (eC (.int 2))) aNil)))) aNil))))
    sNext)
    (sSeq (sIf (bTest (eOp (opEq false) (eOp fIx (eVar 0) (eC (.int 0))) (eC (.str ("of" : Str)))))
    (sRet (eTup (aCons (eCB cMax2 (aCons (eOp fAddA (eVar 3) (eOp fMulA (eVar 4) (eOp fIx (eOp fIx (eVar 2) (eC (.int 1))) (eC (.int 0))))) (aCons (eOp fIx (eOp fIx (eVar 2) (eC (.int 1))) (eC (.int 0))) aNil))) (aCons (eCB cMax2 (aCons (eOp fMulA (eVar 4) (eOp fIx (eOp fIx (eVar 2) (eC (.int 1))) (eC (.int 1)))) (aCons (eOp fIx (eOp fIx (eVar 2) (eC (.int 1))) (eC (.int 1))) aNil))) aNil))))
    sNext)
    (sSeq (sIf (bTest (eOp (opEq false) (eOp fIx (eVar 0) (eC (.int 0))) (eC (.str ("again" : Str)))))
    (sSeq (sAsg 5 (eTup (aCons (eC (.int 0)) (aCons (eC (.int 1)) aNil))))
    (sSeq (sFor (mR1 (aCons (eOp fIx (eVar 0) (eC (.int 2))) aNil)) (gNameM 6)
    (sAsg 5 (eTup (aCons (eOp fAddA (eVar 3) (eOp fMulA (eVar 4) (eOp fIx (eVar 5) (eC (.int 0))))) (aCons (eOp fMulA (eVar 4) (eOp fIx (eVar 5) (eC (.int 1)))) aNil)))))
    (sRet (eVar 5))))
    sNext)
    (sRet (eTup (aCons (eOp fAddA (eOp fAddA (eVar 3) (eOp fIx (eOp fIx (eVar 2) (eC (.int 1))) (eC (.int 0)))) (eC (.int 1))) (aCons (eOp fAddA (eVar 4) (eOp fIx (eOp fIx (eVar 2) (eC (.int 1))) (eC (.int 1)))) aNil))))))))))))
noncomputable def r_L_heft_2 : Nat → List U → Rp
  | 0 => fun _ => .no
  | n + 1 => pureU 8 (b_L_heft_2 (r_L_heft_2 n))
@[irreducible] noncomputable def m_L_heft_2 (n : Nat) : List U → Rp := r_L_heft_2 n
theorem z_L_heft_2 : m_L_heft_2 0 = fun _ => .no := by unfold m_L_heft_2; rfl
theorem s_L_heft_2 {n : Nat} : m_L_heft_2 (n + 1) = pureU 8 (b_L_heft_2 (m_L_heft_2 n)) := by unfold m_L_heft_2; rfl
noncomputable def b_L_is_light_2 : MS :=
    (sSeq (sIf (bTest (eOp fGt (eCallU 2 (m_L_asks 10) (aCons (eVar 0) (aCons (eVar 3) aNil))) (eC (.int 600))))
    (sRet (eC (.bool false)))
    sNext)
    (sSeq (sFor (mAny (eCallP 1 (m_L_parts 10) (aCons (eVar 0) aNil))) (gNameM 4)
    (sSeq (sAsgG (eCallU 2 (m_L_heft_2 10) (aCons (eVar 4) (aCons (eVar 2) aNil))) (gTupM 2 (gConsM (gNameM 5) (gConsM (gNameM 6) gNilM))))
    (sIf (bOr (bTest (eOp fGt (eCallU 2 (m_L_reach_2 10) (aCons (eVar 4) (aCons (eVar 1) aNil))) (eC (.int 24)))) (bTest (eOp fGt (eOp fAddA (eVar 5) (eOp fMulA (eC (.int 3)) (eVar 6))) (eC (.int 150)))))
    (sRet (eC (.bool false)))
    sNext)))
    (sRet (eC (.bool true)))))
@[irreducible] noncomputable def m_L_is_light_2 : List U → Rp := pureU 7 b_L_is_light_2
noncomputable def b_L_reckoningl : MS :=
    (sSeq (sAsg 2 (eCallF 2 m_L_words (aCons (eVar 0) (aCons (eOp fAddA (eC (.int 1)) (eCallF 2 m_L_pick (aCons (eVar 0) (aCons (eVar 1) aNil)))) aNil))))
    (sSeq (sAsg 3 eNewD)
    (sSeq (sAsg 4 eNewD)
    (sSeq (sAsg 5 eNewD)
    (sSeq (sAsg 6 (eOwn (lDisp aNil)))
    (sFor (mEnum (aCons (eVar 2) aNil)) (gTupM 2 (gConsM (gNameM 7) (gConsM (gNameM 8) gNilM)))
    (sSeq (sAsg 9 (eCallF 4 (m_L_term 10) (aCons (eVar 0) (aCons (eSlAny (eVar 2) oNone (oSome (eVar 7))) (aCons (eOp fIx (eFrz (lDisp (aCons (eC (.int 1)) (aCons (eC (.int 3)) (aCons (eC (.int 6)) (aCons (eC (.int 12)) aNil)))))) (eCallF 2 m_L_pick (aCons (eVar 0) (aCons (eC (.int 4)) aNil)))) (aCons (eC (.int 5)) aNil))))))
    (sSeq (sIf (bNot (bTru (eWith 3 (eWith 4 (eWith 5 (eCallU 4 m_L_is_light_2 (aCons (eVar 9) (aCons (eVar 3) (aCons (eVar 4) (aCons (eVar 5) aNil))))))))))
    (sAsg 9 (eTup (aCons (eC (.str ("plus" : Str))) (aCons (eCallF 2 m_L_leaf (aCons (eVar 0) (aCons (eFrz (lDisp aNil)) aNil))) (aCons (eOp fIx (eFrz (lDisp (aCons (eTup (aCons (eC (.str ("x" : Str))) aNil)) (aCons (eTup (aCons (eC (.str ("times" : Str))) (aCons (eTup (aCons (eC (.str ("x" : Str))) aNil)) (aCons (eTup (aCons (eC (.str ("x" : Str))) aNil)) aNil)))) aNil)))) (eCallF 2 m_L_pick (aCons (eVar 0) (aCons (eC (.int 2)) aNil)))) aNil)))))
    sNext)
    (sSeq (sDrop (eMethL mAppend (eVar 6) (aCons (eTup (aCons (eVar 8) (aCons (eVar 9) aNil))) aNil)))
    (sSeq (sDPutM (eVar 3) (eVar 8) (eWith 3 (eCallU 2 (m_L_reach_2 10) (aCons (eVar 9) (aCons (eVar 3) aNil)))))
    (sSeq (sDPutM (eVar 4) (eVar 8) (eWith 4 (eCallU 2 (m_L_heft_2 10) (aCons (eVar 9) (aCons (eVar 4) aNil)))))
    (sDPutM (eVar 5) (eVar 8) (eWith 5 (eCallU 2 (m_L_asks 10) (aCons (eVar 9) (aCons (eVar 5) aNil))))))))))))))))
@[irreducible] noncomputable def m_L_reckoningl : List PyData → Fl → Rf := flowL 10 6 b_L_reckoningl
noncomputable def b_L_place : MS :=
    (sRet (eCallF 2 m_L_any_fraction (aCons (eVar 0) (aCons (eOp fIx (eFrz (lDisp (aCons (eC (.int 3)) (aCons (eC (.int 20)) (aCons (eC (.int 999)) aNil))))) (eCallF 2 m_L_pick (aCons (eVar 0) (aCons (eC (.int 3)) aNil)))) aNil))))
@[irreducible] noncomputable def m_L_place : List PyData → Fl → Rf := flowOf 1 b_L_place
end NW
namespace NW
open PySem PySem.Spec PyProof.Rows L2
def FlOk (f : Fl) : Prop := 0 ≤ f.held ∧ 0 ≤ f.seed ∧ f.seed < 2147483647 ∧ 0 ≤ f.place
theorem fl0_ok (ns : List Int) : FlOk (fl0 ns) := by unfold FlOk fl0; simp
theorem log2_lt {i : Int} {n : Nat} (h : i.natAbs < 2 ^ n) (h0 : 0 < n) : i.natAbs.log2 < n := by
  by_cases e : i.natAbs = 0
  · rw [e]; simp; exact h0
  · exact (Nat.log2_lt e).mpr h
theorem mulC_of {i j : Int} {a b : Nat} (ha : i.natAbs < 2 ^ a) (hb : j.natAbs < 2 ^ b) (h0 : 0 < a) (h1 : 0 < b) (h : a + b ≤ 1000000) : mulC i j = true := by
  have x := log2_lt ha h0
  have y := log2_lt hb h1
  unfold mulC
  exact decide_eq_true (by omega)
theorem divC_of {i j : Int} {b : Nat} (h : j ≠ 0) (hb : j.natAbs < 2 ^ b) (h0 : 0 < b) (h9 : b ≤ 9000) : divC i j = true := decide_eq_true h
theorem divU {i j : Int} (h : j ≠ 0) : divC i j = true := decide_eq_true h
theorem fmod_lt {a b : Int} (h : 0 < b) : 0 ≤ a.fmod b ∧ a.fmod b < b := by
  rw [Int.fmod_eq_emod_of_nonneg a (by omega)]
  exact ⟨Int.emod_nonneg a (by omega), Int.emod_lt_of_pos a h⟩
theorem fdiv_nn {a b : Int} (h0 : 0 ≤ a) (h : 0 < b) : 0 ≤ a.fdiv b := by
  rw [Int.fdiv_eq_ediv_of_nonneg a (by omega)]
  exact Int.ediv_nonneg h0 (by omega)
theorem fdiv_le {a b : Int} (h0 : 0 ≤ a) (h : 0 < b) : a.fdiv b ≤ a := by
  rw [Int.fdiv_eq_ediv_of_nonneg a (by omega)]
  exact Int.ediv_le_self b h0
theorem mulC_small {i j : Int} (h : -(2 ^ 64) < i ∧ i < 2 ^ 64) (h' : -(2 ^ 64) < j ∧ j < 2 ^ 64) : mulC i j = true := mulC_of (a := 64) (b := 64) (by omega) (by omega) (by omega) (by omega) (by omega)
theorem divC_small {i j : Int} (h : j ≠ 0) (h' : -(2 ^ 64) < j ∧ j < 2 ^ 64) : divC i j = true := divC_of (b := 64) h (by omega) (by omega) (by omega)
theorem pick_A {seed mny many : Int} {P : Int → Int → Prop} (h0 : 0 ≤ seed) (h1 : seed < 2147483647) (hm : 0 < many) (hP : ∀ i s, 0 ≤ i → i < many → 0 ≤ s → s < 2147483647 → P i s) : mulC seed 48271 = true ∧
    divC ((seed * 48271 + 12820163 + (mny + 1)).fmod 2147483647) 65521 = true ∧
    mulC (((seed * 48271 + 12820163 + (mny + 1)).fmod 2147483647).fmod 65521 + 1) (((seed * 48271 + 12820163 + (mny + 1)).fmod 2147483647).fdiv 65521 + 7919) = true ∧
    divC (((((seed * 48271 + 12820163 + (mny + 1)).fmod 2147483647).fmod 65521 + 1) * (((seed * 48271 + 12820163 + (mny + 1)).fmod 2147483647).fdiv 65521 + 7919)).fmod 1000003) 7 = true ∧ ¬many = 0 ∧
    P (((((((seed * 48271 + 12820163 + (mny + 1)).fmod 2147483647).fmod 65521 + 1) * (((seed * 48271 + 12820163 + (mny + 1)).fmod 2147483647).fdiv 65521 + 7919)).fmod 1000003).fdiv 7).fmod many) ((seed * 48271 + 12820163 + (mny + 1)).fmod 2147483647) := by
  have a := fmod_lt (a := seed * 48271 + 12820163 + (mny + 1)) (b := 2147483647) (by omega)
  generalize (seed * 48271 + 12820163 + (mny + 1)).fmod 2147483647 = s at a ⊢
  have b := fmod_lt (a := s) (b := 65521) (by omega)
  have c := fdiv_nn (a := s) (b := 65521) a.1 (by omega)
  have c' := fdiv_le (a := s) (b := 65521) a.1 (by omega)
  refine ⟨mulC_small (by omega) (by omega), divC_small (by omega) (by omega), mulC_small (by omega) (by omega), divC_small (by omega) (by omega), by omega, ?_⟩
  have d := fmod_lt (a := ((s.fmod 65521 + 1) * (s.fdiv 65521 + 7919)).fmod 1000003 |>.fdiv 7) (b := many) hm
  exact hP _ _ d.1 d.2 a.1 a.2
theorem pick_to {f : Fl} (hf : FlOk f) {many : Int} (h0 : 0 < many) (h1 : many.natAbs < 2 ^ 64) : (m_L_pick [.int many] f).To fun d f' => ∃ i, d = .int i ∧ 0 ≤ i ∧ i < many ∧ FlOk f' := by
  unfold m_L_pick
  rw [flow_to]
  obtain ⟨cells, place, held, seed, mny⟩ := f
  obtain ⟨a1, a2, a3, a4⟩ := hf
  simp only at a1 a2 a3 a4
  unfold b_L_pick
  simp only [startL, List.map_cons, List.map_nil, List.length_cons, List.length_nil, List.cons_append, List.nil_append, List.replicate]
  have tail : ∀ (cells : List Int) (place held seed mny : Int) (c : Option U), 0 ≤ held → 0 ≤ seed → seed < 2147483647 → 0 ≤ place →
      (held ≤ 0 ∧ mulC seed 48271 = true ∧ divC ((seed * 48271 + 12820163 + (mny + 1)).fmod 2147483647) 65521 = true ∧
    mulC (((seed * 48271 + 12820163 + (mny + 1)).fmod 2147483647).fmod 65521 + 1) (((seed * 48271 + 12820163 + (mny + 1)).fmod 2147483647).fdiv 65521 + 7919) = true ∧
    divC (((((seed * 48271 + 12820163 + (mny + 1)).fmod 2147483647).fmod 65521 + 1) * (((seed * 48271 + 12820163 + (mny + 1)).fmod 2147483647).fdiv 65521 + 7919)).fmod 1000003) 7 = true ∧ ¬many = 0 ∧
      0 ≤ (((((((seed * 48271 + 12820163 + (mny + 1)).fmod 2147483647).fmod 65521 + 1) * (((seed * 48271 + 12820163 + (mny + 1)).fmod 2147483647).fdiv 65521 + 7919)).fmod 1000003).fdiv 7).fmod many) ∧
      (((((((seed * 48271 + 12820163 + (mny + 1)).fmod 2147483647).fmod 65521 + 1) * (((seed * 48271 + 12820163 + (mny + 1)).fmod 2147483647).fdiv 65521 + 7919)).fmod 1000003).fdiv 7).fmod many) < many ∧
      FlOk { cells := cells, place := place, held := held, seed := (seed * 48271 + 12820163 + (mny + 1)).fmod 2147483647, many := mny + 1 }) ∨
      0 < held ∧ ¬many = 0 ∧ divC held many = true ∧ 0 ≤ held.fmod many ∧ held.fmod many < many ∧ FlOk { cells := cells, place := place, held := held.fdiv many, seed := seed, many := mny } := by
    intro cells place held seed mny c b1 b2 b3 b4
    by_cases hh : held ≤ 0
    · exact .inl ⟨hh, pick_A (P := fun i s => 0 ≤ i ∧ i < many ∧ FlOk ⟨cells, place, held, s, mny + 1⟩) b2 b3 h0 fun i s c1 c2 c3 c4 => ⟨c1, c2, b1, c3, c4, b4⟩⟩
    · have d := fmod_lt (a := held) h0
      exact .inr ⟨by omega, by omega, divC_of (b := 64) (by omega) h1 (by omega) (by omega), d.1, d.2, fdiv_nn b1 h0, b2, b3, b4⟩
  by_cases hh : held = 0
  · subst hh
    by_cases hp : place < cells.length
    · obtain ⟨n, rfl⟩ := Int.eq_ofNat_of_zero_le a4
      have hn : n < cells.length := by omega
      have hq : ¬ cells.length ≤ n := by omega
      have e1 : idxN cells.length ((n : Nat) : Int) = some n := idxN_nat hn
      have e2 : cells[n]? = some cells[n] := List.getElem?_eq_getElem hn
      by_cases hx : cells[n] < 1000000000000000000
      · have z := tail cells ((n : Int) + 1) 0 ((seed * 40013 + cells[n].fmod 1000003 + 1).fmod 2147483647) mny none a1 (fmod_lt (by omega)).1 (fmod_lt (by omega)).2 (by omega)
        have y := mulC_small (i := seed) (j := 40013) (by omega) (by omega)
        have hx1 : ¬ 1000000000000000000 ≤ cells[n] := by omega
        simp [hn, hq, e1, e2, hx, hx1, y] at z ⊢
        exact z
      · have hx' : ¬ cells[n] < 1000000000000000000 := hx
        have z := tail cells ((n : Int) + 1) cells[n] seed mny none (by omega) a2 a3 (by omega)
        have hx2 : 1000000000000000000 ≤ cells[n] := by omega
        have hx3 : 0 < cells[n] := by omega
        have hx4 : ¬ cells[n] ≤ 0 := by omega
        simp [hn, hq, e1, e2, hx, hx2, hx3, hx4] at z ⊢
        exact z
    · have hp' : (cells.length : Int) ≤ place := by omega
      have z := tail cells place 0 seed mny none a1 a2 a3 a4
      simp [hp, hp'] at z ⊢
      exact z
  · have z := tail cells place held seed mny none a1 a2 a3 a4
    simp [hh] at z ⊢
    exact z
end NW
namespace NW
open PySem PySem.Spec PyProof.Rows L2
theorem gcd_step (a b : Int) : Int.gcd b (a.fmod b) = Int.gcd a b := by
  rw [Int.fmod_def a b, Int.gcd_sub_mul_left_right, Int.gcd_comm]
theorem fmod_natAbs {a b : Int} (h : b ≠ 0) : (a.fmod b).natAbs < b.natAbs := by
  by_cases hb : 0 < b
  · have := fmod_lt (a := a) hb
    omega
  · have h1 : a.fmod b = -((-a).fmod (-b)) := by
      rw [Int.fmod_def, Int.fmod_def, Int.neg_fdiv_neg]
      rw [Int.neg_mul, Int.sub_eq_add_neg, Int.sub_eq_add_neg, Int.neg_add]
      simp
    have := fmod_lt (a := -a) (b := -b) (by omega)
    omega
theorem common_part_to {a b : Int} {P : PyData → Prop} (h : P (.int (Int.gcd a b : Nat))) : (m_common_part [.int a, .int b]).To P := by
  unfold m_common_part
  rw [pure_to]
  unfold b_common_part
  simp only [startL, List.map_cons, List.map_nil, List.length_cons, List.length_nil, List.cons_append, List.nil_append, List.replicate, to_sSeq]
  refine while_to (I := fun n l s => ∃ x y : Int, l = [some (.d (.int x)), some (.d (.int y))] ∧ s = ⟨none, []⟩ ∧ Int.gcd x y = Int.gcd a b ∧ y.natAbs = n) ?_ b.natAbs _ _ ⟨a, b, rfl, rfl, rfl, rfl⟩
  rintro n l s ⟨x, y, rfl, rfl, hg, rfl⟩
  by_cases hy : y = 0
  · subst hy
    rw [Int.gcd_zero_right] at hg
    have e : (if x < 0 then -x else x) = ((Int.gcd a b : Nat) : Int) := by rw [← hg]; split <;> omega
    simp [e]; exact h
  · simp [hy]
    exact ⟨_, fmod_natAbs hy, _, _, ⟨rfl, rfl⟩, (gcd_step x y).trans hg, rfl⟩
def fracD (q : Rat) : PyData := .tuple [.int q.num, .int q.den]
@[simp] theorem idx_0 {n : Nat} : idxN (n + 1) 0 = some 0 := by unfold idxN; simp
@[simp] theorem idx_1 {n : Nat} : idxN (n + 2) 1 = some 1 := by
  unfold idxN
  rw [if_pos (by decide), if_pos (by omega)]; rfl
theorem frac_parts {t b g : Int} (hb : b ≠ 0) (hg : g = ((Int.gcd t b : Nat) : Int)) : (0 < b → t.fdiv g = (Rat.divInt t b).num ∧ b.fdiv g = ((Rat.divInt t b).den : Int)) ∧ (b < 0 → t.fdiv (0 - g) = (Rat.divInt t b).num ∧ b.fdiv (0 - g) = ((Rat.divInt t b).den : Int)) := by
  have hgt : g ∣ t := by rw [hg]; exact Int.gcd_dvd_left t b
  have hgb : g ∣ b := by rw [hg]; exact Int.gcd_dvd_right t b
  have e1 := Rat.num_divInt t b
  have e2 := Rat.den_divInt t b
  rw [if_neg hb, Int.gcd_comm b t] at e2
  rw [Int.gcd_comm b t, ← hg] at e1
  refine ⟨fun h => ⟨?_, ?_⟩, fun h => ⟨?_, ?_⟩⟩
  · rw [Int.fdiv_eq_ediv_of_dvd hgt, e1, Int.sign_eq_one_of_pos h, Int.one_mul]
  · rw [Int.fdiv_eq_ediv_of_dvd hgb, e2, Int.natCast_ediv, ← hg]
    congr 1
    omega
  · rw [Int.zero_sub, Int.fdiv_eq_ediv_of_dvd ((Int.neg_dvd).mpr hgt), e1, Int.sign_eq_neg_one_of_neg h, Int.ediv_neg, Int.neg_mul, Int.one_mul, Int.neg_ediv_of_dvd hgt]
  · rw [Int.zero_sub, Int.fdiv_eq_ediv_of_dvd ((Int.neg_dvd).mpr hgb), e2, Int.ediv_neg, Int.natCast_ediv, ← hg, ← Int.neg_ediv_of_dvd hgb]
    congr 1
    omega
theorem gcd_lt {t b : Int} {n : Nat} (hb : b ≠ 0) (h : b.natAbs < 2 ^ n) : Int.gcd t b ≠ 0 ∧ Int.gcd t b < 2 ^ n := by
  have h1 : Int.gcd t b ∣ b.natAbs := Int.gcd_dvd_natAbs_right t b
  have h2 : 0 < b.natAbs := by omega
  have h3 := Nat.le_of_dvd h2 h1
  refine ⟨fun e => ?_, by omega⟩
  rw [e] at h1
  have := Nat.eq_zero_of_zero_dvd h1
  omega
theorem fraction_toU {t b : Int} {P : PyData → Prop} (hb : b ≠ 0) (h : P (fracD (Rat.divInt t b))) : (m_fraction [.int t, .int b]).To P := by
  unfold m_fraction
  rw [pure_to]
  unfold b_fraction
  obtain ⟨g0, _⟩ := gcd_lt (t := t) (n := b.natAbs) hb Nat.lt_two_pow_self
  have hp := frac_parts (t := t) hb rfl
  simp [startL]
  refine common_part_to ?_
  generalize hg : ((Int.gcd t b : Nat) : Int) = g at hp ⊢
  have c0 : g ≠ 0 := by omega
  by_cases h0 : b < 0
  · have d1 : divC t (0 - g) = true := divU (by omega)
    have d2 : divC b (0 - g) = true := divU (by omega)
    obtain ⟨e1, e2⟩ := hp.2 h0
    have h0' : ¬ 0 ≤ b := by omega
    simp only [Int.zero_sub] at d1 d2 e1 e2
    simp [h0, h0', d1, d2, e1, e2]
    exact h
  · have d1 : divC t g = true := divU (by omega)
    have d2 : divC b g = true := divU (by omega)
    obtain ⟨e1, e2⟩ := hp.1 (by omega)
    have h0' : 0 ≤ b := by omega
    simp [h0, h0', d1, d2, e1, e2]
    exact h
end NW
namespace NW
open PySem PySem.Spec PyProof.Rows L2
theorem L_common_eq : m_L_common = m_common_part := by unfold m_L_common m_common_part; rfl
end NW
namespace NW
open PySem PySem.Spec PyProof.Rows L2
theorem num_le (t b : Int) (hb : b ≠ 0) : (Rat.divInt t b).num.natAbs ≤ t.natAbs := by
  rw [Rat.num_divInt]
  refine Nat.le_trans (Int.natAbs_ediv_le_natAbs _ _) ?_
  rw [Int.natAbs_mul, Int.natAbs_sign_of_ne_zero hb, Nat.one_mul]
  exact Nat.le_refl _
theorem den_le (t b : Int) (hb : b ≠ 0) : (Rat.divInt t b).den ≤ b.natAbs := by
  rw [Rat.den_divInt, if_neg hb]
  exact Nat.div_le_self _ _
theorem lc_map {its : List PyData} {vs : List Nat} {t : MT} {c : MB} {m : ME} {l : Loc} {st : Sto} {g : PyData → PyData} {P : List PyData → Sto → Prop} {xs : List PyData}
    (h : ∀ x, x ∈ xs → (t (.d x) (wipeL l vs) st).To fun l1 s => (c l1 s).To fun b s => b = true ∧ (m l1 s).To fun u s => u = .d (g x) ∧ s = st) (fin : P (xs.map g) st) : (lcM ⟨its, []⟩ vs t c m l xs st).To P := by
  refine (lc_to (I := fun ys acc s => s = st ∧ ∃ zs, xs = zs ++ ys ∧ acc = zs.map g) (P := fun ys s => ys = xs.map g ∧ s = st) (fun _ _ _ _ => chk_nil) ?_ ?_ xs [] st ⟨rfl, [], rfl, rfl⟩).mono ?_
  · rintro x ys acc s ⟨rfl, zs, rfl, rfl⟩
    refine (h x (by simp)).mono ?_
    rintro l1 s1 h1
    refine h1.mono ?_
    rintro b s2 ⟨rfl, h2⟩
    rw [if_pos rfl]
    refine h2.mono ?_
    rintro u s3 ⟨rfl, rfl⟩
    exact ⟨_, rfl, rfl, zs ++ [x], by simp, by simp⟩
  · rintro acc s ⟨rfl, zs, rfl, rfl⟩
    simp
  · rintro ys s ⟨rfl, rfl⟩
    exact fin
theorem cAll_yes {st : Sto} {Q : U → Sto → Prop} {xs : List PyData} (h : Q (.d (.bool true)) st) : (cAll [.d (.list (xs.map fun _ => .bool true))] st).To Q := by
  have e : (xs.map fun _ => PyData.bool true) = (xs.map fun _ => true).map .bool := by rw [List.map_map]; rfl
  rw [e, to_cAll]
  have : (xs.map fun _ => true).all id = true := by simp
  rw [this]; exact h
@[simp] theorem ty_int : tyOk "int" = true := rfl
@[simp] theorem ty_bool : tyOk "bool" = true := rfl
@[simp] theorem ty_str : tyOk "str" = true := rfl
@[simp] theorem ty_list : tyOk "list" = true := rfl
@[simp] theorem ty_tuple : tyOk "tuple" = true := rfl
@[simp] theorem isi_int_int {i : Int} : isiT (.int i) "int" = true := rfl
@[simp] theorem isi_int_bool {i : Int} : isiT (.int i) "bool" = false := rfl
@[simp] theorem isi_int_str {i : Int} : isiT (.int i) "str" = false := rfl
@[simp] theorem isi_int_list {i : Int} : isiT (.int i) "list" = false := rfl
@[simp] theorem isi_int_tuple {i : Int} : isiT (.int i) "tuple" = false := rfl
@[simp] theorem isi_int_dict {i : Int} : isiT (.int i) "dict" = false := rfl
@[simp] theorem isi_bool_int {i : Bool} : isiT (.bool i) "int" = true := rfl
@[simp] theorem isi_bool_bool {i : Bool} : isiT (.bool i) "bool" = true := rfl
@[simp] theorem isi_bool_str {i : Bool} : isiT (.bool i) "str" = false := rfl
@[simp] theorem isi_bool_list {i : Bool} : isiT (.bool i) "list" = false := rfl
@[simp] theorem isi_bool_tuple {i : Bool} : isiT (.bool i) "tuple" = false := rfl
@[simp] theorem isi_bool_dict {i : Bool} : isiT (.bool i) "dict" = false := rfl
@[simp] theorem isi_list_int {i : List PyData} : isiT (.list i) "int" = false := rfl
@[simp] theorem isi_list_bool {i : List PyData} : isiT (.list i) "bool" = false := rfl
@[simp] theorem isi_list_str {i : List PyData} : isiT (.list i) "str" = false := rfl
@[simp] theorem isi_list_list {i : List PyData} : isiT (.list i) "list" = true := rfl
@[simp] theorem isi_list_tuple {i : List PyData} : isiT (.list i) "tuple" = false := rfl
@[simp] theorem isi_list_dict {i : List PyData} : isiT (.list i) "dict" = false := rfl
@[simp] theorem isi_tuple_int {i : List PyData} : isiT (.tuple i) "int" = false := rfl
@[simp] theorem isi_tuple_bool {i : List PyData} : isiT (.tuple i) "bool" = false := rfl
@[simp] theorem isi_tuple_str {i : List PyData} : isiT (.tuple i) "str" = false := rfl
@[simp] theorem isi_tuple_list {i : List PyData} : isiT (.tuple i) "list" = false := rfl
@[simp] theorem isi_tuple_tuple {i : List PyData} : isiT (.tuple i) "tuple" = true := rfl
@[simp] theorem isi_tuple_dict {i : List PyData} : isiT (.tuple i) "dict" = false := rfl
@[simp] theorem isi_none_int  : isiT .none "int" = false := rfl
@[simp] theorem isi_none_bool  : isiT .none "bool" = false := rfl
@[simp] theorem isi_none_str  : isiT .none "str" = false := rfl
@[simp] theorem isi_none_list  : isiT .none "list" = false := rfl
@[simp] theorem isi_none_tuple  : isiT .none "tuple" = false := rfl
@[simp] theorem isi_none_dict  : isiT .none "dict" = false := rfl
@[simp] theorem isi_str_int {i : Str} : isiT (.str i) "int" = false := rfl
@[simp] theorem isi_str_bool {i : Str} : isiT (.str i) "bool" = false := rfl
@[simp] theorem isi_str_str {i : Str} : isiT (.str i) "str" = true := rfl
@[simp] theorem isi_str_list {i : Str} : isiT (.str i) "list" = false := rfl
@[simp] theorem isi_str_tuple {i : Str} : isiT (.str i) "tuple" = false := rfl
@[simp] theorem isi_str_dict {i : Str} : isiT (.str i) "dict" = false := rfl
end NW
namespace NW
open PySem PySem.Spec PyProof.Rows L2
@[simp] theorem shaped_frac {q : Rat} : SeqAt.shaped (fracD q) = true := by
  simp [fracD, SeqAt.shaped, PyData.canLay0, PyData.canLayAll0, PyData.depth, PyData.depthAll]
@[simp] theorem eqv_frac {p q : Rat} : PyData.eqv (fracD p) (fracD q) = decide (p = q) := by
  rw [Bool.eq_iff_iff]
  simp [fracD, PyData.eqv, PyData.eqvAll]
  constructor
  · rintro ⟨a, b⟩
    exact Rat.ext a (by omega)
  · rintro rfl; simp
theorem mul_lt {i j : Int} {a b c : Nat} (ha : i.natAbs < 2 ^ a) (hb : j.natAbs < 2 ^ b) (h : a + b ≤ c) : (i * j).natAbs < 2 ^ c := by
  rw [Int.natAbs_mul]
  refine Nat.lt_of_lt_of_le (Nat.mul_lt_mul'' ha hb) ?_
  rw [← Nat.pow_add]
  exact Nat.pow_le_pow_right (by omega) h
end NW
namespace NW
open PySem PySem.Spec PyProof.Rows L2
section
variable {l : Loc} {st : Sto} {Q : U → Sto → Prop}
@[simp] theorem to_isiT {m : ME} {Ts : List String} : (eIsiT m Ts l st).To Q ↔ (m l st).To fun u s => ∃ x, toTree s u = some x ∧ (Ts.all tyOk && decide (Ts.length ≤ 8)) = true ∧ Q (.d (.bool (Ts.any (isiT x)))) s := by
  unfold eIsiT
  rw [to_bind]
  cases m l st with
  | ok u s => simp only [to_ok]; cases toTree s u <;> simp
  | _ => exact Iff.rfl
end
def Lk : Nat → PyData → Prop
  | 0, _ => False
  | n + 1, .list xs => xs.length ≤ 16777216 ∧ ∀ x ∈ xs, Lk n x
  | n + 1, .tuple xs => xs.length ≤ 16777216 ∧ ∀ x ∈ xs, Lk n x
  | _ + 1, .dict _ => False
  | _ + 1, .str z => (PyData.str z).canLay0 = true
  | _ + 1, _ => True
theorem Lk.mono {n m : Nat} {d : PyData} (h : Lk n d) (k : n ≤ m) : Lk m d := by
  induction n generalizing m d with
  | zero => exact h.elim
  | succ n ih =>
    obtain ⟨m, rfl⟩ : ∃ j, m = j + 1 := ⟨m - 1, by omega⟩
    cases d with
    | list xs => exact ⟨h.1, fun x hx => ih (h.2 x hx) (by omega)⟩
    | tuple xs => exact ⟨h.1, fun x hx => ih (h.2 x hx) (by omega)⟩
    | _ => exact h
theorem range_mem {n : Nat} {x : PyData} (h : x ∈ rangeD 0 1 n) : ∃ i : Nat, i < n ∧ x = .int i := by
  unfold rangeD at h
  obtain ⟨i, hi, rfl⟩ := List.mem_map.mp h
  exact ⟨i, List.mem_range.mp hi, by simp⟩
@[simp] theorem range_len {a b : Int} {n : Nat} : (rangeD a b n).length = n := by simp [rangeD]
theorem alike_to : ∀ (n : Nat) (d : PyData), Lk n d → (m_L_alike n [d, d]).To fun x => x = .bool true := by
  intro n
  induction n with
  | zero => intro d h; exact h.elim
  | succ n ih =>
    intro d h
    rw [s_L_alike, pure_to]
    unfold b_L_alike
    cases d with
    | list xs =>
      have h1 := h.1
      simp [startL, h1]
      refine ⟨decide_eq_true (by omega), by omega, ?_⟩
      refine lc_map (g := fun _ => .bool true) ?_ ?_
      rotate_left
      · exact cAll_yes (by exact rfl)
      intro x hx
      obtain ⟨i, hi, rfl⟩ := range_mem hx
      simp [wipeL, idxN_nat hi, hi]
      exact (ih _ (h.2 _ (List.getElem_mem hi))).mono fun d hd => hd
    | tuple xs => 
      have h1 := h.1
      simp [startL, h1]
      refine ⟨decide_eq_true (by omega), by omega, ?_⟩
      refine lc_map (g := fun _ => .bool true) ?_ ?_
      rotate_left
      · exact cAll_yes (by exact rfl)
      intro x hx
      obtain ⟨i, hi, rfl⟩ := range_mem hx
      simp [wipeL, idxN_nat hi, hi]
      exact (ih _ (h.2 _ (List.getElem_mem hi))).mono fun d hd => hd
    | dict xs => exact h.elim
    | str z =>
      have hs : SeqAt.shaped (.str z) = true := by
        unfold SeqAt.shaped
        rw [show (PyData.str z).canLay0 = true from h]; simp [PyData.depth]
      simp [startL, hs, PySem.SeqAt.eqv_refl _ h]
    | int i => simp [startL]
    | bool i => simp [startL]
    | none => simp [startL]; rfl
theorem lk_frac {n : Nat} {q : Rat} : Lk (n + 2) (fracD q) := ⟨by simp, fun x hx => by
  simp at hx
  rcases hx with rfl | rfl <;> trivial⟩
end NW
namespace NW
open PySem PySem.Spec PyProof.Rows L2
theorem L_fraction_eq : m_L_fraction = m_fraction := by
  unfold m_L_fraction m_fraction b_L_fraction b_fraction
  rw [L_common_eq]
theorem L_fraction_to {t b : Int} {P : PyData → Prop} (hb : b ≠ 0) {q9 : Prop} (hn : q9) (h : P (fracD (Rat.divInt t b))) : (m_L_fraction [.int t, .int b]).To P := by rw [L_fraction_eq]; exact fraction_toU hb h
def FB (n : Nat) (q : Rat) : Prop := q.num.natAbs < 2 ^ n ∧ q.den < 2 ^ n
theorem FB.mono {n m : Nat} {q : Rat} (h : FB n q) (k : n ≤ m) : FB m q := ⟨Nat.lt_of_lt_of_le h.1 (Nat.pow_le_pow_right (by omega) k), Nat.lt_of_lt_of_le h.2 (Nat.pow_le_pow_right (by omega) k)⟩
theorem FB.of_divInt {n : Nat} {t b : Int} (hb : b ≠ 0) (h1 : t.natAbs < 2 ^ n) (h2 : b.natAbs < 2 ^ n) : FB n (Rat.divInt t b) :=
  ⟨Nat.lt_of_le_of_lt (num_le t b hb) h1, Nat.lt_of_le_of_lt (den_le t b hb) h2⟩
theorem mk_div (a : Int) (m n : Nat) : Rat.divInt a ((m : Int) * (n : Int)) = mkRat a (m * n) := by
  rw [← Int.natCast_mul]; rfl
theorem add_divInt (p q : Rat) : Rat.divInt (p.num * q.den + q.num * p.den) (p.den * q.den) = p + q := by
  rw [Rat.add_def', mk_div]
theorem sub_divInt (p q : Rat) : Rat.divInt (p.num * q.den - q.num * p.den) (p.den * q.den) = p - q := by
  rw [Rat.sub_def', mk_div]
theorem mul_divInt (p q : Rat) : Rat.divInt (p.num * q.num) (p.den * q.den) = p * q := by
  rw [Rat.mul_def', mk_div]
theorem div_divInt (p q : Rat) : Rat.divInt (p.num * q.den) (p.den * q.num) = p / q := by
  rw [Rat.div_def, Rat.inv_def]
  conv => rhs; rw [← Rat.num_divInt_den p]
  rw [Rat.divInt_mul_divInt]
theorem den_ne (q : Rat) : (q.den : Int) ≠ 0 := by have := q.den_pos; omega
theorem FB.m {n : Nat} {i j : Int} (h1 : i.natAbs < 2 ^ n) (h2 : j.natAbs < 2 ^ n) (h0 : 0 < n) (h : n ≤ 499000) : mulC i j = true := mulC_of h1 h2 h0 h0 (by omega)
theorem mx {a b : Nat} {i j : Int} (h1 : i.natAbs < 2 ^ a) (h2 : j.natAbs < 2 ^ b) (h : a + b ≤ 999990) : mulC i j = true := mulC_of (a := a + 1) (b := b + 1) (Nat.lt_of_lt_of_le h1 (Nat.pow_le_pow_right (by omega) (by omega))) (Nat.lt_of_lt_of_le h2 (Nat.pow_le_pow_right (by omega) (by omega))) (by omega) (by omega) (by omega)
section
variable {p q : Rat} {n a' b' : Nat} {P : PyData → Prop}
theorem addedx (hp : FB a' p) (hq : FB b' q) (h : a' + b' ≤ 999990) (k : P (fracD (p + q))) : (m_added [fracD p, fracD q]).To P := by
  obtain ⟨a, b⟩ := hp
  obtain ⟨c, d⟩ := hq
  have e1 : mulC p.num q.den = true := mx a d h
  have e2 : mulC q.num p.den = true := mx c b (by omega)
  have e3 : mulC p.den q.den = true := mx b d h
  unfold m_added
  rw [pure_to]
  unfold b_added
  simp [startL, fracD, e1, e2, e3]
  refine fraction_toU (Int.mul_ne_zero (den_ne p) (den_ne q)) ?_
  rw [add_divInt]; exact k
theorem takenx (hp : FB a' p) (hq : FB b' q) (h : a' + b' ≤ 999990) (k : P (fracD (p - q))) : (m_taken [fracD p, fracD q]).To P := by
  obtain ⟨a, b⟩ := hp
  obtain ⟨c, d⟩ := hq
  have e1 : mulC p.num q.den = true := mx a d h
  have e2 : mulC q.num p.den = true := mx c b (by omega)
  have e3 : mulC p.den q.den = true := mx b d h
  unfold m_taken
  rw [pure_to]
  unfold b_taken
  simp [startL, fracD, e1, e2, e3]
  refine fraction_toU (Int.mul_ne_zero (den_ne p) (den_ne q)) ?_
  rw [sub_divInt]; exact k
theorem multipliedx (hp : FB a' p) (hq : FB b' q) (h : a' + b' ≤ 999990) (k : P (fracD (p * q))) : (m_multiplied [fracD p, fracD q]).To P := by
  obtain ⟨a, b⟩ := hp
  obtain ⟨c, d⟩ := hq
  have e1 : mulC p.num q.num = true := mx a c h
  have e3 : mulC p.den q.den = true := mx b d h
  unfold m_multiplied
  rw [pure_to]
  unfold b_multiplied
  simp [startL, fracD, e1, e3]
  refine fraction_toU (Int.mul_ne_zero (den_ne p) (den_ne q)) ?_
  rw [mul_divInt]; exact k
theorem added_to (hp : FB n p) (hq : FB n q) (h0 : 0 < n) (h : n ≤ 499000) (k : P (fracD (p + q))) : (m_added [fracD p, fracD q]).To P := addedx hp hq (by omega) k
theorem taken_to (hp : FB n p) (hq : FB n q) (h0 : 0 < n) (h : n ≤ 499000) (k : P (fracD (p - q))) : (m_taken [fracD p, fracD q]).To P := takenx hp hq (by omega) k
theorem multiplied_to (hp : FB n p) (hq : FB n q) (h0 : 0 < n) (h : n ≤ 499000) (k : P (fracD (p * q))) : (m_multiplied [fracD p, fracD q]).To P := multipliedx hp hq (by omega) k
end
theorem FB.add {p q : Rat} {n : Nat} (hp : FB n p) (hq : FB n q) : FB (2 * n + 1) (p + q) := by
  rw [← add_divInt]
  refine FB.of_divInt (Int.mul_ne_zero (den_ne p) (den_ne q)) ?_ (mul_lt hp.2 hq.2 (by omega))
  have e1 : (p.num * q.den).natAbs < 2 ^ (2 * n) := mul_lt hp.1 hq.2 (by omega)
  have e2 : (q.num * p.den).natAbs < 2 ^ (2 * n) := mul_lt hq.1 hp.2 (by omega)
  have : 2 ^ (2 * n + 1) = 2 * 2 ^ (2 * n) := by rw [Nat.pow_succ, Nat.mul_comm]
  omega
theorem FB.sub {p q : Rat} {n : Nat} (hp : FB n p) (hq : FB n q) : FB (2 * n + 1) (p - q) := by
  rw [← sub_divInt]
  refine FB.of_divInt (Int.mul_ne_zero (den_ne p) (den_ne q)) ?_ (mul_lt hp.2 hq.2 (by omega))
  have e1 : (p.num * q.den).natAbs < 2 ^ (2 * n) := mul_lt hp.1 hq.2 (by omega)
  have e2 : (q.num * p.den).natAbs < 2 ^ (2 * n) := mul_lt hq.1 hp.2 (by omega)
  have : 2 ^ (2 * n + 1) = 2 * 2 ^ (2 * n) := by rw [Nat.pow_succ, Nat.mul_comm]
  omega
theorem FB.mul {p q : Rat} {n : Nat} (hp : FB n p) (hq : FB n q) : FB (2 * n) (p * q) := by
  rw [← mul_divInt]
  exact FB.of_divInt (Int.mul_ne_zero (den_ne p) (den_ne q)) (mul_lt hp.1 hq.1 (by omega)) (mul_lt hp.2 hq.2 (by omega))
theorem FB.neg {p : Rat} {n : Nat} (hp : FB n p) : FB n (-p) := by
  unfold FB; rw [Rat.neg_num, Rat.neg_den, Int.natAbs_neg]; exact hp
theorem FB.zero {n : Nat} (h : 0 < n) : FB n 0 := ⟨Nat.two_pow_pos n, by have : 2 ≤ 2 ^ n := Nat.le_self_pow (by omega) 2; show 1 < 2 ^ n; omega⟩
theorem FB.one {n : Nat} (h : 0 < n) : FB n 1 := ⟨by have : 2 ≤ 2 ^ n := Nat.le_self_pow (by omega) 2; show 1 < 2 ^ n; omega, by have : 2 ≤ 2 ^ n := Nat.le_self_pow (by omega) 2; show 1 < 2 ^ n; omega⟩
end NW
namespace NW
open PySem PySem.Spec PyProof.Rows L2
section
variable {st : Sto} {Q : U → Sto → Prop} {q : Rat}
@[simp] theorem to_ixF0 : (fIx (.d (fracD q)) (.d (.int 0)) st).To Q ↔ Q (.d (.int q.num)) st := Iff.rfl
@[simp] theorem to_ixF1 : (fIx (.d (fracD q)) (.d (.int 1)) st).To Q ↔ Q (.d (.int q.den)) st := Iff.rfl
end
end NW
namespace NW
open PySem PySem.Spec PyProof.Rows L2
theorem lc_draw {its : List PyData} {vs : List Nat} {t : MT} {c : MB} {m : ME} {l : NW.Loc} {o : List Ob} {p : PyData → Prop} {P : List PyData → Sto → Prop} {xs : List PyData} {g : Fl}
    (h : ∀ x, x ∈ xs → ∀ g, FlOk g → (t (.d x) (wipeL l vs) ⟨some g, o⟩).To fun l1 s => (c l1 s).To fun b s => b = true ∧ (m l1 s).To fun u s => ∃ y, u = .d y ∧ ∃ g', s = ⟨some g', o⟩ ∧ FlOk g' ∧ p y) (hg : FlOk g)
    (fin : ∀ ys g', ys.length = xs.length → (∀ y, y ∈ ys → p y) → FlOk g' → P ys ⟨some g', o⟩) : (lcM ⟨its, []⟩ vs t c m l xs ⟨some g, o⟩).To P := by
  refine (lc_to (I := fun ys acc s => ∃ g, s = ⟨some g, o⟩ ∧ FlOk g ∧ (∃ zs, xs = zs ++ ys ∧ acc.length = zs.length) ∧ ∀ y, y ∈ acc → p y) (P := fun ys s => ∃ g, s = ⟨some g, o⟩ ∧ FlOk g ∧ ys.length = xs.length ∧ ∀ y, y ∈ ys → p y) (fun _ _ _ _ => chk_nil) ?_ ?_ xs [] _ ⟨g, rfl, hg, ⟨[], rfl, rfl⟩, by simp⟩).mono ?_
  · rintro x ys acc s ⟨g, rfl, og, ⟨zs, rfl, hz⟩, hp⟩
    refine (h x (by simp) g og).mono ?_
    rintro l1 s1 h1
    refine h1.mono ?_
    rintro b s2 ⟨rfl, h2⟩
    rw [if_pos rfl]
    refine h2.mono ?_
    rintro u s3 ⟨y, rfl, g', rfl, og', py⟩
    refine ⟨_, rfl, g', rfl, og', ⟨zs ++ [x], by simp, by simp [hz]⟩, fun w hw => ?_⟩
    rcases List.mem_append.mp hw with hw | hw
    · exact hp w hw
    · have : w = y := by simpa using hw
      subst this; exact py
  · rintro acc s ⟨g, rfl, og, ⟨zs, rfl, hz⟩, hp⟩
    exact ⟨g, rfl, og, by simp [hz], hp⟩
  · rintro ys s ⟨g, rfl, og, hl, hp⟩
    exact fin ys g hl hp og
end NW
namespace NW
def gs (g : Nat) : List Int → Nat
  | [] => g
  | t :: ts => gs (Int.gcd g t) ts
theorem gs_dvd {d : Nat} : ∀ {ts : List Int} {g : Nat}, d ∣ gs g ts ↔ d ∣ g ∧ ∀ t, t ∈ ts → (d : Int) ∣ t
  | [], g => by simp [gs]
  | t :: ts, g => by
    rw [gs, gs_dvd, Int.gcd]
    rw [Nat.dvd_gcd_iff]
    simp only [List.mem_cons, forall_eq_or_imp, Int.natAbs_natCast]
    rw [and_assoc, ← Int.ofNat_dvd_left]
theorem gs_mul {c : Nat} : ∀ {ts : List Int} {g : Nat}, gs (c * g) (ts.map fun t => (c : Int) * t) = c * gs g ts
  | [], g => rfl
  | t :: ts, g => by
    rw [List.map_cons, gs, gs]
    have : Int.gcd ((c * g : Nat) : Int) ((c : Int) * t) = c * Int.gcd g t := by
      rw [Int.natCast_mul, Int.gcd_mul_left, Int.natAbs_natCast]
    rw [this]; exact gs_mul
theorem gs_pos {ts : List Int} {g : Nat} (h : 0 < g) : 0 < gs g ts := by
  have := (gs_dvd (d := gs g ts)).mp (Nat.dvd_refl _)
  rcases Nat.eq_zero_or_pos (gs g ts) with e | e
  · rw [e] at this
    have := Nat.eq_zero_of_zero_dvd this.1
    omega
  · exact e
def Tr : List Int → Prop
  | [] => True
  | [t] => t ≠ 0
  | _ :: t :: ts => Tr (t :: ts)
theorem Tr.tail {t : Int} {ts : List Int} (h : Tr (t :: ts)) : Tr ts := by
  cases ts with
  | nil => trivial
  | cons u us => exact h
theorem tr_get {ts : List Int} (h : Tr ts) (hn : ts ≠ []) : ts.getD (ts.length - 1) 0 ≠ 0 := by
  induction ts with
  | nil => exact absurd rfl hn
  | cons t ts ih =>
    cases ts with
    | nil => simpa [Tr] using h
    | cons u us =>
      have := ih h (by simp)
      simpa using this
theorem tr_of {ts : List Int} (h : ts ≠ [] → ts.getD (ts.length - 1) 0 ≠ 0) : Tr ts := by
  induction ts with
  | nil => trivial
  | cons t ts ih =>
    cases ts with
    | nil => simpa [Tr] using h
    | cons u us => exact ih fun _ => by simpa using h (by simp)
theorem tr_ext {ts us : List Int} (h : Tr ts) (h' : Tr us) (e : ∀ k, ts.getD k 0 = us.getD k 0) : ts = us := by
  have len : ∀ {ts us : List Int}, Tr ts → (∀ k, ts.getD k 0 = us.getD k 0) → ts.length ≤ us.length := by
    intro ts us h e
    cases ts with
    | nil => simp
    | cons t ts =>
      have h1 := tr_get h (by simp)
      rw [e] at h1
      by_cases hl : (t :: ts).length ≤ us.length
      · exact hl
      · rw [List.getD_eq_getElem?_getD, List.getElem?_eq_none (by simp at hl ⊢; omega)] at h1
        simp at h1
  have l : ts.length = us.length := Nat.le_antisymm (len h e) (len h' fun k => (e k).symm)
  refine List.ext_getElem l fun i h1 h2 => ?_
  have := e i
  simpa [List.getD_eq_getElem?_getD, h1, h2] using this
structure Pol where
  ts : List Int
  b : Nat
  hb : 0 < b
  ht : Tr ts
  hg : gs b ts = 1
def Pol.co (p : Pol) (k : Nat) : Rat := Rat.divInt (p.ts.getD k 0) p.b
theorem Pol.ext_co {p q : Pol} (h : ∀ k, p.co k = q.co k) : p = q := by
  have hp := p.hb
  have hq := q.hb
  have key : ∀ k, (q.b : Int) * p.ts.getD k 0 = (p.b : Int) * q.ts.getD k 0 := fun k => by
    have := (Rat.divInt_eq_divInt_iff (by omega) (by omega)).mp (h k)
    rw [Int.mul_comm, this, Int.mul_comm]
  have dv : ∀ {p q : Pol}, (∀ k, (q.b : Int) * p.ts.getD k 0 = (p.b : Int) * q.ts.getD k 0) → p.b ∣ q.b := by
    intro p q key
    have e := gs_mul (c := q.b) (ts := p.ts) (g := p.b)
    rw [p.hg, Nat.mul_one] at e
    rw [← e]
    refine gs_dvd.mpr ⟨Nat.dvd_mul_left _ _, fun t ht => ?_⟩
    obtain ⟨u, hu, rfl⟩ := List.mem_map.mp ht
    obtain ⟨k, hk, rfl⟩ := List.getElem_of_mem hu
    have := key k
    rw [List.getD_eq_getElem?_getD, List.getElem?_eq_getElem hk] at this
    simp only [Option.getD_some] at this
    rw [this]
    exact Int.dvd_mul_right _ _
  have e : p.b = q.b := Nat.dvd_antisymm (dv key) (dv fun k => (key k).symm)
  have e2 : p.ts = q.ts := tr_ext p.ht q.ht fun k => by
    have := key k
    rw [e] at this
    exact Int.eq_of_mul_eq_mul_left (by omega) this
  cases p; cases q; cases e; cases e2; rfl
end NW
namespace NW
theorem getD_map {f : Int → Int} (h : f 0 = 0) (ts : List Int) (k : Nat) : (ts.map f).getD k 0 = f (ts.getD k 0) := by
  rw [List.getD_eq_getElem?_getD, List.getD_eq_getElem?_getD, List.getElem?_map]
  cases ts[k]? <;> simp [h]
theorem gs_mem {ts : List Int} {g : Nat} {k : Nat} : ((gs g ts : Nat) : Int) ∣ ts.getD k 0 := by
  rw [List.getD_eq_getElem?_getD]
  cases e : ts[k]? with
  | none => simp
  | some t => exact (gs_dvd.mp (Nat.dvd_refl _)).2 t (List.mem_of_getElem? e)
theorem gs_self {ts : List Int} {g : Nat} : gs g ts ∣ g := (gs_dvd.mp (Nat.dvd_refl _)).1
def mkT (ts : List Int) (h : Tr ts) (b : Nat) (hb : 0 < b) : Pol where
  ts := ts.map fun t => t / (gs b ts : Nat)
  b := b / gs b ts
  hb := Nat.div_pos (Nat.le_of_dvd hb gs_self) (gs_pos hb)
  ht := tr_of fun hn => by
    have hn' : ts ≠ [] := fun e => hn (by rw [e]; rfl)
    rw [List.length_map, getD_map (by simp)]
    intro e
    have z := tr_get h hn'
    have d := gs_mem (ts := ts) (g := b) (k := ts.length - 1)
    have c := Int.ediv_mul_cancel d
    rw [e, Int.zero_mul] at c
    exact z c.symm
  hg := by
    have hp := gs_pos (ts := ts) hb
    have e := gs_mul (c := gs b ts) (ts := ts.map fun t => t / (gs b ts : Nat)) (g := b / gs b ts)
    rw [Nat.mul_div_cancel' gs_self, List.map_map] at e
    have e2 : (ts.map ((fun t => ((gs b ts : Nat) : Int) * t) ∘ fun t => t / (gs b ts : Nat))) = ts := by
      conv => rhs; rw [← List.map_id ts]
      refine List.map_congr_left fun t ht => ?_
      exact Int.mul_ediv_cancel' ((gs_dvd.mp (Nat.dvd_refl _)).2 t ht)
    rw [e2] at e
    have : gs b ts * 1 = gs b ts * gs (b / gs b ts) (ts.map fun t => t / (gs b ts : Nat)) := by rw [Nat.mul_one]; exact e
    exact (Nat.eq_of_mul_eq_mul_left hp this).symm
theorem co_mkT {ts : List Int} {h : Tr ts} {b : Nat} {hb : 0 < b} {k : Nat} : (mkT ts h b hb).co k = Rat.divInt (ts.getD k 0) b := by
  have hp := gs_pos (ts := ts) hb
  unfold Pol.co mkT
  rw [getD_map (by simp)]
  show Rat.divInt (ts.getD k 0 / (gs b ts : Nat)) ((b / gs b ts : Nat) : Int) = _
  have e1 := Int.ediv_mul_cancel (gs_mem (ts := ts) (g := b) (k := k))
  have e2 := Nat.div_mul_cancel (gs_self (ts := ts) (g := b))
  have := Rat.divInt_mul_right (n := ts.getD k 0 / (gs b ts : Nat)) (d := ((b / gs b ts : Nat) : Int)) (a := ((gs b ts : Nat) : Int)) (by omega)
  rw [← this, e1, ← Int.natCast_mul, e2]
def tl : List Int → Nat
  | [] => 0
  | t :: ts => if tl ts = 0 then (if t = 0 then 0 else 1) else tl ts + 1
theorem tl_le : ∀ {ts : List Int}, tl ts ≤ ts.length
  | [] => by simp [tl]
  | t :: ts => by
    have := tl_le (ts := ts)
    rw [tl]; simp only [List.length_cons]
    split
    · split <;> omega
    · omega
theorem tl_get : ∀ {ts : List Int} {k : Nat}, (ts.take (tl ts)).getD k 0 = ts.getD k 0
  | [], k => by simp
  | t :: ts, 0 => by
    rw [tl]
    split
    · split
      · rename_i h; simp [h]
      · simp
    · simp
  | t :: ts, k + 1 => by
    have := tl_get (ts := ts) (k := k)
    rw [tl]
    split
    · rename_i h
      rw [h] at this
      split
      · simpa using this
      · simpa using this
    · simpa using this
theorem tl_tr : ∀ {ts : List Int}, Tr (ts.take (tl ts))
  | [] => trivial
  | t :: ts => by
    have := tl_tr (ts := ts)
    rw [tl]
    split
    · split
      · exact trivial
      · rename_i h; simpa [Tr] using h
    · rename_i h
      rw [List.take_succ_cons]
      cases e : ts.take (tl ts) with
      | nil =>
        have l := tl_le (ts := ts)
        have c : (ts.take (tl ts)).length = tl ts := by rw [List.length_take]; omega
        rw [e] at c
        exact absurd c.symm h
      | cons u us => rw [e] at this; exact this
def mk (ts : List Int) (b : Nat) : Pol := if h : 0 < b then mkT (ts.take (tl ts)) tl_tr b h else ⟨[], 1, by decide, trivial, rfl⟩
theorem co_mk {ts : List Int} {b : Nat} (h : 0 < b) (k : Nat) : (mk ts b).co k = Rat.divInt (ts.getD k 0) b := by
  unfold mk
  rw [dif_pos h, co_mkT, tl_get]
def evZ : List Int → Rat → Rat
  | [], _ => 0
  | t :: ts, x => t + x * evZ ts x
def evI : List Int → Int → Int
  | [], _ => 0
  | t :: ts, x => t + x * evI ts x
theorem evI_cast {n : Int} : ∀ {ts : List Int}, evZ ts (n : Rat) = ((evI ts n : Int) : Rat)
  | [] => by simp [evZ, evI]
  | t :: ts => by rw [evZ, evI, evI_cast, Rat.intCast_add, Rat.intCast_mul]
theorem evI_get : ∀ {ts us : List Int}, (∀ n : Int, 0 < n → evI ts n = evI us n) → ∀ k, ts.getD k 0 = us.getD k 0 := by
  have dvd : ∀ {t : Int} {f : Int → Int}, (∀ n : Int, 0 < n → t + n * f n = 0) → t = 0 ∧ ∀ n : Int, 0 < n → f n = 0 := by
    intro t f h
    have h0 : t = 0 := by
      have h1 := h (t.natAbs + 1) (by omega)
      have : ((t.natAbs : Int) + 1) ∣ t := ⟨-f (t.natAbs + 1), by rw [Int.mul_neg]; omega⟩
      have := Int.natAbs_dvd_natAbs.mpr this
      by_cases e : t = 0
      · exact e
      · have := Nat.le_of_dvd (by omega) this
        omega
    refine ⟨h0, fun n hn => ?_⟩
    have h1 := h n hn
    rw [h0, Int.zero_add] at h1
    rcases Int.mul_eq_zero.mp h1 with e | e
    · omega
    · exact e
  have zero : ∀ {ts : List Int}, (∀ n : Int, 0 < n → evI ts n = 0) → ∀ k, ts.getD k 0 = 0 := by
    intro ts
    induction ts with
    | nil => intro _ k; simp
    | cons t ts ih =>
      intro h k
      obtain ⟨a, b⟩ := dvd h
      cases k with
      | zero => simpa using a
      | succ k => simpa using ih b k
  intro ts
  induction ts with
  | nil =>
    intro us h k
    rw [zero (ts := us) fun n hn => (h n hn).symm]; simp
  | cons t ts ih =>
    intro us h k
    cases us with
    | nil => rw [zero h]; simp
    | cons u us =>
      have h' : ∀ n : Int, 0 < n → (t - u) + n * (evI ts n - evI us n) = 0 := fun n hn => by
        have := h n hn
        rw [evI, evI] at this
        rw [Int.mul_sub]; omega
      obtain ⟨a, b⟩ := dvd h'
      cases k with
      | zero => simp; omega
      | succ k => simpa using ih (fun n hn => by have := b n hn; omega) k
theorem evZ_get {x : Rat} : ∀ {ts us : List Int}, (∀ k, ts.getD k 0 = us.getD k 0) → evZ ts x = evZ us x := by
  have zero : ∀ {ts : List Int}, (∀ k, ts.getD k 0 = 0) → evZ ts x = 0 := by
    intro ts
    induction ts with
    | nil => intro _; rfl
    | cons t ts ih =>
      intro h
      have h0 := h 0
      rw [evZ, ih fun k => by simpa using h (k + 1)]
      simp at h0
      rw [h0]; grind
  intro ts
  induction ts with
  | nil => intro us h; rw [zero (ts := us) fun k => by rw [← h k]; simp]; rfl
  | cons t ts ih =>
    intro us h
    cases us with
    | nil => rw [zero (ts := t :: ts) fun k => by rw [h k]; simp]; rfl
    | cons u us =>
      have h0 := h 0
      simp at h0
      rw [evZ, evZ, h0, ih fun k => by simpa using h (k + 1)]
theorem evZ_mul {c : Int} {x : Rat} : ∀ {ts : List Int}, evZ (ts.map fun t => c * t) x = c * evZ ts x
  | [] => by simp [evZ]
  | t :: ts => by rw [List.map_cons, evZ, evZ, evZ_mul, Rat.intCast_mul]; grind
def Pol.ev (p : Pol) (x : Rat) : Rat := evZ p.ts x / (p.b : Int)
theorem Pol.ext_ev {p q : Pol} (h : ∀ x, p.ev x = q.ev x) : p = q := by
  have hp := p.hb
  have hq := q.hb
  have hp' : (((p.b : Int)) : Rat) ≠ 0 := by
    intro e; have := Rat.intCast_eq_zero_iff.mp e; omega
  have hq' : (((q.b : Int)) : Rat) ≠ 0 := by
    intro e; have := Rat.intCast_eq_zero_iff.mp e; omega
  refine Pol.ext_co fun k => ?_
  have key : ∀ n : Int, 0 < n → evI (p.ts.map fun t => (q.b : Int) * t) n = evI (q.ts.map fun t => (p.b : Int) * t) n := fun n _ => by
    refine Rat.intCast_inj.mp ?_
    rw [← evI_cast, ← evI_cast, evZ_mul, evZ_mul]
    have := h n
    unfold Pol.ev at this
    grind
  have := evI_get key k
  rw [getD_map (by simp), getD_map (by simp)] at this
  unfold Pol.co
  refine (Rat.divInt_eq_divInt_iff (by omega) (by omega)).mpr ?_
  rw [Int.mul_comm, this, Int.mul_comm]
theorem ev_mk {ts : List Int} {b : Nat} (h : 0 < b) (x : Rat) : (mk ts b).ev x = evZ ts x / (b : Int) := by
  have hm := (mk ts b).hb
  have h1 : (((b : Int)) : Rat) ≠ 0 := by
    intro e; have := Rat.intCast_eq_zero_iff.mp e; omega
  have h2 : ((((mk ts b).b : Int)) : Rat) ≠ 0 := by
    intro e; have := Rat.intCast_eq_zero_iff.mp e; omega
  have key : ∀ k, ((mk ts b).ts.map fun t => (b : Int) * t).getD k 0 = (ts.map fun t => ((mk ts b).b : Int) * t).getD k 0 := fun k => by
    rw [getD_map (by simp), getD_map (by simp)]
    have := co_mk (ts := ts) h k
    unfold Pol.co at this
    have := (Rat.divInt_eq_divInt_iff (by omega) (by omega)).mp this
    rw [Int.mul_comm, this, Int.mul_comm]
  have := evZ_get (x := x) key
  rw [evZ_mul, evZ_mul] at this
  unfold Pol.ev
  grind
end NW
namespace NW
open PySem PySem.Spec PyProof.Rows L2
def polyD (p : Pol) : PyData := .tuple [.tuple (p.ts.map .int), .int p.b]
def SeqD (S : PyData) (xs : List PyData) : Prop := S = .list xs ∨ S = .tuple xs
section
variable {S : PyData} {xs : List PyData} {st : Sto} {Q : U → Sto → Prop}
theorem SeqD.len (h : SeqD S xs) : (cLen [.d S] st).To Q ↔ Q (.d (.int xs.length)) st := by rcases h with rfl | rfl <;> exact Iff.rfl
theorem SeqD.ix (h : SeqD S xs) {i : Int} : (fIx (.d S) (.d (.int i)) st).To Q ↔ ∃ x, ((idxN xs.length i).bind fun j => xs[j]?) = some x ∧ Q (.d x) st := by rcases h with rfl | rfl <;> simp
theorem SeqD.ixn (h : SeqD S xs) {i : Nat} (hi : i < xs.length) : (fIx (.d S) (.d (.int i)) st).To Q ↔ Q (.d xs[i]) st := by
  rw [h.ix, idxN_nat hi]
  simp [hi]
theorem SeqD.sl (h : SeqD S xs) {a b : Option Int} : ∃ S', SeqD S' (cutD xs a b) ∧ ∀ (st : Sto) (Q : U → Sto → Prop), (fSl (.d S) a b st).To Q ↔ Q (.d S') st := by
  rcases h with rfl | rfl
  · exact ⟨_, .inl rfl, fun _ _ => Iff.rfl⟩
  · exact ⟨_, .inr rfl, fun _ _ => Iff.rfl⟩
end
@[simp] theorem to_tupL {st : Sto} {Q : U → Sto → Prop} {xs : List PyData} : (cTupOf [.d (.list xs)] st).To Q ↔ Q (.d (.tuple xs)) st := Iff.rfl
@[simp] theorem to_tupT {st : Sto} {Q : U → Sto → Prop} {xs : List PyData} : (cTupOf [.d (.tuple xs)] st).To Q ↔ Q (.d (.tuple xs)) st := Iff.rfl
end NW
namespace NW
open PySem PySem.Spec PyProof.Rows L2
def lcms (b : Nat) : List Rat → Nat
  | [] => b
  | q :: qs => lcms (Nat.lcm b q.den) qs
theorem lcms_dvd : ∀ {qs : List Rat} {b : Nat}, b ∣ lcms b qs ∧ ∀ q, q ∈ qs → q.den ∣ lcms b qs
  | [], b => ⟨Nat.dvd_refl _, fun q h => by cases h⟩
  | q :: qs, b => by
    obtain ⟨h1, h2⟩ := lcms_dvd (qs := qs) (b := Nat.lcm b q.den)
    rw [lcms]
    refine ⟨Nat.dvd_trans (Nat.dvd_lcm_left _ _) h1, fun r hr => ?_⟩
    rcases List.mem_cons.mp hr with rfl | hr
    · exact Nat.dvd_trans (Nat.dvd_lcm_right _ _) h1
    · exact h2 r hr
theorem lcms_pos : ∀ {qs : List Rat} {b : Nat}, 0 < b → 0 < lcms b qs
  | [], b, h => h
  | q :: qs, b, h => by rw [lcms]; exact lcms_pos (Nat.lcm_pos h q.den_pos)
def ofC (qs : List Rat) : Pol := mk (qs.map fun q => q.num * ((lcms 1 qs / q.den : Nat) : Int)) (lcms 1 qs)
theorem co_ofC {qs : List Rat} (k : Nat) : (ofC qs).co k = qs.getD k 0 := by
  unfold ofC
  have hb : 0 < lcms 1 qs := lcms_pos (by decide)
  rw [co_mk hb, List.getD_eq_getElem?_getD, List.getD_eq_getElem?_getD, List.getElem?_map]
  cases e : qs[k]? with
  | none => simp
  | some q =>
    have hd := (lcms_dvd (b := 1)).2 q (List.mem_of_getElem? e)
    simp only [Option.map_some, Option.getD_some]
    have e2 := Nat.div_mul_cancel hd
    have hn : ((lcms 1 qs / q.den : Nat) : Int) ≠ 0 := by
      intro h0
      have : lcms 1 qs / q.den = 0 := by omega
      rw [this] at e2; omega
    have := Rat.divInt_mul_right (n := q.num) (d := (q.den : Int)) (a := ((lcms 1 qs / q.den : Nat) : Int)) hn
    rw [Rat.num_divInt_den, ← Int.natCast_mul, Nat.mul_comm q.den, e2] at this
    exact this
theorem lcm_lt {a b m n : Nat} (h1 : a < 2 ^ m) (h2 : b < 2 ^ n) : Nat.lcm a b < 2 ^ (m + n) := by
  refine Nat.lt_of_le_of_lt (Nat.div_le_self _ _) ?_
  rw [Nat.pow_add]
  exact Nat.mul_lt_mul'' h1 h2
end NW
namespace NW
open PySem PySem.Spec PyProof.Rows L2
def evC : Nat → (Nat → Rat) → Rat → Rat
  | 0, _, _ => 0
  | n + 1, f, x => f 0 + x * evC n (fun k => f (k + 1)) x
theorem evC_add {x : Rat} : ∀ {n : Nat} {f g : Nat → Rat}, evC n (fun k => f k + g k) x = evC n f x + evC n g x
  | 0, _, _ => by simp [evC]; grind
  | n + 1, f, g => by rw [evC, evC, evC, evC_add]; grind
theorem evC_mul {x c : Rat} : ∀ {n : Nat} {f : Nat → Rat}, evC n (fun k => c * f k) x = c * evC n f x
  | 0, _ => by simp [evC]
  | n + 1, f => by rw [evC, evC, evC_mul]; grind
theorem evC_evZ {x : Rat} : ∀ {ts : List Int} {n : Nat}, ts.length ≤ n → evC n (fun k => ((ts.getD k 0 : Int) : Rat)) x = evZ ts x
  | [], n, _ => by
    induction n with
    | zero => rfl
    | succ n ih =>
      have := ih (by simp)
      simp [evZ] at this
      rw [evC]
      simp [this, evZ]; grind
  | t :: ts, 0, h => by simp at h
  | t :: ts, n + 1, h => by
    rw [evC, evZ]
    have := evC_evZ (x := x) (ts := ts) (n := n) (by simpa using h)
    simp only [List.getD_cons_zero, List.getD_cons_succ]
    rw [this]
theorem divInt_div (a : Int) (b : Int) : Rat.divInt a b = (a : Rat) / (b : Rat) := by
  rw [Rat.divInt_eq_div]
theorem Pol.bne (p : Pol) : ((p.b : Int) : Rat) ≠ 0 := by
  have := p.hb
  intro e; have := Rat.intCast_eq_zero_iff.mp e; omega
theorem ev_co {p : Pol} {n : Nat} {x : Rat} (h : p.ts.length ≤ n) : p.ev x = evC n p.co x := by
  have e : p.co = fun k => (1 / ((p.b : Int) : Rat)) * ((p.ts.getD k 0 : Int) : Rat) := funext fun k => by
    unfold Pol.co
    rw [divInt_div]; grind
  rw [e, evC_mul, evC_evZ h]
  unfold Pol.ev
  grind
end NW
namespace NW
open PySem PySem.Spec PyProof.Rows L2
section
variable {l : Loc} {st : Sto} {P : List PyData → Sto → Prop}
@[simp] theorem to_lOp {f : U → U → Sto → Res (List PyData)} {a b : ME} : (lOp f a b l st).To P ↔ (a l st).To fun x s => (b l s).To fun y s => (f x y s).To P := by unfold lOp; simp
@[simp] theorem to_rep1 {x : PyData} {k : Int} : (fRep (.d (.list [x])) (.d (.int k)) st).To P ↔ (-(2 ^ 63) ≤ k ∧ k < 2 ^ 63 ∧ k.toNat ≤ 16777216) ∧ P (List.replicate k.toNat x) st := by
  have e : (List.replicate k.toNat [x]).flatten = List.replicate k.toNat x := by
    generalize k.toNat = n
    induction n with
    | zero => rfl
    | succ n ih => rw [List.replicate_succ, List.flatten_cons, ih, List.replicate_succ]; rfl
  show (if (decide (-(2 ^ 63) ≤ k ∧ k < 2 ^ 63) && lenOk ([x].length * k.toNat)) = true then Res.ok (List.replicate k.toNat [x]).flatten st else .no).To P ↔ _
  rw [to_ite, e]
  simp only [Bool.and_eq_true, decide_eq_true_eq, lenOk_small, List.length_singleton, Nat.one_mul]
  split
  · rename_i h; exact ⟨fun z => ⟨⟨h.1.1, h.1.2, h.2⟩, z⟩, fun z => z.2⟩
  · rename_i h; exact ⟨fun z => z.elim, fun z => (h ⟨⟨z.1.1, z.1.2.1⟩, z.1.2.2⟩).elim⟩
end
def PBt (n m : Nat) (p : Pol) : Prop := p.ts.length ≤ m ∧ p.b < 2 ^ n ∧ ∀ t, t ∈ p.ts → t.natAbs < 2 ^ n
theorem PBt.get {n m : Nat} {p : Pol} (h : PBt n m p) (k : Nat) : (p.ts.getD k 0).natAbs < 2 ^ n := by
  rw [List.getD_eq_getElem?_getD]
  cases e : p.ts[k]? with
  | none => simp [Nat.two_pow_pos]
  | some t => exact h.2.2 t (List.mem_of_getElem? e)
def sumL (p q : Pol) : List Int := (List.range (max p.ts.length q.ts.length)).map fun k => p.ts.getD k 0 * q.b + q.ts.getD k 0 * p.b
instance : Add Pol := ⟨fun p q => mk (sumL p q) (p.b * q.b)⟩
theorem sumL_get {p q : Pol} {k : Nat} : (sumL p q).getD k 0 = p.ts.getD k 0 * q.b + q.ts.getD k 0 * p.b := by
  unfold sumL
  rw [List.getD_eq_getElem?_getD, List.getElem?_map]
  by_cases h : k < max p.ts.length q.ts.length
  · rw [List.getElem?_range h]; rfl
  · rw [List.getElem?_eq_none (by simp; omega)]
    rw [List.getD_eq_getElem?_getD, List.getD_eq_getElem?_getD, List.getElem?_eq_none (by omega), List.getElem?_eq_none (by omega)]
    simp
theorem co_add {p q : Pol} {k : Nat} : (p + q).co k = p.co k + q.co k := by
  have hp := p.hb
  have hq := q.hb
  show (mk (sumL p q) (p.b * q.b)).co k = _
  rw [co_mk (Nat.mul_pos hp hq), sumL_get]
  unfold Pol.co
  rw [Rat.divInt_add_divInt _ _ (by omega) (by omega), Int.natCast_mul]
theorem ev_add {p q : Pol} {x : Rat} : (p + q).ev x = p.ev x + q.ev x := by
  have e : (p + q).co = fun k => p.co k + q.co k := funext fun k => co_add
  rw [ev_co (n := max (p + q).ts.length (max p.ts.length q.ts.length)) (by omega), e, evC_add, ← ev_co (by omega), ← ev_co (by omega)]
section
variable {st : Sto} {Q : U → Sto → Prop} {p : Pol}
@[simp] theorem to_ixP0 : (fIx (.d (polyD p)) (.d (.int 0)) st).To Q ↔ Q (.d (.tuple (p.ts.map .int))) st := Iff.rfl
@[simp] theorem to_ixP1 : (fIx (.d (polyD p)) (.d (.int 1)) st).To Q ↔ Q (.d (.int p.b)) st := Iff.rfl
end
theorem for_ix {d : ItD} {t : MT} {b : MS} {N : Loc → Sto → Prop} {R : U → Sto → Prop} (I : Nat → Loc → Sto → Prop) {xs : List PyData} {l : Loc} {st : Sto} (hk : ∀ k l st, I k l st → d.chk st) (start : I 0 l st)
    (step : ∀ k x l st, xs[k]? = some x → I k l st → (t (.d x) l st).To fun l s => (b l s).To (I (k + 1)) R) (fin : ∀ l st, I xs.length l st → N l st) : (forM d t b xs l st).To N R := by
  refine for_to (I := fun ys l s => ∃ k, I k l s ∧ ∃ zs, xs = zs ++ ys ∧ zs.length = k) (fun _ _ _ ⟨k, h, _⟩ => hk k _ _ h) ?_ ?_ xs l st ⟨0, start, [], rfl, rfl⟩
  · rintro x ys l s ⟨k, h, zs, rfl, rfl⟩
    refine (step zs.length x l s (by simp) h).mono ?_
    intro l1 s1 h1
    exact h1.mono (fun l2 s2 h2 => ⟨_, h2, zs ++ [x], by simp, by simp⟩) (fun _ _ z => z)
  · rintro l s ⟨k, h, zs, e, rfl⟩
    rw [List.append_nil] at e
    subst e
    exact fin l s h
end NW
namespace NW
open PySem PySem.Spec PyProof.Rows L2
def Pol.sc (p : Pol) (r : Rat) : Pol := NW.mk (p.ts.map fun t => t * r.num) (p.b * r.den)
theorem co_sc {p : Pol} {r : Rat} {k : Nat} : (p.sc r).co k = p.co k * r := by
  have hp := p.hb
  have hr := r.den_pos
  unfold Pol.sc
  rw [co_mk (Nat.mul_pos hp hr), getD_map (by simp)]
  unfold Pol.co
  conv => rhs; rw [← Rat.num_divInt_den r]
  rw [Rat.divInt_mul_divInt, Int.natCast_mul]
theorem evC_mulr {x c : Rat} : ∀ {n : Nat} {f : Nat → Rat}, evC n (fun k => f k * c) x = evC n f x * c
  | 0, _ => by simp [evC]
  | n + 1, f => by rw [evC, evC, evC_mulr]; grind
theorem ev_sc {p : Pol} {r x : Rat} : (p.sc r).ev x = p.ev x * r := by
  have e : (p.sc r).co = fun k => p.co k * r := funext fun k => co_sc
  rw [ev_co (n := max (p.sc r).ts.length p.ts.length) (by omega), e, evC_mulr, ← ev_co (by omega)]
end NW
namespace NW
open PySem PySem.Spec PyProof.Rows L2
@[simp] theorem shaped_poly {p : Pol} : SeqAt.shaped (polyD p) = true := by
  have c : ∀ ts : List Int, PyData.canLayAll0 (ts.map .int) = true ∧ PyData.depthAll (ts.map .int) ≤ 0 := by
    intro ts
    induction ts with
    | nil => exact ⟨rfl, by simp [PyData.depthAll]⟩
    | cons t ts ih => exact ⟨by simp [PyData.canLayAll0, PyData.canLay0, ih.1], by simpa [PyData.depthAll, PyData.depth] using ih.2⟩
  have := c p.ts
  simp [polyD, SeqAt.shaped, PyData.canLay0, PyData.canLayAll0, PyData.depth, PyData.depthAll, this.1]
  omega
theorem eqvAll_ints : ∀ {ts us : List Int}, PyData.eqvAll (ts.map .int) (us.map .int) = decide (ts = us)
  | [], [] => by simp [PyData.eqvAll]
  | [], _ :: _ => by simp [PyData.eqvAll]
  | _ :: _, [] => by simp [PyData.eqvAll]
  | t :: ts, u :: us => by
    rw [List.map_cons, List.map_cons, PyData.eqvAll, eqvAll_ints, eqv_int, ← Bool.decide_and]
    exact decide_eq_decide.mpr (by rw [List.cons.injEq])
@[simp] theorem eqv_poly {p q : Pol} : PyData.eqv (polyD p) (polyD q) = true ↔ p = q := by
  simp only [polyD, PyData.eqv, PyData.eqvAll, eqvAll_ints]
  simp
  constructor
  · rintro ⟨a, b⟩
    cases p; cases q
    simp at a b
    have b' := Int.ofNat.inj b
    subst a; subst b'; rfl
  · rintro rfl; simp
theorem mk_b_le {ts : List Int} {b : Nat} (hb : 0 < b) : (mk ts b).b ≤ b := by
  unfold mk
  rw [dif_pos hb]
  exact Nat.div_le_self _ _
theorem lcms_lt {n : Nat} : ∀ {qs : List Rat} {b m : Nat}, (∀ q, q ∈ qs → FB n q) → b < 2 ^ m → lcms b qs < 2 ^ (m + qs.length * n)
  | [], b, m, _, h => by simpa [lcms] using h
  | q :: qs, b, m, hq, h => by
    rw [lcms]
    have := lcms_lt (fun r hr => hq r (List.mem_cons_of_mem _ hr)) (lcm_lt h (hq q (by simp)).2)
    refine Nat.lt_of_lt_of_le this (Nat.pow_le_pow_right (by omega) ?_)
    simp [Nat.add_mul]; omega
theorem cutD_takeN {xs : List PyData} {k : Nat} : cutD xs none (some (k : Int)) = xs.take k := by
  unfold cutD
  rw [HT.sIx_nat, HT.sIx_none]
  rw [List.drop_zero, Nat.sub_zero]
  by_cases h : k ≤ xs.length
  · rw [Nat.min_eq_left h]
  · rw [Nat.min_eq_right (by omega), List.take_of_length_le (Nat.le_refl _), List.take_of_length_le (by omega)]
end NW
namespace NW
open PySem PySem.Spec PyProof.Rows L2
def addZ : List Int → List Int → List Int
  | [], us => us
  | t :: ts, [] => t :: ts
  | t :: ts, u :: us => (t + u) :: addZ ts us
def mulZ : List Int → List Int → List Int
  | [], _ => []
  | t :: ts, us => addZ (us.map fun u => t * u) (0 :: mulZ ts us)
theorem evZ_addZ {x : Rat} : ∀ {ts us : List Int}, evZ (addZ ts us) x = evZ ts x + evZ us x
  | [], us => by rw [addZ]; simp [evZ]; grind
  | t :: ts, [] => by rw [addZ]; simp [evZ]; grind
  | t :: ts, u :: us => by rw [addZ, evZ, evZ, evZ, evZ_addZ, Rat.intCast_add]; grind
theorem evZ_mulZ {x : Rat} : ∀ {ts us : List Int}, evZ (mulZ ts us) x = evZ ts x * evZ us x
  | [], us => by rw [mulZ]; simp [evZ]
  | t :: ts, us => by rw [mulZ, evZ_addZ, evZ_mul, evZ, evZ, evZ_mulZ]; simp; grind
theorem addZ_len : ∀ {ts us : List Int} {m : Nat}, ts.length ≤ m → us.length ≤ m → (addZ ts us).length ≤ m
  | [], us, m, _, h => h
  | t :: ts, [], m, h, _ => h
  | t :: ts, u :: us, 0, h, _ => by simp at h
  | t :: ts, u :: us, m + 1, h, h' => by
    rw [addZ, List.length_cons]
    have := addZ_len (ts := ts) (us := us) (m := m) (by simpa using h) (by simpa using h')
    omega
theorem mulZ_len : ∀ {ts us : List Int}, (mulZ ts us).length ≤ ts.length + us.length
  | [], us => by simp [mulZ]
  | t :: ts, us => by
    rw [mulZ]
    refine addZ_len ?_ ?_
    · simp
    · have := mulZ_len (ts := ts) (us := us)
      simp; omega
def BZ (B : Nat) (ts : List Int) : Prop := ∀ t, t ∈ ts → t.natAbs ≤ B
theorem BZ.add {A B : Nat} : ∀ {ts us : List Int}, BZ A ts → BZ B us → BZ (A + B) (addZ ts us)
  | [], us, _, h => fun t ht => Nat.le_trans (h t ht) (by omega)
  | t :: ts, [], h, _ => fun u hu => Nat.le_trans (h u hu) (by omega)
  | t :: ts, u :: us, h, h' => fun w hw => by
    rw [addZ] at hw
    rcases List.mem_cons.mp hw with rfl | hw
    · have a := h t (by simp)
      have b := h' u (by simp)
      omega
    · exact BZ.add (fun x hx => h x (by simp [hx])) (fun x hx => h' x (by simp [hx])) w hw
theorem BZ.mul {A B : Nat} : ∀ {ts us : List Int}, BZ A ts → BZ B us → BZ (ts.length * (A * B)) (mulZ ts us)
  | [], us, _, _ => fun t ht => by rw [mulZ] at ht; cases ht
  | t :: ts, us, h, h' => by
    rw [mulZ]
    have ih := BZ.mul (ts := ts) (us := us) (fun x hx => h x (by simp [hx])) h'
    have := BZ.add (A := A * B) (B := ts.length * (A * B)) (ts := us.map fun u => t * u) (us := 0 :: mulZ ts us) (fun w hw => by
      obtain ⟨u, hu, rfl⟩ := List.mem_map.mp hw
      rw [Int.natAbs_mul]
      exact Nat.mul_le_mul (h t (by simp)) (h' u hu)) (fun w hw => by
      rcases List.mem_cons.mp hw with rfl | hw
      · simp
      · exact ih w hw)
    have e : A * B + ts.length * (A * B) = (t :: ts).length * (A * B) := by
      rw [List.length_cons, Nat.add_mul, Nat.one_mul, Nat.add_comm]
    rw [← e]; exact this
instance : Mul Pol := ⟨fun p q => mk (mulZ p.ts q.ts) (p.b * q.b)⟩
theorem ev_mul {p q : Pol} {x : Rat} : (p * q).ev x = p.ev x * q.ev x := by
  show (mk (mulZ p.ts q.ts) (p.b * q.b)).ev x = _
  rw [ev_mk (Nat.mul_pos p.hb q.hb), evZ_mulZ]
  unfold Pol.ev
  have a := p.bne
  have b := q.bne
  rw [Int.natCast_mul, Rat.intCast_mul]
  grind
theorem PBt.mk {ts : List Int} {b n m : Nat} (hb : 0 < b) (h1 : ts.length ≤ m) (h2 : b < 2 ^ n) (h3 : ∀ t, t ∈ ts → t.natAbs < 2 ^ n) : PBt n m (NW.mk ts b) := by
  have hbl := mk_b_le (ts := ts) hb
  refine ⟨?_, by omega, fun t ht => ?_⟩
  · unfold NW.mk
    rw [dif_pos hb]
    simp [mkT]; omega
  · unfold NW.mk at ht
    rw [dif_pos hb] at ht
    obtain ⟨u, hu, rfl⟩ := List.mem_map.mp ht
    refine Nat.lt_of_le_of_lt (Int.natAbs_ediv_le_natAbs _ _) (h3 u (List.mem_of_mem_take hu))
theorem PBt.mono {n m n' m' : Nat} {p : Pol} (h : PBt n m p) (hn : n ≤ n') (hm : m ≤ m') : PBt n' m' p :=
  ⟨Nat.le_trans h.1 hm, Nat.lt_of_lt_of_le h.2.1 (Nat.pow_le_pow_right (by omega) hn), fun t ht => Nat.lt_of_lt_of_le (h.2.2 t ht) (Nat.pow_le_pow_right (by omega) hn)⟩
theorem PBt.add {n1 n2 m : Nat} {p q : Pol} (hp : PBt n1 m p) (hq : PBt n2 m q) : PBt (n1 + n2 + 1) m (p + q) := by
  have hpw : 2 ^ (n1 + n2 + 1) = 2 ^ n1 * 2 ^ n2 + 2 ^ n1 * 2 ^ n2 := by rw [Nat.pow_succ, Nat.pow_add]; omega
  have hbb : p.b * q.b < 2 ^ n1 * 2 ^ n2 := Nat.mul_lt_mul'' hp.2.1 hq.2.1
  refine PBt.mk (Nat.mul_pos p.hb q.hb) ?_ (by omega) fun t ht => ?_
  · have := hp.1; have := hq.1
    simp [sumL]; omega
  · obtain ⟨k, hk, rfl⟩ := List.mem_map.mp ht
    have a : (p.ts.getD k 0 * q.b).natAbs < 2 ^ n1 * 2 ^ n2 := by
      rw [Int.natAbs_mul, Int.natAbs_natCast]; exact Nat.mul_lt_mul'' (hp.get k) hq.2.1
    have b : (q.ts.getD k 0 * p.b).natAbs < 2 ^ n1 * 2 ^ n2 := by
      rw [Int.natAbs_mul, Int.natAbs_natCast, Nat.mul_comm]; exact Nat.mul_lt_mul'' hp.2.1 (hq.get k)
    omega
theorem PBt.mul {n1 n2 m1 m2 : Nat} {p q : Pol} (hp : PBt n1 m1 p) (hq : PBt n2 m2 q) (hm : m1 ≤ 1000) : PBt (n1 + n2 + 10) (m1 + m2) (p * q) := by
  have hpw : 2 ^ (n1 + n2 + 10) = 1024 * (2 ^ n1 * 2 ^ n2) := by rw [Nat.pow_add, Nat.pow_add]; omega
  have hbb : p.b * q.b < 2 ^ n1 * 2 ^ n2 := Nat.mul_lt_mul'' hp.2.1 hq.2.1
  have h1 := hp.1
  have h2 := hq.1
  refine PBt.mk (Nat.mul_pos p.hb q.hb) ?_ (by omega) fun t ht => ?_
  · have := mulZ_len (ts := p.ts) (us := q.ts)
    omega
  · have z := BZ.mul (A := 2 ^ n1) (B := 2 ^ n2) (ts := p.ts) (us := q.ts) (fun t ht => Nat.le_of_lt (hp.2.2 t ht)) (fun t ht => Nat.le_of_lt (hq.2.2 t ht)) t ht
    have : p.ts.length * (2 ^ n1 * 2 ^ n2) ≤ 1000 * (2 ^ n1 * 2 ^ n2) := Nat.mul_le_mul_right _ (by omega)
    have : 0 < 2 ^ n1 * 2 ^ n2 := Nat.mul_pos (Nat.two_pow_pos _) (Nat.two_pow_pos _)
    omega
theorem PBt.sc {n1 n2 m : Nat} {p : Pol} {r : Rat} (hp : PBt n1 m p) (hr : FB n2 r) : PBt (n1 + n2) m (p.sc r) := by
  have hpw : 2 ^ (n1 + n2) = 2 ^ n1 * 2 ^ n2 := by rw [Nat.pow_add]
  refine PBt.mk (Nat.mul_pos p.hb r.den_pos) (by simpa using hp.1) (by rw [hpw]; exact Nat.mul_lt_mul'' hp.2.1 hr.2) fun t ht => ?_
  obtain ⟨u, hu, rfl⟩ := List.mem_map.mp ht
  rw [hpw, Int.natAbs_mul]
  exact Nat.mul_lt_mul'' (hp.2.2 u hu) hr.1
end NW
namespace NW
open PySem PySem.Spec PyProof.Rows L2
section
variable {st : Sto} {Q : U → Sto → Prop}
@[simp] theorem to_mPop {k : Nat} : (mPop (.ref k) [] st).To Q ↔ ∃ xs y, st.obs[k]? = some (.lst xs) ∧ xs[xs.length - 1]? = some y ∧ Q (.d y) (st.put k xs.dropLast) := by
  unfold mPop
  cases e : ownL st (.ref k) with
  | none =>
    refine ⟨fun w => w.elim, fun ⟨xs, y, h, _⟩ => ?_⟩
    rw [ownL_ref.mpr ⟨h, rfl⟩] at e; cases e
  | some p =>
    obtain ⟨j, ys⟩ := p
    obtain ⟨e1, rfl⟩ := ownL_ref.mp e
    show (match ys[ys.length - 1]? with
      | some y => Res.ok (U.d y) (st.put j ys.dropLast)
      | none => .no).To Q ↔ _
    cases e2 : ys[ys.length - 1]? with
    | none =>
      refine ⟨fun w => w.elim, fun ⟨xs, y, h, h2, _⟩ => ?_⟩
      rw [e1] at h; cases h; rw [e2] at h2; cases h2
    | some y =>
      refine ⟨fun w => ⟨ys, y, e1, e2, w⟩, fun ⟨xs, z, h, h2, w⟩ => ?_⟩
      rw [e1] at h; cases h; rw [e2] at h2; cases h2; exact w
theorem ixl_to {xs : List PyData} {i : Int} {p : PyData → Prop} (h0 : 0 ≤ i) (h1 : i < xs.length) (hp : ∀ x, x ∈ xs → p x) (h : ∀ x, p x → Q (.d x) st) : (fIx (.d (.list xs)) (.d (.int i)) st).To Q := by
  obtain ⟨n, rfl⟩ := Int.eq_ofNat_of_zero_le h0
  have hn : n < xs.length := by omega
  rw [to_ixL]
  exact ⟨xs[n], by rw [idxN_nat hn]; simp [hn], h _ (hp _ (List.getElem_mem hn))⟩
theorem SeqD.lst {S : PyData} {xs : List PyData} (h : SeqD S xs) {P : List PyData → Sto → Prop} : (cListOf [.d S] st).To P ↔ P xs st := by rcases h with rfl | rfl <;> exact Iff.rfl
end
end NW
namespace NW
open PySem PySem.Spec PyProof.Rows L2
def Pol.one : Pol := ⟨[1], 1, by decide, by simp [Tr], rfl⟩
def Pol.zero : Pol := ⟨[], 1, by decide, trivial, rfl⟩
def Pol.X : Pol := ⟨[0, 1], 1, by decide, by simp [Tr], rfl⟩
theorem ev_one {x : Rat} : Pol.one.ev x = 1 := by simp [Pol.ev, Pol.one, evZ]; grind
theorem ev_zero {x : Rat} : Pol.zero.ev x = 0 := by simp [Pol.ev, Pol.zero, evZ]; grind
theorem ev_X {x : Rat} : Pol.X.ev x = x := by simp [Pol.ev, Pol.X, evZ]; grind
theorem PBt.one : PBt 1 1 Pol.one := ⟨by simp [Pol.one], by decide, by simp [Pol.one]⟩
theorem PBt.zero : PBt 1 1 Pol.zero := ⟨by simp [Pol.zero], by decide, by simp [Pol.zero]⟩
theorem PBt.X : PBt 1 2 Pol.X := ⟨by simp [Pol.X], by decide, by simp [Pol.X]⟩
def Pol.pw (p : Pol) : Nat → Pol
  | 0 => Pol.one
  | k + 1 => p.pw k * p
theorem PBt.pw {n m : Nat} {p : Pol} (h : PBt n m p) : ∀ {k : Nat}, k * m + 1 ≤ 1000 → PBt (k * (n + 10) + 1) (k * m + 1) (p.pw k)
  | 0, _ => PBt.one.mono (by omega) (by omega)
  | k + 1, hk => by
    have e : (k + 1) * m = k * m + m := by rw [Nat.add_mul, Nat.one_mul]
    have e2 : (k + 1) * (n + 10) = k * (n + 10) + (n + 10) := by rw [Nat.add_mul, Nat.one_mul]
    exact ((PBt.pw h (k := k) (by omega)).mul h (by omega)).mono (by omega) (by omega)
def hz (b : Nat) (g : Pol) : List Int → Pol
  | [] => Pol.zero
  | t :: ts => hz b g ts * g + mk [t] b
def Pol.comp (f g : Pol) : Pol := hz f.b g f.ts
theorem ev_hz {b : Nat} (hb : 0 < b) {g : Pol} {x : Rat} : ∀ {ts : List Int}, (hz b g ts).ev x = evZ ts (g.ev x) / (b : Int)
  | [] => by rw [hz, ev_zero]; simp [evZ]; grind
  | t :: ts => by
    have hb' : (((b : Int)) : Rat) ≠ 0 := by
      intro e; have := Rat.intCast_eq_zero_iff.mp e; omega
    rw [hz, ev_add, ev_mul, ev_hz hb, ev_mk hb]
    simp only [evZ]
    grind
theorem ev_comp {f g : Pol} {x : Rat} : (f.comp g).ev x = f.ev (g.ev x) := by
  unfold Pol.comp
  rw [ev_hz f.hb]; rfl
theorem hz_sz {b n n2 m : Nat} {g : Pol} (hb : 0 < b) (hbn : b < 2 ^ n) (hg : PBt n2 m g) : ∀ {ts : List Int}, (∀ t, t ∈ ts → t.natAbs < 2 ^ n) → ts.length * m + 1 ≤ 1000 → PBt (ts.length * (n + n2 + 11) + 1) (ts.length * m + 1) (hz b g ts)
  | [], _, _ => by simpa [hz] using PBt.zero
  | t :: ts, ht, hl => by
    rw [List.length_cons] at hl ⊢
    have e : (ts.length + 1) * m = ts.length * m + m := by rw [Nat.add_mul, Nat.one_mul]
    have e2 : (ts.length + 1) * (n + n2 + 11) = ts.length * (n + n2 + 11) + (n + n2 + 11) := by rw [Nat.add_mul, Nat.one_mul]
    have ih := hz_sz hb hbn hg (ts := ts) (fun u hu => ht u (by simp [hu])) (by omega)
    have h1 := ih.mul hg (by omega)
    have h2 : PBt n (ts.length * m + 1 + m) (mk [t] b) := PBt.mk hb (by simp; omega) hbn (by simpa using ht t (by simp))
    exact (h1.add h2).mono (by omega) (by omega)
theorem PBt.comp {n n2 m1 m : Nat} {f g : Pol} (hf : PBt n m1 f) (hg : PBt n2 m g) (hl : m1 * m + 1 ≤ 1000) : PBt (m1 * (n + n2 + 11) + 1) (m1 * m + 1) (f.comp g) := by
  have h1 : f.ts.length * m ≤ m1 * m := Nat.mul_le_mul_right _ hf.1
  have h2 : f.ts.length * (n + n2 + 11) ≤ m1 * (n + n2 + 11) := Nat.mul_le_mul_right _ hf.1
  exact (hz_sz f.hb hf.2.1 hg hf.2.2 (by omega)).mono (by omega) (by omega)
theorem FB.mul2 {p q : Rat} {a b : Nat} (hp : FB a p) (hq : FB b q) : FB (a + b) (p * q) := by
  rw [← mul_divInt]
  exact FB.of_divInt (Int.mul_ne_zero (den_ne p) (den_ne q)) (by rw [Int.natAbs_mul, Nat.pow_add]; exact Nat.mul_lt_mul'' hp.1 hq.1) (by rw [Int.natAbs_mul, Nat.pow_add]; exact Nat.mul_lt_mul'' hp.2 hq.2)
theorem FB.div2 {p q : Rat} {a b : Nat} (hp : FB a p) (hq : FB b q) (hz : q ≠ 0) : FB (a + b) (p / q) := by
  have hz' : q.num ≠ 0 := fun e => hz (Rat.num_eq_zero.mp e)
  rw [← div_divInt]
  exact FB.of_divInt (Int.mul_ne_zero (den_ne p) hz') (by rw [Int.natAbs_mul, Nat.pow_add]; exact Nat.mul_lt_mul'' hp.1 hq.2) (by rw [Int.natAbs_mul, Nat.pow_add]; exact Nat.mul_lt_mul'' hp.2 hq.1)
theorem FB.add2 {p q : Rat} {a b : Nat} (hp : FB a p) (hq : FB b q) : FB (a + b + 1) (p + q) := by
  rw [← add_divInt]
  have hpw : 2 ^ (a + b + 1) = 2 ^ a * 2 ^ b + 2 ^ a * 2 ^ b := by rw [Nat.pow_succ, Nat.pow_add]; omega
  have e1 : (p.num * q.den).natAbs < 2 ^ a * 2 ^ b := by rw [Int.natAbs_mul]; exact Nat.mul_lt_mul'' hp.1 hq.2
  have e2 : (q.num * p.den).natAbs < 2 ^ a * 2 ^ b := by rw [Int.natAbs_mul, Nat.mul_comm]; exact Nat.mul_lt_mul'' hp.2 hq.1
  have e3 : ((p.den : Int) * q.den).natAbs < 2 ^ a * 2 ^ b := by rw [Int.natAbs_mul]; exact Nat.mul_lt_mul'' hp.2 hq.2
  refine FB.of_divInt (Int.mul_ne_zero (den_ne p) (den_ne q)) ?_ (by omega)
  omega
theorem FB.sub2 {p q : Rat} {a b : Nat} (hp : FB a p) (hq : FB b q) : FB (a + b + 1) (p - q) := by
  rw [Rat.sub_eq_add_neg]; exact hp.add2 hq.neg
theorem FB.int {n : Nat} {t : Int} (h : t.natAbs < 2 ^ n) (h0 : 0 < n) : FB n (t : Rat) := ⟨h, by have : 2 ≤ 2 ^ n := Nat.le_self_pow (by omega) 2; show 1 < 2 ^ n; omega⟩
end NW
namespace NW
open PySem PySem.Spec PyProof.Rows L2
instance : Sub Pol := ⟨fun p q => p + q.sc (-1)⟩
theorem ev_sub {p q : Pol} {x : Rat} : (p - q).ev x = p.ev x - q.ev x := by
  show (p + q.sc (-1)).ev x = _
  rw [ev_add, ev_sc]; grind
theorem FB_m1 : FB 1 (-1) := ⟨by decide, by decide⟩
theorem PBt.sub {n1 n2 m : Nat} {p q : Pol} (hp : PBt n1 m p) (hq : PBt n2 m q) : PBt (n1 + n2 + 2) m (p - q) := (hp.add (hq.sc FB_m1)).mono (by omega) (by omega)
@[simp] theorem ex_src {α β : Type} {A : α} {B : β} {C : α → β → Prop} : (∃ xs own, (A = xs ∧ own = B) ∧ C xs own) ↔ C A B := ⟨fun ⟨_, _, ⟨rfl, rfl⟩, h⟩ => h, fun h => ⟨_, _, ⟨rfl, rfl⟩, h⟩⟩
end NW
namespace NW
open PySem PySem.Spec PyProof.Rows L2
def smI : Nat → (Nat → Int) → Int
  | 0, _ => 0
  | n + 1, f => smI n f + f n
def sm : Nat → (Nat → Rat) → Rat
  | 0, _ => 0
  | n + 1, f => sm n f + f n
theorem smI_succ {f : Nat → Int} : ∀ {n : Nat}, smI (n + 1) f = f 0 + smI n fun k => f (k + 1)
  | 0 => by simp [smI]
  | n + 1 => by rw [smI, smI_succ, smI]; omega
theorem smI_zero {f : Nat → Int} {n : Nat} (h : ∀ k, k < n → f k = 0) : smI n f = 0 := by
  induction n with
  | zero => rfl
  | succ n ih => rw [smI, ih fun k hk => h k (by omega), h n (by omega)]; rfl
theorem addZ_get : ∀ {ts us : List Int} {k : Nat}, (addZ ts us).getD k 0 = ts.getD k 0 + us.getD k 0
  | [], us, k => by simp [addZ]
  | t :: ts, [], k => by simp [addZ]
  | t :: ts, u :: us, 0 => by simp [addZ]
  | t :: ts, u :: us, k + 1 => by
    have := addZ_get (ts := ts) (us := us) (k := k)
    simpa [addZ] using this
theorem mulZ_get : ∀ {ts us : List Int} {k : Nat}, (mulZ ts us).getD k 0 = smI (k + 1) fun j => ts.getD j 0 * us.getD (k - j) 0
  | [], us, k => by rw [mulZ, smI_zero fun j _ => by simp]; simp
  | t :: ts, us, 0 => by rw [mulZ, addZ_get, getD_map (by simp)]; simp [smI]
  | t :: ts, us, k + 1 => by
    rw [mulZ, addZ_get, getD_map (by simp), List.getD_cons_succ, mulZ_get]
    conv => rhs; rw [smI_succ]
    simp only [List.getD_cons_zero, List.getD_cons_succ, Nat.sub_zero, Nat.add_sub_add_right]
theorem co_lead {p : Pol} (h : p.ts ≠ []) : p.co (p.ts.length - 1) ≠ 0 := by
  have hb := p.hb
  intro e
  unfold Pol.co at e
  have e2 : Rat.divInt (p.ts.getD (p.ts.length - 1) 0) p.b = Rat.divInt 0 1 := by rw [e, Rat.zero_divInt]
  have := (Rat.divInt_eq_divInt_iff (by omega) (by omega)).mp e2
  exact tr_get p.ht h (by omega)
end NW
namespace NW
open PySem PySem.Spec PyProof.Rows L2
def Pol.again (f : Pol) : Nat → Pol
  | 0 => Pol.X
  | k + 1 => f.comp (f.again k)
end NW
namespace NW
open PySem PySem.Spec PyProof.Rows L2
theorem pickx {f : Fl} (hf : FlOk f) {many : Int} (h0 : 0 < many) {b : Nat} (hb0 : 0 < b) (hb9 : b ≤ 9000) (h1 : many.natAbs < 2 ^ b) : (m_L_pick [.int many] f).To fun d f' => ∃ i, d = .int i ∧ 0 ≤ i ∧ i < many ∧ FlOk f' := by
  unfold m_L_pick
  rw [flow_to]
  obtain ⟨cells, place, held, seed, mny⟩ := f
  obtain ⟨a1, a2, a3, a4⟩ := hf
  simp only at a1 a2 a3 a4
  unfold b_L_pick
  simp only [startL, List.map_cons, List.map_nil, List.length_cons, List.length_nil, List.cons_append, List.nil_append, List.replicate]
  have tail : ∀ (cells : List Int) (place held seed mny : Int) (c : Option U), 0 ≤ held → 0 ≤ seed → seed < 2147483647 → 0 ≤ place →
      (held ≤ 0 ∧ mulC seed 48271 = true ∧ divC ((seed * 48271 + 12820163 + (mny + 1)).fmod 2147483647) 65521 = true ∧
    mulC (((seed * 48271 + 12820163 + (mny + 1)).fmod 2147483647).fmod 65521 + 1) (((seed * 48271 + 12820163 + (mny + 1)).fmod 2147483647).fdiv 65521 + 7919) = true ∧
    divC (((((seed * 48271 + 12820163 + (mny + 1)).fmod 2147483647).fmod 65521 + 1) * (((seed * 48271 + 12820163 + (mny + 1)).fmod 2147483647).fdiv 65521 + 7919)).fmod 1000003) 7 = true ∧ ¬many = 0 ∧
      0 ≤ (((((((seed * 48271 + 12820163 + (mny + 1)).fmod 2147483647).fmod 65521 + 1) * (((seed * 48271 + 12820163 + (mny + 1)).fmod 2147483647).fdiv 65521 + 7919)).fmod 1000003).fdiv 7).fmod many) ∧
      (((((((seed * 48271 + 12820163 + (mny + 1)).fmod 2147483647).fmod 65521 + 1) * (((seed * 48271 + 12820163 + (mny + 1)).fmod 2147483647).fdiv 65521 + 7919)).fmod 1000003).fdiv 7).fmod many) < many ∧
      FlOk { cells := cells, place := place, held := held, seed := (seed * 48271 + 12820163 + (mny + 1)).fmod 2147483647, many := mny + 1 }) ∨
      0 < held ∧ ¬many = 0 ∧ divC held many = true ∧ 0 ≤ held.fmod many ∧ held.fmod many < many ∧ FlOk { cells := cells, place := place, held := held.fdiv many, seed := seed, many := mny } := by
    intro cells place held seed mny c b1 b2 b3 b4
    by_cases hh : held ≤ 0
    · exact .inl ⟨hh, pick_A (P := fun i s => 0 ≤ i ∧ i < many ∧ FlOk ⟨cells, place, held, s, mny + 1⟩) b2 b3 h0 fun i s c1 c2 c3 c4 => ⟨c1, c2, b1, c3, c4, b4⟩⟩
    · have d := fmod_lt (a := held) h0
      exact .inr ⟨by omega, by omega, divC_of (b := b) (by omega) h1 hb0 hb9, d.1, d.2, fdiv_nn b1 h0, b2, b3, b4⟩
  by_cases hh : held = 0
  · subst hh
    by_cases hp : place < cells.length
    · obtain ⟨n, rfl⟩ := Int.eq_ofNat_of_zero_le a4
      have hn : n < cells.length := by omega
      have hq : ¬ cells.length ≤ n := by omega
      have e1 : idxN cells.length ((n : Nat) : Int) = some n := idxN_nat hn
      have e2 : cells[n]? = some cells[n] := List.getElem?_eq_getElem hn
      by_cases hx : cells[n] < 1000000000000000000
      · have z := tail cells ((n : Int) + 1) 0 ((seed * 40013 + cells[n].fmod 1000003 + 1).fmod 2147483647) mny none a1 (fmod_lt (by omega)).1 (fmod_lt (by omega)).2 (by omega)
        have y := mulC_small (i := seed) (j := 40013) (by omega) (by omega)
        have hx1 : ¬ 1000000000000000000 ≤ cells[n] := by omega
        simp [hn, hq, e1, e2, hx, hx1, y] at z ⊢
        exact z
      · have hx' : ¬ cells[n] < 1000000000000000000 := hx
        have z := tail cells ((n : Int) + 1) cells[n] seed mny none (by omega) a2 a3 (by omega)
        have hx2 : 1000000000000000000 ≤ cells[n] := by omega
        have hx3 : 0 < cells[n] := by omega
        have hx4 : ¬ cells[n] ≤ 0 := by omega
        simp [hn, hq, e1, e2, hx, hx2, hx3, hx4] at z ⊢
        exact z
    · have hp' : (cells.length : Int) ≤ place := by omega
      have z := tail cells place 0 seed mny none a1 a2 a3 a4
      simp [hp, hp'] at z ⊢
      exact z
  · have z := tail cells place held seed mny none a1 a2 a3 a4
    simp [hh] at z ⊢
    exact z
theorem PBt.ofC {qs : List Rat} {n : Nat} (hq : ∀ q, q ∈ qs → FB n q) (h0 : 0 < n) : PBt (n + 1 + qs.length * n) qs.length (NW.ofC qs) := by
  have hb : 0 < lcms 1 qs := lcms_pos (by decide)
  have hB : lcms 1 qs < 2 ^ (1 + qs.length * n) := lcms_lt hq (by decide)
  refine PBt.mk hb (by simp) (Nat.lt_of_lt_of_le hB (Nat.pow_le_pow_right (by omega) (by omega))) fun t ht => ?_
  obtain ⟨q, hq', rfl⟩ := List.mem_map.mp ht
  rw [Int.natAbs_mul, Int.natAbs_natCast, Nat.add_assoc, Nat.pow_add]
  exact Nat.mul_lt_mul'' (hq q hq').1 (Nat.lt_of_le_of_lt (Nat.div_le_self _ _) hB)
def Pol.lin (a b : Rat) : Pol := NW.ofC [b, a]
theorem PBt.lin {a b : Rat} {n : Nat} (ha : FB n a) (hb : FB n b) (h0 : 0 < n) : PBt (3 * n + 1) 2 (Pol.lin a b) :=
  (PBt.ofC (qs := [b, a]) (by simp [ha, hb]) h0).mono (by simp; omega) (by simp)
def Pol.inv (l : Pol) : Pol := Pol.lin (1 / l.co 1) (-(1 / l.co 1 * l.co 0))
theorem co_FB {p : Pol} {n m k : Nat} (h : PBt n m p) : FB n (p.co k) := by
  unfold Pol.co
  have := p.hb
  exact FB.of_divInt (by omega) (h.get k) (by simpa using h.2.1)
theorem inv_FB {l : Pol} {n m : Nat} (h : PBt n m l) (h0 : 0 < n) (hz : l.co 1 ≠ 0) : FB (n + 1) (1 / l.co 1) ∧ FB (2 * n + 1) (-(1 / l.co 1 * l.co 0)) := by
  have h1 : FB (n + 1) (1 / l.co 1) := ((FB.one (n := 1) (by omega)).div2 (co_FB h) hz).mono (by omega)
  exact ⟨h1, ((h1.mul2 (co_FB (k := 0) h)).neg).mono (by omega)⟩
theorem PBt.inv {l : Pol} {n m : Nat} (h : PBt n m l) (h0 : 0 < n) (hz : l.co 1 ≠ 0) : PBt (6 * n + 4) 2 l.inv := by
  obtain ⟨f1, f2⟩ := inv_FB h h0 hz
  exact (PBt.lin (f1.mono (by omega)) f2 (by omega)).mono (by omega) (by omega)
end NW
namespace NW
open PySem PySem.Spec PyProof.Rows L2
theorem L_number_to {f : Fl} (hf : FlOk f) {most : Int} (h0 : 0 ≤ most) (h1 : most ≤ 10 ^ 40) : (m_L_number [.int most] f).To fun d f' => ∃ i, d = .int i ∧ -most ≤ i ∧ i ≤ most ∧ FlOk f' := by
  unfold m_L_number
  rw [flow_to]
  unfold b_L_number
  have mc : mulC 2 most = true := mulC_of (a := 2) (b := 140) (by decide) (by omega) (by omega) (by omega) (by omega)
  simp [startL, mc]
  refine (pickx (b := 200) hf (by omega) (by omega) (by omega) (by omega)).mono ?_
  rintro _ g1 ⟨i, rfl, i1, i2, o1⟩
  simp
  exact ⟨by omega, by omega, o1⟩
theorem pw_le {a b : Nat} (h : a ≤ b) : 2 ^ a ≤ 2 ^ b := Nat.pow_le_pow_right (by omega) h
theorem any_fraction_to {f : Fl} (hf : FlOk f) {most : Int} {n : Nat} (h0 : 1 ≤ most) (h1 : most ≤ 10 ^ 40) (hn : most < 2 ^ n) (h2 : 2 ≤ n) (h3 : n ≤ 400000) : (m_L_any_fraction [.int most] f).To fun d f' => ∃ q, d = fracD q ∧ FB n q ∧ FlOk f' := by
  unfold m_L_any_fraction
  rw [flow_to]
  unfold b_L_any_fraction
  have hc : ((2 ^ n : Nat) : Int) = 2 ^ n := by simp
  have h4 : 2 ^ 2 ≤ 2 ^ n := pw_le h2
  simp [startL]
  refine (L_number_to hf (by omega) h1).mono ?_
  rintro _ g1 ⟨v, rfl, v1, v2, o1⟩
  refine (pick_to o1 (by omega) (by omega)).mono ?_
  rintro _ g2 ⟨i, rfl, i1, i2, o2⟩
  refine ixl_to (p := fun x => ∃ j : Int, x = .int j ∧ 1 ≤ j ∧ (j ≤ most ∨ j ≤ 3)) i1 i2 (by simp; omega) ?_
  rintro _ ⟨m, rfl, m0, m1⟩
  simp
  refine (pickx (b := 200) o2 (by omega) (by omega) (by omega) (by omega)).mono ?_
  rintro _ g3 ⟨u, rfl, u1, u2, o3⟩
  simp
  have bu : (1 + u).natAbs < 2 ^ n := by omega
  refine L_fraction_to (by omega) trivial ?_
  exact ⟨_, rfl, FB.of_divInt (by omega) (by omega) bu, o3⟩
theorem L_added_eq : m_L_added = m_added := by
  unfold m_L_added m_added b_L_added b_added
  rw [L_fraction_eq]
theorem L_product_eq : m_L_product = m_multiplied := by
  unfold m_L_product m_multiplied b_L_product b_multiplied
  rw [L_fraction_eq]
theorem FB.pow {r : Rat} {b : Nat} (hr : FB b r) : ∀ {k : Nat}, FB (k * b + 1) (r ^ k)
  | 0 => by
    have e : r ^ 0 = 1 := by grind
    rw [e]; exact FB.one (by omega)
  | k + 1 => by
    have e : r ^ (k + 1) = r ^ k * r := by grind
    rw [e, Nat.add_mul, Nat.one_mul]
    exact (FB.mul2 (FB.pow hr (k := k)) hr).mono (by omega)
def Pol.tu (A : Rat) : Nat → Pol
  | 0 => NW.mk [2] 1
  | 1 => Pol.X
  | n + 2 => Pol.X * Pol.tu A (n + 1) - (Pol.tu A n).sc A
theorem ev_tu0 {A x : Rat} : (Pol.tu A 0).ev x = 2 := by rw [Pol.tu, ev_mk (by decide)]; simp [evZ]; grind
theorem ev_tu1 {A x : Rat} : (Pol.tu A 1).ev x = x := ev_X
theorem ev_tu2 {A x : Rat} {n : Nat} : (Pol.tu A (n + 2)).ev x = x * (Pol.tu A (n + 1)).ev x - A * (Pol.tu A n).ev x := by rw [Pol.tu, ev_sub, ev_mul, ev_sc, ev_X]; grind
theorem BZ.scale {A B : Nat} {c : Int} {ts : List Int} (h : BZ A ts) (hc : c.natAbs ≤ B) : BZ (B * A) (ts.map fun t => c * t) := fun w hw => by
  obtain ⟨t, ht, rfl⟩ := List.mem_map.mp hw
  rw [Int.natAbs_mul]
  exact Nat.mul_le_mul hc (h t ht)
theorem tu_rep {A : Rat} {b : Nat} (hA : FB b A) : ∀ (n : Nat), ∃ ts : List Int, (∀ x, (Pol.tu A n).ev x = evZ ts x / (((A.den ^ n : Nat) : Int) : Rat)) ∧ ts.length ≤ n + 1 ∧ BZ (2 ^ ((b + 1) * n + 1)) ts
  | 0 => ⟨[2], fun x => by rw [ev_tu0]; simp [evZ]; grind, by simp, by simp [BZ]⟩
  | 1 => ⟨[0, (A.den : Int)], fun x => by
      rw [ev_tu1]
      have : ((A.den : Int) : Rat) ≠ 0 := fun e => den_ne A (Rat.intCast_eq_zero_iff.mp e)
      simp [evZ]
      grind, by simp, by
      have := hA.2
      have h2 : 2 ^ b ≤ 2 ^ ((b + 1) * 1 + 1) := pw_le (by omega)
      intro t ht
      simp at ht
      rcases ht with rfl | rfl
      · simp
      · simp; omega⟩
  | n + 2 => by
    obtain ⟨ts, e1, l1, s1⟩ := tu_rep hA n
    obtain ⟨us, e2, l2, s2⟩ := tu_rep hA (n + 1)
    refine ⟨addZ (0 :: us.map fun t => (A.den : Int) * t) (ts.map fun t => (-(A.num * A.den)) * t), fun x => ?_, addZ_len (by simp; omega) (by simp; omega), ?_⟩
    · rw [ev_tu2, e1, e2, evZ_addZ, evZ_mul, evZ, evZ_mul]
      have h1 : ((A.den : Int) : Rat) ≠ 0 := fun e => den_ne A (Rat.intCast_eq_zero_iff.mp e)
      have h2 : (((A.den ^ n : Nat) : Int) : Rat) ≠ 0 := fun e => by
        have := Rat.intCast_eq_zero_iff.mp e
        have := Nat.pow_pos (n := n) A.den_pos
        omega
      have h3 : (((A.den ^ (n + 1) : Nat) : Int) : Rat) = (((A.den ^ n : Nat) : Int) : Rat) * ((A.den : Int) : Rat) := by rw [Nat.pow_succ, Int.natCast_mul, Rat.intCast_mul]
      have h4 : (((A.den ^ (n + 2) : Nat) : Int) : Rat) = (((A.den ^ n : Nat) : Int) : Rat) * ((A.den : Int) : Rat) * ((A.den : Int) : Rat) := by rw [Nat.pow_succ, Int.natCast_mul, Rat.intCast_mul, h3]
      have eA := Rat.num_divInt_den A
      rw [divInt_div] at eA
      rw [h3, h4, Rat.intCast_neg, Rat.intCast_mul]
      generalize evZ ts x = u
      generalize evZ us x = v
      conv => lhs; rw [← eA]
      simp
      grind
    · have z0 : BZ (2 ^ b * 2 ^ ((b + 1) * (n + 1) + 1)) (0 :: us.map fun t => (A.den : Int) * t) := fun w hw => by
        rcases List.mem_cons.mp hw with rfl | hw
        · simp
        · exact s2.scale (by have := hA.2; omega) w hw
      have z1 := s1.scale (c := -(A.num * A.den)) (B := 2 ^ b * 2 ^ b) (by
        rw [Int.natAbs_neg, Int.natAbs_mul]
        exact Nat.mul_le_mul (Nat.le_of_lt hA.1) (Nat.le_of_lt hA.2))
      have z := z0.add z1
      refine fun w hw => Nat.le_trans (z w hw) ?_
      have q1 : (b + 1) * (n + 1) = (b + 1) * n + b + 1 := by rw [Nat.mul_add]; omega
      have q2 : (b + 1) * (n + 2) = (b + 1) * n + 2 * b + 2 := by rw [Nat.mul_add]; omega
      rw [← Nat.pow_add, ← Nat.pow_add, ← Nat.pow_add]
      have p1 : 2 ^ (b + ((b + 1) * (n + 1) + 1)) ≤ 2 ^ ((b + 1) * n + 2 * b + 2) := pw_le (by omega)
      have p2 : 2 ^ (b + b + ((b + 1) * n + 1)) ≤ 2 ^ ((b + 1) * n + 2 * b + 2) := pw_le (by omega)
      have p3 : 2 ^ ((b + 1) * (n + 2) + 1) = 2 * 2 ^ ((b + 1) * n + 2 * b + 2) := by
        rw [q2, Nat.pow_succ, Nat.mul_comm]
      omega
theorem PBt.tu {A : Rat} {b : Nat} (hA : FB b A) (n : Nat) : PBt ((b + 1) * n + 2) (n + 1) (Pol.tu A n) := by
  obtain ⟨ts, e, hl, hs⟩ := tu_rep hA n
  have hp := Nat.pow_pos (n := n) A.den_pos
  have : Pol.tu A n = NW.mk ts (A.den ^ n) := Pol.ext_ev fun x => by rw [e, ev_mk hp]
  rw [this]
  refine PBt.mk hp hl ?_ fun t ht => ?_
  · have h1 : A.den ^ n ≤ (2 ^ b) ^ n := Nat.pow_le_pow_left (Nat.le_of_lt hA.2) n
    rw [← Nat.pow_mul] at h1
    have h2 : 2 ^ (b * n) < 2 ^ ((b + 1) * n + 2) := Nat.pow_lt_pow_right (by omega) (by rw [Nat.add_mul]; omega)
    omega
  · refine Nat.lt_of_le_of_lt (hs t ht) (Nat.pow_lt_pow_right (by omega) (by omega))
@[simp] theorem idx_2 {n : Nat} : idxN (n + 3) 2 = some 2 := by
  unfold idxN
  rw [if_pos (by decide), if_pos (by omega)]; rfl
@[simp] theorem idx_3 {n : Nat} : idxN (n + 4) 3 = some 3 := by
  unfold idxN
  rw [if_pos (by decide), if_pos (by omega)]; rfl
end NW
namespace NW
open PySem PySem.Spec PyProof.Rows L2
def Pol.deg (p : Pol) : Nat := p.ts.length - 1
end NW
namespace NW
open PySem PySem.Spec PyProof.Rows L2
def sumA (T : List Int) : Nat := (T.map Int.natAbs).sum
@[simp] theorem sumA_nil : sumA [] = 0 := rfl
@[simp] theorem sumA_cons {t : Int} {T : List Int} : sumA (t :: T) = t.natAbs + sumA T := by simp [sumA]
theorem sumA_add : ∀ {T U : List Int}, sumA (addZ T U) ≤ sumA T + sumA U
  | [], U => by simp [addZ]
  | t :: T, [] => by simp [addZ]
  | t :: T, u :: U => by
    rw [addZ, sumA_cons, sumA_cons, sumA_cons]
    have := sumA_add (T := T) (U := U)
    omega
theorem sumA_sc {c : Int} : ∀ {T : List Int}, sumA (T.map fun t => c * t) = c.natAbs * sumA T
  | [] => by simp
  | t :: T => by rw [List.map_cons, sumA_cons, sumA_cons, sumA_sc, Int.natAbs_mul, Nat.mul_add]
theorem sumA_mul : ∀ {T U : List Int}, sumA (mulZ T U) ≤ sumA T * sumA U
  | [], U => by simp [mulZ]
  | t :: T, U => by
    rw [mulZ, sumA_cons, Nat.add_mul]
    refine Nat.le_trans sumA_add ?_
    rw [sumA_sc, sumA_cons]
    have := sumA_mul (T := T) (U := U)
    simp
    omega
theorem sumA_mem : ∀ {T : List Int} {t : Int}, t ∈ T → t.natAbs ≤ sumA T
  | u :: T, t, h => by
    rw [sumA_cons]
    rcases List.mem_cons.mp h with rfl | h
    · omega
    · have := sumA_mem h; omega
def Ht (a d : Nat) (p : Pol) : Prop := ∃ (T : List Int) (D : Nat), 0 < D ∧ (∀ x, p.ev x = evZ T x / ((D : Int) : Rat)) ∧ D ≤ 2 ^ a ∧ sumA T ≤ 2 ^ a ∧ T.length ≤ d + 1
theorem Ht.mono {a b d e : Nat} {p : Pol} (h : Ht a d p) (h1 : a ≤ b) (h2 : d ≤ e) : Ht b e p := by
  obtain ⟨T, D, h0, ev, hD, hT, hl⟩ := h
  have := Nat.pow_le_pow_right (n := 2) (by omega) h1
  exact ⟨T, D, h0, ev, by omega, by omega, by omega⟩
theorem Ht.sz {a d : Nat} {p : Pol} (h : Ht a d p) : PBt (a + 1) (d + 1) p := by
  obtain ⟨T, D, h0, ev, hD, hT, hl⟩ := h
  have e : p = NW.mk T D := Pol.ext_ev fun x => by rw [ev, ev_mk h0]
  have : 2 ^ a < 2 ^ (a + 1) := Nat.pow_lt_pow_right (by omega) (by omega)
  rw [e]
  exact PBt.mk h0 hl (by omega) fun t ht => by
    have := sumA_mem ht
    omega
theorem Ht.X : Ht 0 1 Pol.X := ⟨[0, 1], 1, by omega, fun x => by rw [ev_X]; simp [evZ]; grind, by simp, by simp, by simp⟩
theorem Ht.one : Ht 0 0 Pol.one := ⟨[1], 1, by omega, fun x => by rw [ev_one]; simp [evZ]; grind, by simp, by simp, by simp⟩
theorem natR {D : Nat} (h : 0 < D) : ((D : Int) : Rat) ≠ 0 := fun e => by
  have := Rat.intCast_eq_zero_iff.mp e
  omega
theorem Ht.add {a d b e : Nat} {p q : Pol} (h : Ht a d p) (h' : Ht b e q) : Ht (a + b + 1) (d + e) (p + q) := by
  obtain ⟨T, D, h0, ev, hD, hT, hl⟩ := h
  obtain ⟨U, E, h0', ev', hE, hU, hl'⟩ := h'
  have pe : 2 ^ (a + b + 1) = 2 ^ a * 2 ^ b + 2 ^ a * 2 ^ b := by rw [Nat.pow_succ, Nat.pow_add]; omega
  have z1 : D * E ≤ 2 ^ a * 2 ^ b := Nat.mul_le_mul hD hE
  have z2 : E * sumA T ≤ 2 ^ a * 2 ^ b := by rw [Nat.mul_comm]; exact Nat.mul_le_mul hT hE
  have z3 : D * sumA U ≤ 2 ^ a * 2 ^ b := Nat.mul_le_mul hD hU
  refine ⟨addZ (T.map fun t => (E : Int) * t) (U.map fun t => (D : Int) * t), D * E, Nat.mul_pos h0 h0', fun x => ?_, by omega, ?_, addZ_len (by simp; omega) (by simp; omega)⟩
  · rw [ev_add, ev, ev', evZ_addZ, evZ_mul, evZ_mul, Int.natCast_mul, Rat.intCast_mul]
    have := natR h0
    have := natR h0'
    grind
  · refine Nat.le_trans sumA_add ?_
    rw [sumA_sc, sumA_sc]
    simp
    omega
theorem mulZ_len1 : ∀ {T U : List Int} {d e : Nat}, T.length ≤ d + 1 → U.length ≤ e + 1 → (mulZ T U).length ≤ d + e + 1
  | [], U, d, e, _, _ => by simp [mulZ]
  | t :: T, U, d, e, h, h' => by
    rw [mulZ]
    refine addZ_len (by simp; omega) ?_
    cases T with
    | nil => simp [mulZ]
    | cons s T =>
      obtain ⟨d, rfl⟩ : ∃ d', d = d' + 1 := ⟨d - 1, by simp at h; omega⟩
      have := mulZ_len1 (T := s :: T) (U := U) (d := d) (e := e) (by simpa using h) h'
      simp
      omega
theorem Ht.mul {a d b e : Nat} {p q : Pol} (h : Ht a d p) (h' : Ht b e q) : Ht (a + b) (d + e) (p * q) := by
  obtain ⟨T, D, h0, ev, hD, hT, hl⟩ := h
  obtain ⟨U, E, h0', ev', hE, hU, hl'⟩ := h'
  refine ⟨mulZ T U, D * E, Nat.mul_pos h0 h0', fun x => ?_, ?_, ?_, mulZ_len1 hl hl'⟩
  · rw [ev_mul, ev, ev', evZ_mulZ, Int.natCast_mul, Rat.intCast_mul]
    have := natR h0
    have := natR h0'
    grind
  · rw [Nat.pow_add]; exact Nat.mul_le_mul hD hE
  · rw [Nat.pow_add]; exact Nat.le_trans sumA_mul (Nat.mul_le_mul hT hU)
theorem Ht.pw {a d : Nat} {p : Pol} (h : Ht a d p) : ∀ k : Nat, Ht (k * a) (k * d) (p.pw k)
  | 0 => by rw [Nat.zero_mul, Nat.zero_mul]; exact Ht.one
  | k + 1 => by
    have := (Ht.pw h k).mul h
    rw [Nat.add_mul, Nat.add_mul, Nat.one_mul, Nat.one_mul]
    exact this
def cmpZ (U : List Int) (E : Nat) : List Int → List Int
  | [] => []
  | [t] => [t]
  | t :: s :: T => addZ [t * ((E ^ (s :: T).length : Nat) : Int)] (mulZ U (cmpZ U E (s :: T)))
theorem cmpZ_sum {U : List Int} {E B : Nat} (hU : sumA U ≤ B) (hE : E ≤ B) : ∀ {T : List Int}, sumA (cmpZ U E T) ≤ sumA T * B ^ (T.length - 1)
  | [] => by simp [cmpZ]
  | [t] => by simp [cmpZ]
  | t :: s :: T => by
    rw [cmpZ]
    refine Nat.le_trans sumA_add ?_
    have ih := cmpZ_sum hU hE (T := s :: T)
    have q := Nat.le_trans (sumA_mul (T := U) (U := cmpZ U E (s :: T))) (Nat.mul_le_mul hU ih)
    have p1 : E ^ (s :: T).length ≤ B ^ (s :: T).length := Nat.pow_le_pow_left hE _
    have p2 : (t * ((E ^ (s :: T).length : Nat) : Int)).natAbs ≤ t.natAbs * B ^ (s :: T).length := by
      rw [Int.natAbs_mul, Int.natAbs_natCast]
      exact Nat.mul_le_mul_left _ p1
    have e1 : (t :: s :: T).length - 1 = (s :: T).length := by simp
    have e2 : B * (sumA (s :: T) * B ^ ((s :: T).length - 1)) = sumA (s :: T) * B ^ (s :: T).length := by
      rw [Nat.mul_left_comm]
      congr 1
      simp [Nat.pow_succ, Nat.mul_comm]
    rw [e1, sumA_cons (t := t), Nat.add_mul]
    rw [e2] at q
    have : sumA [t * ((E ^ (s :: T).length : Nat) : Int)] = (t * ((E ^ (s :: T).length : Nat) : Int)).natAbs := by simp
    omega
theorem cmpZ_len {U : List Int} {E e : Nat} (hU : U.length ≤ e + 1) : ∀ {T : List Int} {d : Nat}, T.length ≤ d + 1 → (cmpZ U E T).length ≤ d * e + 1
  | [], d, _ => by simp [cmpZ]
  | [t], d, _ => by simp [cmpZ]
  | t :: s :: T, d, h => by
    obtain ⟨d, rfl⟩ : ∃ d', d = d' + 1 := ⟨d - 1, by simp at h; omega⟩
    rw [cmpZ]
    have ih := cmpZ_len hU (E := E) (T := s :: T) (d := d) (by simp at h ⊢; omega)
    have := mulZ_len1 (T := U) (U := cmpZ U E (s :: T)) (d := e) (e := d * e) hU ih
    refine addZ_len (by simp) ?_
    rw [Nat.add_mul]
    omega
theorem cmpZ_ev {U : List Int} {E : Nat} (hE : 0 < E) {x : Rat} : ∀ {T : List Int}, evZ (cmpZ U E T) x = (((E ^ (T.length - 1) : Nat) : Int) : Rat) * evZ T (evZ U x / ((E : Int) : Rat))
  | [] => by simp [cmpZ, evZ]
  | [t] => by simp [cmpZ, evZ]
  | t :: s :: T => by
    have ih := cmpZ_ev hE (U := U) (x := x) (T := s :: T)
    rw [cmpZ, evZ_addZ, evZ_mulZ, ih]
    have e1 : (t :: s :: T).length - 1 = T.length + 1 := by simp
    have e2 : (s :: T).length - 1 = T.length := by simp
    have e3 : (s :: T).length = T.length + 1 := by simp
    have en := natR hE
    rw [e1, e2, e3, Nat.pow_succ, Int.natCast_mul, Rat.intCast_mul]
    show evZ [t * _] x + _ = _ * ((t : Rat) + _ * evZ (s :: T) _)
    have : evZ [t * (((E ^ T.length : Nat) : Int) * (E : Int))] x = (t : Rat) * ((((E ^ T.length : Nat) : Int) : Rat) * ((E : Int) : Rat)) := by
      simp [evZ, Rat.intCast_mul]; grind
    rw [this]
    generalize evZ (s :: T) (evZ U x / ((E : Int) : Rat)) = w
    generalize evZ U x = u
    generalize (((E ^ T.length : Nat) : Int) : Rat) = m
    generalize ((E : Int) : Rat) = e at *
    grind
theorem Ht.comp {a d b e : Nat} {p q : Pol} (h : Ht a d p) (h' : Ht b e q) : Ht (a + d * b) (d * e) (p.comp q) := by
  obtain ⟨T, D, h0, ev, hD, hT, hl⟩ := h
  obtain ⟨U, E, h0', ev', hE, hU, hl'⟩ := h'
  have pe : (2 ^ b) ^ (T.length - 1) ≤ 2 ^ (d * b) := by
    rw [← Nat.pow_mul]
    refine Nat.pow_le_pow_right (by omega) ?_
    rw [Nat.mul_comm]
    exact Nat.mul_le_mul_right _ (by omega)
  refine ⟨cmpZ U E T, D * E ^ (T.length - 1), Nat.mul_pos h0 (Nat.pow_pos h0'), fun x => ?_, ?_, ?_, cmpZ_len hl' hl⟩
  · rw [ev_comp, ev, ev', cmpZ_ev h0', Int.natCast_mul, Rat.intCast_mul]
    have := natR h0
    have := natR (D := E ^ (T.length - 1)) (Nat.pow_pos h0')
    grind
  · rw [Nat.pow_add]
    exact Nat.mul_le_mul hD (Nat.le_trans (Nat.pow_le_pow_left hE _) pe)
  · rw [Nat.pow_add]
    exact Nat.le_trans (cmpZ_sum hU hE) (Nat.mul_le_mul hT pe)
end NW
namespace NW
open PySem PySem.Spec PyProof.Rows L2
inductive Tm where
  | x | num (q : Rat) | nm (s : Str) | pow (t : Tm) (k : Nat) | agn (t : Tm) (k : Nat) | plus (a b : Tm) | minus (a b : Tm) | times (a b : Tm) | of (a b : Tm)
def Tm.D : Tm → PyData
  | .x => .tuple [.str "x"]
  | .num q => .tuple [.str "number", fracD q]
  | .nm s => .tuple [.str "name", .str s]
  | .pow t k => .tuple [.str "power", t.D, .int k]
  | .agn t k => .tuple [.str "again", t.D, .int k]
  | .plus a b => .tuple [.str "plus", a.D, b.D]
  | .minus a b => .tuple [.str "minus", a.D, b.D]
  | .times a b => .tuple [.str "times", a.D, b.D]
  | .of a b => .tuple [.str "of", a.D, b.D]
def Tm.inn : Tm → List Tm
  | .x => []
  | .num _ => []
  | .nm _ => []
  | .pow t _ => [t]
  | .agn t _ => [t]
  | .plus a b => [a, b]
  | .minus a b => [a, b]
  | .times a b => [a, b]
  | .of a b => [a, b]
def Tm.parts : Tm → List Tm
  | .x => [.x]
  | .num q => [.num q]
  | .nm s => [.nm s]
  | .pow t k => .pow t k :: t.parts
  | .agn t k => .agn t k :: t.parts
  | .plus a b => .plus a b :: (a.parts ++ b.parts)
  | .minus a b => .minus a b :: (a.parts ++ b.parts)
  | .times a b => .times a b :: (a.parts ++ b.parts)
  | .of a b => .of a b :: (a.parts ++ b.parts)
def Tm.hi : Tm → Nat
  | .x => 1
  | .num _ => 1
  | .nm _ => 1
  | .pow t _ => t.hi + 1
  | .agn t _ => t.hi + 1
  | .plus a b => max a.hi b.hi + 1
  | .minus a b => max a.hi b.hi + 1
  | .times a b => max a.hi b.hi + 1
  | .of a b => max a.hi b.hi + 1
def Tm.pol (ρ : Str → Pol) : Tm → Pol
  | .x => Pol.X
  | .num q => ofC [q]
  | .nm s => ρ s
  | .pow t k => (t.pol ρ).pw k
  | .agn t k => (t.pol ρ).again k
  | .plus a b => a.pol ρ + b.pol ρ
  | .minus a b => a.pol ρ + (b.pol ρ).sc (-1)
  | .times a b => a.pol ρ * b.pol ρ
  | .of a b => (a.pol ρ).comp (b.pol ρ)
def hAgain (m : Nat × Nat) : Nat → Nat × Nat
  | 0 => (0, 1)
  | k + 1 => (m.1 + m.2 * (hAgain m k).1, m.2 * (hAgain m k).2)
def Tm.heft (η : Str → Nat × Nat) : Tm → Nat × Nat
  | .x => (0, 1)
  | .num _ => (3, 0)
  | .nm s => η s
  | .pow t k => ((t.heft η).1 * k + 1, (t.heft η).2 * k)
  | .agn t k => hAgain (t.heft η) k
  | .plus a b => ((a.heft η).1 + (b.heft η).1 + 1, (a.heft η).2 + (b.heft η).2)
  | .minus a b => ((a.heft η).1 + (b.heft η).1 + 1, (a.heft η).2 + (b.heft η).2)
  | .times a b => ((a.heft η).1 + (b.heft η).1 + 1, (a.heft η).2 + (b.heft η).2)
  | .of a b => ((a.heft η).1 + (a.heft η).2 * (b.heft η).1, (a.heft η).2 * (b.heft η).2)
def Tm.reach (κ : Str → Nat) : Tm → Nat
  | .x => 1
  | .num _ => 1
  | .nm s => κ s
  | .pow t k => if 0 < k then t.reach κ * k else 1
  | .agn t k => if 0 < k then max k (t.reach κ ^ k) else 1
  | .plus a b => max (max (a.reach κ) (b.reach κ)) 1
  | .minus a b => max (max (a.reach κ) (b.reach κ)) 1
  | .times a b => a.reach κ + b.reach κ
  | .of a b => a.reach κ * b.reach κ
theorem Ht.sc1 {a d : Nat} {p : Pol} (h : Ht a d p) : Ht a d (p.sc (-1)) := by
  obtain ⟨T, D, h0, ev, hD, hT, hl⟩ := h
  refine ⟨T.map fun t => (-1 : Int) * t, D, h0, fun x => ?_, hD, by rw [sumA_sc]; simpa using hT, by simpa using hl⟩
  rw [ev_sc, ev, evZ_mul]
  have := natR h0
  simp
  grind
theorem Ht.again {a d : Nat} {p : Pol} (h : Ht a d p) : ∀ k : Nat, Ht ((hAgain (a, d) k).1) ((hAgain (a, d) k).2) (p.again k)
  | 0 => Ht.X
  | k + 1 => h.comp (Ht.again h k)
end NW
namespace NW
open PySem PySem.Spec PyProof.Rows L2
@[simp] theorem ws_x_x : PyData.eqv (.str ("x" : PySem.Str)) (.str ("x" : PySem.Str)) = true := by decide +kernel
@[simp] theorem ws_x_number : PyData.eqv (.str ("x" : PySem.Str)) (.str ("number" : PySem.Str)) = false := by decide +kernel
@[simp] theorem ws_x_name : PyData.eqv (.str ("x" : PySem.Str)) (.str ("name" : PySem.Str)) = false := by decide +kernel
@[simp] theorem ws_x_power : PyData.eqv (.str ("x" : PySem.Str)) (.str ("power" : PySem.Str)) = false := by decide +kernel
@[simp] theorem ws_x_again : PyData.eqv (.str ("x" : PySem.Str)) (.str ("again" : PySem.Str)) = false := by decide +kernel
@[simp] theorem ws_x_plus : PyData.eqv (.str ("x" : PySem.Str)) (.str ("plus" : PySem.Str)) = false := by decide +kernel
@[simp] theorem ws_x_minus : PyData.eqv (.str ("x" : PySem.Str)) (.str ("minus" : PySem.Str)) = false := by decide +kernel
@[simp] theorem ws_x_times : PyData.eqv (.str ("x" : PySem.Str)) (.str ("times" : PySem.Str)) = false := by decide +kernel
@[simp] theorem ws_x_of : PyData.eqv (.str ("x" : PySem.Str)) (.str ("of" : PySem.Str)) = false := by decide +kernel
@[simp] theorem sh_x : SeqAt.shaped (.str ("x" : PySem.Str)) = true := by decide +kernel
@[simp] theorem ws_number_x : PyData.eqv (.str ("number" : PySem.Str)) (.str ("x" : PySem.Str)) = false := by decide +kernel
@[simp] theorem ws_number_number : PyData.eqv (.str ("number" : PySem.Str)) (.str ("number" : PySem.Str)) = true := by decide +kernel
@[simp] theorem ws_number_name : PyData.eqv (.str ("number" : PySem.Str)) (.str ("name" : PySem.Str)) = false := by decide +kernel
@[simp] theorem ws_number_power : PyData.eqv (.str ("number" : PySem.Str)) (.str ("power" : PySem.Str)) = false := by decide +kernel
@[simp] theorem ws_number_again : PyData.eqv (.str ("number" : PySem.Str)) (.str ("again" : PySem.Str)) = false := by decide +kernel
@[simp] theorem ws_number_plus : PyData.eqv (.str ("number" : PySem.Str)) (.str ("plus" : PySem.Str)) = false := by decide +kernel
@[simp] theorem ws_number_minus : PyData.eqv (.str ("number" : PySem.Str)) (.str ("minus" : PySem.Str)) = false := by decide +kernel
@[simp] theorem ws_number_times : PyData.eqv (.str ("number" : PySem.Str)) (.str ("times" : PySem.Str)) = false := by decide +kernel
@[simp] theorem ws_number_of : PyData.eqv (.str ("number" : PySem.Str)) (.str ("of" : PySem.Str)) = false := by decide +kernel
@[simp] theorem sh_number : SeqAt.shaped (.str ("number" : PySem.Str)) = true := by decide +kernel
@[simp] theorem ws_name_x : PyData.eqv (.str ("name" : PySem.Str)) (.str ("x" : PySem.Str)) = false := by decide +kernel
@[simp] theorem ws_name_number : PyData.eqv (.str ("name" : PySem.Str)) (.str ("number" : PySem.Str)) = false := by decide +kernel
@[simp] theorem ws_name_name : PyData.eqv (.str ("name" : PySem.Str)) (.str ("name" : PySem.Str)) = true := by decide +kernel
@[simp] theorem ws_name_power : PyData.eqv (.str ("name" : PySem.Str)) (.str ("power" : PySem.Str)) = false := by decide +kernel
@[simp] theorem ws_name_again : PyData.eqv (.str ("name" : PySem.Str)) (.str ("again" : PySem.Str)) = false := by decide +kernel
@[simp] theorem ws_name_plus : PyData.eqv (.str ("name" : PySem.Str)) (.str ("plus" : PySem.Str)) = false := by decide +kernel
@[simp] theorem ws_name_minus : PyData.eqv (.str ("name" : PySem.Str)) (.str ("minus" : PySem.Str)) = false := by decide +kernel
@[simp] theorem ws_name_times : PyData.eqv (.str ("name" : PySem.Str)) (.str ("times" : PySem.Str)) = false := by decide +kernel
@[simp] theorem ws_name_of : PyData.eqv (.str ("name" : PySem.Str)) (.str ("of" : PySem.Str)) = false := by decide +kernel
@[simp] theorem sh_name : SeqAt.shaped (.str ("name" : PySem.Str)) = true := by decide +kernel
@[simp] theorem ws_power_x : PyData.eqv (.str ("power" : PySem.Str)) (.str ("x" : PySem.Str)) = false := by decide +kernel
@[simp] theorem ws_power_number : PyData.eqv (.str ("power" : PySem.Str)) (.str ("number" : PySem.Str)) = false := by decide +kernel
@[simp] theorem ws_power_name : PyData.eqv (.str ("power" : PySem.Str)) (.str ("name" : PySem.Str)) = false := by decide +kernel
@[simp] theorem ws_power_power : PyData.eqv (.str ("power" : PySem.Str)) (.str ("power" : PySem.Str)) = true := by decide +kernel
@[simp] theorem ws_power_again : PyData.eqv (.str ("power" : PySem.Str)) (.str ("again" : PySem.Str)) = false := by decide +kernel
@[simp] theorem ws_power_plus : PyData.eqv (.str ("power" : PySem.Str)) (.str ("plus" : PySem.Str)) = false := by decide +kernel
@[simp] theorem ws_power_minus : PyData.eqv (.str ("power" : PySem.Str)) (.str ("minus" : PySem.Str)) = false := by decide +kernel
@[simp] theorem ws_power_times : PyData.eqv (.str ("power" : PySem.Str)) (.str ("times" : PySem.Str)) = false := by decide +kernel
@[simp] theorem ws_power_of : PyData.eqv (.str ("power" : PySem.Str)) (.str ("of" : PySem.Str)) = false := by decide +kernel
@[simp] theorem sh_power : SeqAt.shaped (.str ("power" : PySem.Str)) = true := by decide +kernel
@[simp] theorem ws_again_x : PyData.eqv (.str ("again" : PySem.Str)) (.str ("x" : PySem.Str)) = false := by decide +kernel
@[simp] theorem ws_again_number : PyData.eqv (.str ("again" : PySem.Str)) (.str ("number" : PySem.Str)) = false := by decide +kernel
@[simp] theorem ws_again_name : PyData.eqv (.str ("again" : PySem.Str)) (.str ("name" : PySem.Str)) = false := by decide +kernel
@[simp] theorem ws_again_power : PyData.eqv (.str ("again" : PySem.Str)) (.str ("power" : PySem.Str)) = false := by decide +kernel
@[simp] theorem ws_again_again : PyData.eqv (.str ("again" : PySem.Str)) (.str ("again" : PySem.Str)) = true := by decide +kernel
@[simp] theorem ws_again_plus : PyData.eqv (.str ("again" : PySem.Str)) (.str ("plus" : PySem.Str)) = false := by decide +kernel
@[simp] theorem ws_again_minus : PyData.eqv (.str ("again" : PySem.Str)) (.str ("minus" : PySem.Str)) = false := by decide +kernel
@[simp] theorem ws_again_times : PyData.eqv (.str ("again" : PySem.Str)) (.str ("times" : PySem.Str)) = false := by decide +kernel
@[simp] theorem ws_again_of : PyData.eqv (.str ("again" : PySem.Str)) (.str ("of" : PySem.Str)) = false := by decide +kernel
@[simp] theorem sh_again : SeqAt.shaped (.str ("again" : PySem.Str)) = true := by decide +kernel
@[simp] theorem ws_plus_x : PyData.eqv (.str ("plus" : PySem.Str)) (.str ("x" : PySem.Str)) = false := by decide +kernel
@[simp] theorem ws_plus_number : PyData.eqv (.str ("plus" : PySem.Str)) (.str ("number" : PySem.Str)) = false := by decide +kernel
@[simp] theorem ws_plus_name : PyData.eqv (.str ("plus" : PySem.Str)) (.str ("name" : PySem.Str)) = false := by decide +kernel
@[simp] theorem ws_plus_power : PyData.eqv (.str ("plus" : PySem.Str)) (.str ("power" : PySem.Str)) = false := by decide +kernel
@[simp] theorem ws_plus_again : PyData.eqv (.str ("plus" : PySem.Str)) (.str ("again" : PySem.Str)) = false := by decide +kernel
@[simp] theorem ws_plus_plus : PyData.eqv (.str ("plus" : PySem.Str)) (.str ("plus" : PySem.Str)) = true := by decide +kernel
@[simp] theorem ws_plus_minus : PyData.eqv (.str ("plus" : PySem.Str)) (.str ("minus" : PySem.Str)) = false := by decide +kernel
@[simp] theorem ws_plus_times : PyData.eqv (.str ("plus" : PySem.Str)) (.str ("times" : PySem.Str)) = false := by decide +kernel
@[simp] theorem ws_plus_of : PyData.eqv (.str ("plus" : PySem.Str)) (.str ("of" : PySem.Str)) = false := by decide +kernel
@[simp] theorem sh_plus : SeqAt.shaped (.str ("plus" : PySem.Str)) = true := by decide +kernel
@[simp] theorem ws_minus_x : PyData.eqv (.str ("minus" : PySem.Str)) (.str ("x" : PySem.Str)) = false := by decide +kernel
@[simp] theorem ws_minus_number : PyData.eqv (.str ("minus" : PySem.Str)) (.str ("number" : PySem.Str)) = false := by decide +kernel
@[simp] theorem ws_minus_name : PyData.eqv (.str ("minus" : PySem.Str)) (.str ("name" : PySem.Str)) = false := by decide +kernel
@[simp] theorem ws_minus_power : PyData.eqv (.str ("minus" : PySem.Str)) (.str ("power" : PySem.Str)) = false := by decide +kernel
@[simp] theorem ws_minus_again : PyData.eqv (.str ("minus" : PySem.Str)) (.str ("again" : PySem.Str)) = false := by decide +kernel
@[simp] theorem ws_minus_plus : PyData.eqv (.str ("minus" : PySem.Str)) (.str ("plus" : PySem.Str)) = false := by decide +kernel
@[simp] theorem ws_minus_minus : PyData.eqv (.str ("minus" : PySem.Str)) (.str ("minus" : PySem.Str)) = true := by decide +kernel
@[simp] theorem ws_minus_times : PyData.eqv (.str ("minus" : PySem.Str)) (.str ("times" : PySem.Str)) = false := by decide +kernel
@[simp] theorem ws_minus_of : PyData.eqv (.str ("minus" : PySem.Str)) (.str ("of" : PySem.Str)) = false := by decide +kernel
@[simp] theorem sh_minus : SeqAt.shaped (.str ("minus" : PySem.Str)) = true := by decide +kernel
@[simp] theorem ws_times_x : PyData.eqv (.str ("times" : PySem.Str)) (.str ("x" : PySem.Str)) = false := by decide +kernel
@[simp] theorem ws_times_number : PyData.eqv (.str ("times" : PySem.Str)) (.str ("number" : PySem.Str)) = false := by decide +kernel
@[simp] theorem ws_times_name : PyData.eqv (.str ("times" : PySem.Str)) (.str ("name" : PySem.Str)) = false := by decide +kernel
@[simp] theorem ws_times_power : PyData.eqv (.str ("times" : PySem.Str)) (.str ("power" : PySem.Str)) = false := by decide +kernel
@[simp] theorem ws_times_again : PyData.eqv (.str ("times" : PySem.Str)) (.str ("again" : PySem.Str)) = false := by decide +kernel
@[simp] theorem ws_times_plus : PyData.eqv (.str ("times" : PySem.Str)) (.str ("plus" : PySem.Str)) = false := by decide +kernel
@[simp] theorem ws_times_minus : PyData.eqv (.str ("times" : PySem.Str)) (.str ("minus" : PySem.Str)) = false := by decide +kernel
@[simp] theorem ws_times_times : PyData.eqv (.str ("times" : PySem.Str)) (.str ("times" : PySem.Str)) = true := by decide +kernel
@[simp] theorem ws_times_of : PyData.eqv (.str ("times" : PySem.Str)) (.str ("of" : PySem.Str)) = false := by decide +kernel
@[simp] theorem sh_times : SeqAt.shaped (.str ("times" : PySem.Str)) = true := by decide +kernel
@[simp] theorem ws_of_x : PyData.eqv (.str ("of" : PySem.Str)) (.str ("x" : PySem.Str)) = false := by decide +kernel
@[simp] theorem ws_of_number : PyData.eqv (.str ("of" : PySem.Str)) (.str ("number" : PySem.Str)) = false := by decide +kernel
@[simp] theorem ws_of_name : PyData.eqv (.str ("of" : PySem.Str)) (.str ("name" : PySem.Str)) = false := by decide +kernel
@[simp] theorem ws_of_power : PyData.eqv (.str ("of" : PySem.Str)) (.str ("power" : PySem.Str)) = false := by decide +kernel
@[simp] theorem ws_of_again : PyData.eqv (.str ("of" : PySem.Str)) (.str ("again" : PySem.Str)) = false := by decide +kernel
@[simp] theorem ws_of_plus : PyData.eqv (.str ("of" : PySem.Str)) (.str ("plus" : PySem.Str)) = false := by decide +kernel
@[simp] theorem ws_of_minus : PyData.eqv (.str ("of" : PySem.Str)) (.str ("minus" : PySem.Str)) = false := by decide +kernel
@[simp] theorem ws_of_times : PyData.eqv (.str ("of" : PySem.Str)) (.str ("times" : PySem.Str)) = false := by decide +kernel
@[simp] theorem ws_of_of : PyData.eqv (.str ("of" : PySem.Str)) (.str ("of" : PySem.Str)) = true := by decide +kernel
@[simp] theorem sh_of : SeqAt.shaped (.str ("of" : PySem.Str)) = true := by decide +kernel
end NW
namespace NW
open PySem PySem.Spec PyProof.Rows L2
theorem pureU_toT {n : Nat} {b : MS} {us : List U} {P : PyData → Prop} : (pureU n b us).To P ↔ (b (startL n us) ⟨none, []⟩).To (fun _ _ => P .none) (retP P) := outP_to
def valE (env : List (Str × Pol)) (s : Str) : Pol := ((env.find? fun e => decide (e.1 = s)).map (·.2)).getD Pol.X
structure Fine1 (env : List (Str × Pol)) (η : Str → Nat × Nat) (t : Tm) : Prop where
  lite : ∀ u, u ∈ t.parts → (u.heft η).1 + 3 * (u.heft η).2 ≤ 150
  names : ∀ s, Tm.nm s ∈ t.parts → s ∈ env.map (·.1)
  nums : ∀ q, Tm.num q ∈ t.parts → FB 10 q
  exps : ∀ u k, (Tm.pow u k ∈ t.parts ∨ Tm.agn u k ∈ t.parts) → k ≤ 6
theorem parts_self : ∀ t : Tm, t ∈ t.parts
  | .x | .num _ | .nm _ | .pow _ _ | .agn _ _ | .plus _ _ | .minus _ _ | .times _ _ | .of _ _ => by simp [Tm.parts]
theorem Fine1.sub {env : List (Str × Pol)} {η : Str → Nat × Nat} {t u : Tm} (h : Fine1 env η t) (hs : ∀ v, v ∈ u.parts → v ∈ t.parts) : Fine1 env η u :=
  ⟨fun v hv => h.lite v (hs v hv), fun s hv => h.names s (hs _ hv), fun q hv => h.nums q (hs _ hv), fun v k hv => h.exps v k (hv.imp (hs _) (hs _))⟩
def EnvH (env : List (Str × Pol)) (η : Str → Nat × Nat) : Prop := ∀ s, s ∈ env.map (·.1) → Ht (4 * (η s).1) (η s).2 (valE env s)
theorem Ht.num {q : Rat} (h : FB 10 q) : Ht 12 0 (ofC [q]) := by
  have dz : ((q.den : Int) : Rat) ≠ 0 := natR q.den_pos
  have eq := Rat.num_divInt_den q
  rw [divInt_div] at eq
  refine ⟨[q.num], q.den, q.den_pos, fun x => ?_, ?_, ?_, by simp⟩
  · have e : ofC [q] = NW.mk [q.num] q.den := Pol.ext_co fun k => by
      rw [co_ofC, co_mk q.den_pos]
      cases k with
      | zero => simp
      | succ k => simp
    rw [e, ev_mk q.den_pos]
  · have := h.2
    omega
  · have := h.1
    simp
    omega
theorem hAgain_mul {m d : Nat} : ∀ k, hAgain (4 * m, d) k = (4 * (hAgain (m, d) k).1, (hAgain (m, d) k).2)
  | 0 => by simp [hAgain]
  | k + 1 => by
    simp only [hAgain, hAgain_mul k]
    congr 1
    rw [Nat.mul_add, Nat.mul_left_comm]
theorem Tm.ht {env : List (Str × Pol)} {η : Str → Nat × Nat} (hE : EnvH env η) : ∀ (t : Tm), (∀ s, Tm.nm s ∈ t.parts → s ∈ env.map (·.1)) → (∀ q, Tm.num q ∈ t.parts → FB 10 q) → Ht (4 * (t.heft η).1) (t.heft η).2 (t.pol (valE env))
  | .x, _, _ => Ht.X
  | .num q, _, hq => (Ht.num (hq q (by simp [Tm.parts]))).mono (by simp [Tm.heft]) (Nat.le_refl _)
  | .nm s, hs, _ => hE s (hs s (by simp [Tm.parts]))
  | .pow t k, hs, hq => by
    have := (Tm.ht hE t (fun s h => hs s (by simp [Tm.parts, h])) (fun q h => hq q (by simp [Tm.parts, h]))).pw k
    refine this.mono ?_ ?_
    · simp only [Tm.heft]
      rw [Nat.mul_add, Nat.mul_left_comm, Nat.mul_comm k]
      omega
    · simp only [Tm.heft]
      rw [Nat.mul_comm]
      exact Nat.le_refl _
  | .agn t k, hs, hq => by
    have := (Tm.ht hE t (fun s h => hs s (by simp [Tm.parts, h])) (fun q h => hq q (by simp [Tm.parts, h]))).again k
    rw [hAgain_mul] at this
    exact this
  | .plus a b, hs, hq => by
    have h1 := Tm.ht hE a (fun s h => hs s (by simp [Tm.parts, h])) (fun q h => hq q (by simp [Tm.parts, h]))
    have h2 := Tm.ht hE b (fun s h => hs s (by simp [Tm.parts, h])) (fun q h => hq q (by simp [Tm.parts, h]))
    exact (h1.add h2).mono (by simp only [Tm.heft]; omega) (Nat.le_refl _)
  | .minus a b, hs, hq => by
    have h1 := Tm.ht hE a (fun s h => hs s (by simp [Tm.parts, h])) (fun q h => hq q (by simp [Tm.parts, h]))
    have h2 := Tm.ht hE b (fun s h => hs s (by simp [Tm.parts, h])) (fun q h => hq q (by simp [Tm.parts, h]))
    exact (h1.add h2.sc1).mono (by simp only [Tm.heft]; omega) (Nat.le_refl _)
  | .times a b, hs, hq => by
    have h1 := Tm.ht hE a (fun s h => hs s (by simp [Tm.parts, h])) (fun q h => hq q (by simp [Tm.parts, h]))
    have h2 := Tm.ht hE b (fun s h => hs s (by simp [Tm.parts, h])) (fun q h => hq q (by simp [Tm.parts, h]))
    exact (h1.mul h2).mono (by simp only [Tm.heft]; omega) (Nat.le_refl _)
  | .of a b, hs, hq => by
    have h1 := Tm.ht hE a (fun s h => hs s (by simp [Tm.parts, h])) (fun q h => hq q (by simp [Tm.parts, h]))
    have h2 := Tm.ht hE b (fun s h => hs s (by simp [Tm.parts, h])) (fun q h => hq q (by simp [Tm.parts, h]))
    refine (h1.comp h2).mono ?_ (Nat.le_refl _)
    simp only [Tm.heft]
    rw [Nat.mul_add, Nat.mul_left_comm]
    exact Nat.le_refl _
end NW
namespace NW
open PySem PySem.Spec PyProof.Rows L2
end NW
namespace NW
open PySem PySem.Spec PyProof.Rows L2
def Pol.mid (f : Pol) : Rat := f.co (f.deg - 1) / (((f.deg : Int) : Rat) * f.co f.deg)
def Pol.sh (f : Pol) : Pol := f.comp (Pol.lin 1 (-f.mid))
def Pol.pl (f : Pol) : Pol := (f.sh - NW.ofC [f.sh.co 0]).sc (1 / f.co f.deg)
end NW
namespace NW
open PySem PySem.Spec PyProof.Rows L2
end NW
namespace NW
open PySem PySem.Spec PyProof.Rows L2
end NW
namespace NW
open PySem PySem.Spec PyProof.Rows L2
def Pol.ins (w : Pol) : Pol := Pol.lin (w.co w.deg) (w.co 0)
def Pol.nm (w : Pol) : Pol := (w - NW.ofC [w.co 0]).sc (1 / w.co w.deg)
end NW
namespace NW
open PySem PySem.Spec PyProof.Rows L2
theorem evC_snoc {x : Rat} : ∀ {n : Nat} {f : Nat → Rat}, evC (n + 1) f x = evC n f x + f n * x ^ n
  | 0, f => by simp [evC]; grind
  | n + 1, f => by
    rw [evC, evC_snoc (n := n) (f := fun k => f (k + 1)), evC]
    grind
theorem rpow_add {x : Rat} {a : Nat} : ∀ {b : Nat}, x ^ (a + b) = x ^ a * x ^ b
  | 0 => by simp
  | b + 1 => by rw [← Nat.add_assoc, Rat.pow_succ, rpow_add, Rat.pow_succ]; grind
theorem mul0 (t : Int) (us : List Int) : (us.map fun u => t * u).getD 0 0 = t * us.getD 0 0 := getD_map (by simp) us 0
theorem mulZ_zero {t : Int} {ts us : List Int} : (mulZ (t :: ts) us).getD 0 0 = t * us.getD 0 0 := by
  rw [mulZ, addZ_get, mul0]; simp
theorem mulZ_succ {t : Int} {ts us : List Int} {k : Nat} : (mulZ (t :: ts) us).getD (k + 1) 0 = t * us.getD (k + 1) 0 + (mulZ ts us).getD k 0 := by
  rw [mulZ, addZ_get, getD_map (by simp)]; simp
theorem addZ_length : ∀ {ts us : List Int}, (addZ ts us).length = max ts.length us.length
  | [], us => by simp [addZ]
  | t :: ts, [] => by simp [addZ]
  | t :: ts, u :: us => by rw [addZ, List.length_cons, addZ_length]; simp
theorem mulZ_length : ∀ {ts us : List Int}, us ≠ [] → ts ≠ [] → (mulZ ts us).length + 1 = ts.length + us.length
  | [], us, _, h => absurd rfl h
  | [t], us, h, _ => by
    have := List.length_pos_iff.mpr h
    simp [mulZ, addZ_length]; omega
  | t :: u :: ts, us, h, _ => by
    have ih := mulZ_length (ts := u :: ts) h (by simp)
    have := List.length_pos_iff.mpr h
    rw [mulZ, addZ_length]
    simp at ih ⊢
    omega
def WB (C E : Nat) (F : List Int) : Prop := ∀ k, (F.getD k 0).natAbs ≤ C * E ^ k
theorem WB.mul' : ∀ {F G : List Int} {C C' E : Nat}, WB C E F → WB C' E G → ∀ k, ((mulZ F G).getD k 0).natAbs ≤ (k + 1) * (C * C' * E ^ k)
  | [], G, C, C', E, _, _, k => by simp [mulZ]
  | t :: ts, G, C, C', E, hF, hG, 0 => by
    rw [mulZ_zero, Int.natAbs_mul]
    have a := hF 0
    have b := hG 0
    simp at a b ⊢
    exact Nat.mul_le_mul a (by simpa using b)
  | t :: ts, G, C, C', E, hF, hG, k + 1 => by
    rw [mulZ_succ]
    have ih := WB.mul' (F := ts) (G := G) (C := C * E) (C' := C') (E := E) (fun j => by
      have := hF (j + 1)
      rw [List.getD_cons_succ, Nat.pow_succ, Nat.mul_comm (E ^ j), ← Nat.mul_assoc] at this
      exact this) hG k
    have a := hF 0
    have b := hG (k + 1)
    simp at a
    have c := Nat.mul_le_mul a b
    rw [← Int.natAbs_mul] at c
    have e1 : C * (C' * E ^ (k + 1)) = C * C' * E ^ (k + 1) := by rw [Nat.mul_assoc]
    have e2 : C * E * C' * E ^ k = C * C' * E ^ (k + 1) := by rw [Nat.pow_succ]; ac_rfl
    rw [e1] at c
    rw [e2] at ih
    have := Int.natAbs_add_le (t * G.getD (k + 1) 0) ((mulZ ts G).getD k 0)
    have e3 : (k + 1 + 1) * (C * C' * E ^ (k + 1)) = (k + 1) * (C * C' * E ^ (k + 1)) + C * C' * E ^ (k + 1) := by rw [Nat.add_mul (k + 1) 1, Nat.one_mul]
    omega
theorem WB.mul {F G : List Int} {C C' E : Nat} (hF : WB C E F) (hG : WB C' E G) : WB (C * C') (2 * E) (mulZ F G) := fun k => by
  refine Nat.le_trans (WB.mul' hF hG k) ?_
  have h2 : k + 1 ≤ 2 ^ k := Nat.lt_two_pow_self
  rw [Nat.mul_pow]
  calc (k + 1) * (C * C' * E ^ k) ≤ 2 ^ k * (C * C' * E ^ k) := Nat.mul_le_mul_right _ h2
    _ = C * C' * (2 ^ k * E ^ k) := by ac_rfl
theorem WB.mono {F : List Int} {C C' E E' : Nat} (h : WB C E F) (hC : C ≤ C') (hE : E ≤ E') : WB C' E' F := fun k => Nat.le_trans (h k) (Nat.mul_le_mul hC (Nat.pow_le_pow_left hE k))
structure W (d D c : Nat) (F : List Int) (p : Pol) : Prop where
  len : F.length = d + 1
  D0 : 0 < D
  c0 : 0 < c
  co : ∀ k, k ≤ d → p.co (d - k) = (F.getD k 0 : Rat) / (((c * D ^ k : Nat) : Int) : Rat)
  out : ∀ j, d < j → p.co j = 0
theorem nat_ne {n : Nat} (h : 0 < n) : (((n : Nat) : Int) : Rat) ≠ 0 := fun e => by have := Rat.intCast_eq_zero_iff.mp e; omega
theorem W.plen {d D c : Nat} {F : List Int} {p : Pol} (h : W d D c F p) : p.ts.length ≤ d + 1 := by
  rcases Nat.lt_or_ge (d + 1) p.ts.length with g | g
  · have := h.out (p.ts.length - 1) (by omega)
    exact absurd this (co_lead fun e => by rw [e] at g; simp at g)
  · exact g
theorem evW {x : Rat} (hx : x ≠ 0) {D : Nat} (hD : 0 < D) : ∀ {F : List Int} {d c : Nat} {f : Nat → Rat}, 0 < c → F.length = d + 1 → (∀ k, k ≤ d → f (d - k) = (F.getD k 0 : Rat) / (((c * D ^ k : Nat) : Int) : Rat)) → evC (d + 1) f x * (((c : Nat) : Int) : Rat) = x ^ d * evZ F (1 / ((((D : Nat) : Int) : Rat) * x))
  | [], d, c, f, _, hl, _ => by simp at hl
  | [t], d, c, f, hc, hl, h => by
    have d0 : d = 0 := by simpa using hl.symm
    subst d0
    have h0 := h 0 (by omega)
    have nc := nat_ne hc
    simp at h0
    simp [evC, evZ]
    rw [h0]
    grind
  | t :: u :: F, d, c, f, hc, hl, h => by
    obtain ⟨e, rfl⟩ : ∃ e, d = e + 1 := ⟨d - 1, by simp at hl; omega⟩
    have nc := nat_ne hc
    have nD := nat_ne hD
    have ih := evW hx hD (F := u :: F) (d := e) (c := c * D) (f := f) (Nat.mul_pos hc hD) (by simpa using hl) fun k hk => by
      have := h (k + 1) (by omega)
      rw [show e + 1 - (k + 1) = e - k by omega, List.getD_cons_succ, Nat.pow_succ, Nat.mul_comm (D ^ k), ← Nat.mul_assoc] at this
      exact this
    have h0 := h 0 (by omega)
    simp at h0
    rw [evC_snoc, evZ, h0]
    rw [Int.natCast_mul, Rat.intCast_mul] at ih
    have e1 : evC (e + 1) f x * (((c : Nat) : Int) : Rat) = x ^ e * evZ (u :: F) (1 / ((((D : Nat) : Int) : Rat) * x)) / (((D : Nat) : Int) : Rat) := by grind
    rw [Rat.add_mul, e1]
    generalize evZ (u :: F) (1 / ((((D : Nat) : Int) : Rat) * x)) = Z
    grind
theorem W.ev {d D c : Nat} {F : List Int} {p : Pol} (h : W d D c F p) {x : Rat} (hx : x ≠ 0) : p.ev x * (((c : Nat) : Int) : Rat) = x ^ d * evZ F (1 / ((((D : Nat) : Int) : Rat) * x)) := by
  rw [ev_co h.plen]
  exact evW hx h.D0 h.c0 h.len h.co
theorem Pol.ext_pos {p q : Pol} (h : ∀ n : Int, 0 < n → p.ev (n : Rat) = q.ev (n : Rat)) : p = q := by
  have hp := p.hb
  have hq := q.hb
  have hp' := p.bne
  have hq' := q.bne
  refine Pol.ext_co fun k => ?_
  have key : ∀ n : Int, 0 < n → evI (p.ts.map fun t => (q.b : Int) * t) n = evI (q.ts.map fun t => (p.b : Int) * t) n := fun n hn => by
    refine Rat.intCast_inj.mp ?_
    rw [← evI_cast, ← evI_cast, evZ_mul, evZ_mul]
    have := h n hn
    unfold Pol.ev at this
    grind
  have := evI_get key k
  rw [getD_map (by simp), getD_map (by simp)] at this
  unfold Pol.co
  refine (Rat.divInt_eq_divInt_iff (by omega) (by omega)).mpr ?_
  rw [Int.mul_comm, this, Int.mul_comm]
def ofW (d D c : Nat) (F : List Int) : Pol := NW.mk ((List.range (d + 1)).map fun j => F.getD (d - j) 0 * ((D ^ j : Nat) : Int)) (c * D ^ d)
theorem ofW_W {d D c : Nat} {F : List Int} (hl : F.length = d + 1) (hD : 0 < D) (hc : 0 < c) : W d D c F (ofW d D c F) := by
  have hb : 0 < c * D ^ d := Nat.mul_pos hc (Nat.pow_pos hD)
  have g : ∀ j, (ofW d D c F).co j = if j ≤ d then Rat.divInt (F.getD (d - j) 0 * ((D ^ j : Nat) : Int)) ((c * D ^ d : Nat) : Int) else 0 := fun j => by
    unfold ofW
    rw [co_mk hb, List.getD_eq_getElem?_getD, List.getElem?_map]
    by_cases hj : j ≤ d
    · rw [List.getElem?_range (by omega), if_pos hj]; rfl
    · rw [List.getElem?_eq_none (by simp; omega), if_neg hj]; simp
  refine ⟨hl, hD, hc, fun k hk => ?_, fun j hj => by rw [g, if_neg (by omega)]⟩
  rw [g, if_pos (by omega), show d - (d - k) = k by omega, divInt_div]
  have e : D ^ d = D ^ k * D ^ (d - k) := by rw [← Nat.pow_add]; congr 1; omega
  rw [e, ← Nat.mul_assoc, Int.natCast_mul (c * D ^ k), Rat.intCast_mul, Rat.intCast_mul]
  have n1 := nat_ne (n := D ^ (d - k)) (Nat.pow_pos hD)
  have n2 := nat_ne (n := c * D ^ k) (Nat.mul_pos hc (Nat.pow_pos hD))
  grind
theorem W.of_ev {d D c : Nat} {F : List Int} {p : Pol} (hl : F.length = d + 1) (hD : 0 < D) (hc : 0 < c) (h : ∀ x : Rat, x ≠ 0 → p.ev x * (((c : Nat) : Int) : Rat) = x ^ d * evZ F (1 / ((((D : Nat) : Int) : Rat) * x))) : W d D c F p := by
  have w := ofW_W hl hD hc
  have : p = ofW d D c F := Pol.ext_pos fun n hn => by
    have nx : (n : Rat) ≠ 0 := fun e => by have := Rat.intCast_eq_zero_iff.mp e; omega
    have a := h n nx
    have b := w.ev nx
    have nc := nat_ne hc
    grind
  rw [this]; exact w
theorem W.eq_ofW {d D c : Nat} {F : List Int} {p : Pol} (h : W d D c F p) : p = ofW d D c F := Pol.ext_co fun j => by
  have w := ofW_W h.len h.D0 h.c0
  by_cases hj : j ≤ d
  · have a := h.co (d - j) (by omega)
    have b := w.co (d - j) (by omega)
    rw [show d - (d - j) = j by omega] at a b
    rw [a, b]
  · rw [h.out j (by omega), w.out j (by omega)]
theorem W.mul {d d' D c c' : Nat} {F G : List Int} {p q : Pol} (hp : W d D c F p) (hq : W d' D c' G q) : W (d + d') D (c * c') (mulZ F G) (p * q) := by
  refine W.of_ev ?_ hp.D0 (Nat.mul_pos hp.c0 hq.c0) fun x hx => ?_
  · have := mulZ_length (ts := F) (us := G) (fun e => by have := hq.len; rw [e] at this; simp at this) (fun e => by have := hp.len; rw [e] at this; simp at this)
    have := hp.len
    have := hq.len
    omega
  · have a := hp.ev hx
    have b := hq.ev hx
    rw [ev_mul, evZ_mulZ, Int.natCast_mul, Rat.intCast_mul, rpow_add]
    grind
theorem W.sz {d D c C E n : Nat} {F : List Int} {p : Pol} (h : W d D c F p) (hF : WB C E F) (hE : D ≤ E) (h1 : c * D ^ d < 2 ^ n) (h2 : C * E ^ d < 2 ^ n) : PBt n (d + 1) p := by
  rw [h.eq_ofW]
  refine PBt.mk (Nat.mul_pos h.c0 (Nat.pow_pos h.D0)) (by simp) h1 fun t ht => ?_
  obtain ⟨j, hj, rfl⟩ := List.mem_map.mp ht
  have hj' : j < d + 1 := List.mem_range.mp hj
  rw [Int.natAbs_mul, Int.natAbs_natCast]
  refine Nat.lt_of_le_of_lt (Nat.mul_le_mul (hF _) (Nat.pow_le_pow_left hE j)) ?_
  rw [Nat.mul_assoc, ← Nat.pow_add, show d - j + j = d by omega]
  exact h2
end NW
namespace NW
open PySem PySem.Spec PyProof.Rows L2
def pwZ (F : List Int) : Nat → List Int
  | 0 => [1]
  | i + 1 => mulZ (pwZ F i) F
theorem W.one {D : Nat} (hD : 0 < D) : W 0 D 1 [1] Pol.one := ⟨rfl, hD, by omega, fun k hk => by
  have : k = 0 := by omega
  subst this
  simp [Pol.co, Pol.one, divInt_div], fun j hj => by
  obtain ⟨i, rfl⟩ : ∃ i, j = i + 1 := ⟨j - 1, by omega⟩
  simp [Pol.co, Pol.one]⟩
theorem W.pw {d D : Nat} {F : List Int} {p : Pol} (h : W d D 1 F p) : ∀ {i : Nat}, W (i * d) D 1 (pwZ F i) (p.pw i)
  | 0 => by rw [Nat.zero_mul]; exact W.one h.D0
  | i + 1 => by
    rw [Nat.add_mul, Nat.one_mul]
    exact (W.pw h (i := i)).mul h
theorem WB.pw {E : Nat} {F : List Int} (h : WB 1 E F) : ∀ {i : Nat}, WB 1 (2 ^ i * E) (pwZ F i)
  | 0 => fun k => by
    cases k with
    | zero => simp [pwZ]
    | succ k => simp [pwZ]
  | i + 1 => by
    have a := (WB.pw h (i := i)).mul (h.mono (Nat.le_refl 1) (show E ≤ 2 ^ i * E from Nat.le_mul_of_pos_left _ (Nat.two_pow_pos i)))
    rw [show 2 ^ (i + 1) * E = 2 * (2 ^ i * E) by rw [Nat.pow_succ]; ac_rfl]
    exact a
def Dm (m : Int) (F : List Int) : Prop := F.getD 0 0 = 1 ∧ ∀ k, m ∣ F.getD (k + 1) 0
theorem mul_mod2 {m : Int} {G : List Int} (hG : Dm m G) : ∀ {ts : List Int}, (∀ k, m ∣ ts.getD k 0) → ∀ k, m * m ∣ (mulZ ts G).getD k 0 - ts.getD k 0
  | [], _, k => by simp [mulZ]
  | t :: ts, h, 0 => by
    rw [mulZ_zero, hG.1]; simp
  | t :: ts, h, k + 1 => by
    rw [mulZ_succ, List.getD_cons_succ]
    have ih := mul_mod2 hG (ts := ts) (fun j => by simpa using h (j + 1)) k
    have a : m * m ∣ t * G.getD (k + 1) 0 := Int.mul_dvd_mul (by simpa using h 0) (hG.2 k)
    have := Int.dvd_add a ih
    rwa [← Int.add_sub_assoc] at this
theorem cons_of {F : List Int} (h : F.getD 0 0 = 1) : ∃ ts, F = 1 :: ts := by
  cases F with
  | nil => simp at h
  | cons t ts => simp at h; exact ⟨ts, by rw [h]⟩
theorem Dm.mul {m : Int} {F G : List Int} (hF : Dm m F) (hG : Dm m G) : ∀ k, m * m ∣ (mulZ F G).getD (k + 1) 0 - (G.getD (k + 1) 0 + F.getD (k + 1) 0) := fun k => by
  obtain ⟨ts, rfl⟩ := cons_of hF.1
  have a := mul_mod2 hG (ts := ts) (fun j => by simpa using hF.2 j) k
  rw [mulZ_succ, Int.one_mul, List.getD_cons_succ]
  rwa [show G.getD (k + 1) 0 + (mulZ ts G).getD k 0 - (G.getD (k + 1) 0 + ts.getD k 0) = (mulZ ts G).getD k 0 - ts.getD k 0 by omega]
theorem Dm.prod {m : Int} {F G : List Int} (hF : Dm m F) (hG : Dm m G) : Dm m (mulZ F G) := by
  refine ⟨?_, fun k => ?_⟩
  · obtain ⟨ts, rfl⟩ := cons_of hF.1
    rw [mulZ_zero, hG.1]; rfl
  · have a := Int.dvd_trans (Int.dvd_mul_right m m) (hF.mul hG k)
    have b := Int.dvd_add (hG.2 k) (hF.2 k)
    have := Int.dvd_add a b
    rwa [show (mulZ F G).getD (k + 1) 0 - (G.getD (k + 1) 0 + F.getD (k + 1) 0) + (G.getD (k + 1) 0 + F.getD (k + 1) 0) = (mulZ F G).getD (k + 1) 0 by omega] at this
theorem Dm.one {m : Int} : Dm m [1] := ⟨rfl, fun k => by simp⟩
theorem Dm.pw {m : Int} {F : List Int} (h : Dm m F) : ∀ {i : Nat}, Dm m (pwZ F i)
  | 0 => Dm.one
  | i + 1 => (Dm.pw h (i := i)).prod h
theorem smI_congr {f g : Nat → Int} : ∀ {n : Nat}, (∀ j, j < n → f j = g j) → smI n f = smI n g
  | 0, _ => rfl
  | n + 1, h => by rw [smI, smI, smI_congr fun j hj => h j (by omega), h n (by omega)]
def Ag (k : Nat) (δ : Int) (A B : List Int) : Prop := (∀ j, j < k → A.getD j 0 = B.getD j 0) ∧ A.getD k 0 = B.getD k 0 + δ
theorem Ag.mul {k : Nat} {α β : Int} {A A' G G' : List Int} (hA : Ag (k + 1) α A A') (hG : Ag (k + 1) β G G') : Ag (k + 1) (α * G'.getD 0 0 + A'.getD 0 0 * β) (mulZ A G) (mulZ A' G') := by
  refine ⟨fun j hj => ?_, ?_⟩
  · rw [mulZ_get, mulZ_get]
    exact smI_congr fun i hi => by rw [hA.1 i (by omega), hG.1 (j - i) (by omega)]
  · rw [mulZ_get, mulZ_get, smI_succ, smI_succ (n := k + 1), smI, smI]
    rw [smI_congr (n := k) (g := fun i => A'.getD (i + 1) 0 * G'.getD (k + 1 - (i + 1)) 0) fun i hi => by rw [hA.1 (i + 1) (by omega), hG.1 (k + 1 - (i + 1)) (by omega)]]
    rw [hA.1 0 (by omega), Nat.sub_self, hG.1 0 (by omega), hA.2, show k + 1 - 0 = k + 1 by omega, hG.2]
    rw [Int.mul_add, Int.add_mul]
    omega
theorem Ag.pw {k : Nat} {δ : Int} {F G : List Int} (h : Ag (k + 1) δ F G) (h1 : G.getD 0 0 = 1) : ∀ {i : Nat}, Ag (k + 1) ((i : Int) * δ) (pwZ F i) (pwZ G i) ∧ (pwZ G i).getD 0 0 = 1
  | 0 => ⟨⟨fun j hj => rfl, by simp [pwZ]⟩, rfl⟩
  | i + 1 => by
    obtain ⟨a, b⟩ := Ag.pw h h1 (i := i)
    have := a.mul h
    rw [h1, b] at this
    refine ⟨?_, ?_⟩
    · rw [pwZ, pwZ, show ((i + 1 : Nat) : Int) * δ = (i : Int) * δ * 1 + 1 * δ by rw [Int.natCast_add, Int.add_mul]; omega]
      exact this
    · rw [pwZ]
      obtain ⟨ts, e⟩ := cons_of b
      rw [e, mulZ_zero, h1]; rfl
end NW
namespace NW
open PySem PySem.Spec PyProof.Rows L2
def mono (c : Rat) (e : Nat) : Pol := NW.ofC (List.replicate e 0 ++ [c])
end NW
namespace NW
open PySem PySem.Spec PyProof.Rows L2
theorem Fine1.ht {env : List (Str × Pol)} {η : Str → Nat × Nat} {t : Tm} (hE : EnvH env η) (F : Fine1 env η t) : Ht (4 * (t.heft η).1) (t.heft η).2 (t.pol (valE env)) ∧ (t.heft η).1 + 3 * (t.heft η).2 ≤ 150 := ⟨Tm.ht hE t F.names F.nums, F.lite t (parts_self t)⟩
theorem Fine1.sz {env : List (Str × Pol)} {η : Str → Nat × Nat} {t : Tm} (hE : EnvH env η) (F : Fine1 env η t) : PBt 601 51 (t.pol (valE env)) := by
  obtain ⟨h1, h2⟩ := F.ht hE
  exact h1.sz.mono (by omega) (by omega)
end NW
namespace NW
open PySem PySem.Spec PyProof.Rows L2
theorem Linner_to {t : Tm} {P : PyData → Prop} (hP : P (.list (t.inn.map Tm.D))) : (m_L_inner [t.D]).To P := by
  unfold m_L_inner
  rw [pure_to]
  unfold b_L_inner
  cases t <;> simp [startL, Tm.D, to_inT, flatD]
  all_goals exact hP
theorem to_extendT {k : Nat} {u : U} {st : Sto} {Q : U → Sto → Prop} : (mExtend (.ref k) [u] st).To Q ↔ ∃ xs ys, st.obs[k]? = some (.lst xs) ∧ listOf st u = some ys ∧ lenOk (xs.length + ys.length) = true ∧ Q (.d .none) (st.put k (xs ++ ys)) := by
  unfold mExtend
  cases e : st.obs[k]? with
  | none => simp [ownL, e]
  | some o =>
    cases o with
    | lst xs =>
      cases e2 : listOf st u with
      | none => simp [ownL, e, e2]
      | some ys =>
        by_cases h : lenOk (xs.length + ys.length) = true
        · have h' : xs.length + ys.length ≤ 16777216 := by have := h; unfold lenOk sizeLine at this; simpa using this
          simp [ownL, e, e2, h, h']
        · have h' : ¬ xs.length + ys.length ≤ 16777216 := by have := h; unfold lenOk sizeLine at this; simpa using this
          simp [ownL, e, e2, h, h']
    | _ => simp [ownL, e]
theorem parts_inn (t : Tm) : t.parts = t :: t.inn.flatMap Tm.parts := by cases t <;> simp [Tm.parts, Tm.inn]
theorem inn_hi {t u : Tm} (h : u ∈ t.inn) : u.hi + 1 ≤ t.hi := by
  cases t <;> simp [Tm.inn] at h
  all_goals first
    | (subst h; simp [Tm.hi])
    | (rcases h with rfl | rfl <;> simp only [Tm.hi] <;> omega)
theorem parts_len : ∀ t : Tm, t.parts.length + 1 ≤ 2 ^ t.hi
  | .x | .num _ | .nm _ => by simp [Tm.parts, Tm.hi]
  | .pow t k => by
    have := parts_len t
    simp only [Tm.parts, Tm.hi, List.length_cons, Nat.pow_succ]
    have := Nat.pow_pos (n := t.hi) (show 0 < 2 by omega)
    omega
  | .agn t k => by
    have := parts_len t
    simp only [Tm.parts, Tm.hi, List.length_cons, Nat.pow_succ]
    have := Nat.pow_pos (n := t.hi) (show 0 < 2 by omega)
    omega
  | .plus a b | .minus a b | .times a b | .of a b => by
    have h1 := parts_len a
    have h2 := parts_len b
    have p1 : 2 ^ a.hi ≤ 2 ^ max a.hi b.hi := Nat.pow_le_pow_right (by omega) (by omega)
    have p2 : 2 ^ b.hi ≤ 2 ^ max a.hi b.hi := Nat.pow_le_pow_right (by omega) (by omega)
    simp only [Tm.parts, Tm.hi, List.length_cons, List.length_append, Nat.pow_succ]
    omega
theorem inn_sum : ∀ t : Tm, (t.inn.flatMap Tm.parts).length + 2 ≤ 2 ^ t.hi := fun t => by
  have := parts_len t
  rw [parts_inn, List.length_cons] at this
  exact this
theorem Lparts_to : ∀ (n : Nat) (t : Tm), t.hi ≤ n → t.hi ≤ 8 → (∀ P : PyData → Prop, P (.list (t.parts.map Tm.D)) → (r_L_parts n [t.D]).To P)
  | 0, t, hn, _, P, hP => by
    have : 1 ≤ t.hi := by cases t <;> simp [Tm.hi]
    omega
  | n + 1, t, hn, h8, P, hP => by
    show (pureOf 3 (b_L_parts (r_L_parts n)) _).To P
    rw [pure_to]
    unfold b_L_parts
    have p8 : 2 ^ t.hi ≤ 2 ^ 8 := Nat.pow_le_pow_right (by omega) h8
    have ln := inn_sum t
    simp [startL]
    refine Linner_to ?_
    refine ⟨_, _, rfl, ?_⟩
    obtain ⟨I, hI⟩ : ∃ I : List PyData → NW.Loc → Sto → Prop, ∀ zs l s, I zs l s ↔ ∃ (done rem : List Tm) (v : Option U), t.inn = done ++ rem ∧ zs = rem.map Tm.D ∧ l = [some (.d t.D), some (.ref 0), v] ∧ s = ⟨none, [.lst ((t :: done.flatMap Tm.parts).map Tm.D)]⟩ := ⟨_, fun _ _ _ => Iff.rfl⟩
    refine for_to (I := I) (fun _ _ _ _ => chk_nil) ?_ ?_ _ _ _ ((hI _ _ _).mpr ⟨[], t.inn, none, rfl, rfl, rfl, rfl⟩)
    · rintro x zs l s hi
      obtain ⟨done, rem, v, e, ez, rfl, rfl⟩ := (hI _ _ _).mp hi
      cases rem with
      | nil => cases ez
      | cons u rem =>
        cases ez
        have hu : u ∈ t.inn := by rw [e]; simp
        have h1 := inn_hi hu
        simp
        refine Lparts_to n u (by omega) (by omega) _ ?_
        show (mExtend (.ref 0) [.d (.list (u.parts.map Tm.D))] _).To _
        rw [to_extendT]
        refine ⟨_, _, rfl, rfl, ?_, ?_⟩
        · unfold lenOk sizeLine
          rw [e] at ln
          simp at ln ⊢
          omega
        · refine (hI _ _ _).mpr ⟨done ++ [u], rem, _, by rw [e]; simp, rfl, rfl, ?_⟩
          simp [Sto.put]
    · rintro l s hi
      obtain ⟨done, rem, v, e, ez, rfl, rfl⟩ := (hI _ _ _).mp hi
      have : rem = [] := by cases rem with | nil => rfl | cons u r => cases ez
      subst this
      rw [List.append_nil] at e
      simp
      rw [parts_inn, e] at hP
      simpa using hP
end NW
namespace NW
open PySem PySem.Spec PyProof.Rows L2
end NW
namespace NW
open PySem PySem.Spec PyProof.Rows L2
def rowT (r : Str × Tm) : PyData := .tuple [.str r.1, r.2.D]
def runE : List (Str × Pol) → List (Str × Tm) → List (Str × Pol)
  | env, [] => env
  | env, r :: R => runE (env ++ [(r.1, r.2.pol (valE env))]) R
def Good (η : Str → Nat × Nat) : List (Str × Pol) → List (Str × Tm) → Prop
  | _, [] => True
  | env, r :: R => (∀ e, e ∈ env → e.1 ≠ r.1) ∧ Fine1 env η r.2 ∧ r.2.hi ≤ 8 ∧ η r.1 = r.2.heft η ∧ Good η (env ++ [(r.1, r.2.pol (valE env))]) R
theorem valE_old {env : List (Str × Pol)} {e : Str × Pol} {s : Str} (h : s ∈ env.map (·.1)) : valE (env ++ [e]) s = valE env s := by
  unfold valE
  rw [List.find?_append]
  obtain ⟨f, hf, rfl⟩ := List.mem_map.mp h
  cases e1 : env.find? fun e => decide (e.1 = f.1) with
  | some g => rfl
  | none =>
    have := List.find?_eq_none.mp e1 f hf
    simp at this
theorem valE_new {env : List (Str × Pol)} {s : Str} {p : Pol} (h : ∀ e, e ∈ env → e.1 ≠ s) : valE (env ++ [(s, p)]) s = p := by
  unfold valE
  rw [List.find?_append]
  have : env.find? (fun e => decide (e.1 = s)) = none := List.find?_eq_none.mpr fun e he => by simpa using h e he
  rw [this]
  simp
theorem EnvH.snoc {env : List (Str × Pol)} {η : Str → Nat × Nat} {s : Str} {t : Tm} (hE : EnvH env η) (F : Fine1 env η t) (hn : ∀ e, e ∈ env → e.1 ≠ s) (h : η s = t.heft η) : EnvH (env ++ [(s, t.pol (valE env))]) η := fun u hu => by
  rw [List.map_append, List.mem_append] at hu
  by_cases hm : u ∈ env.map (·.1)
  · rw [valE_old hm]; exact hE u hm
  · have : u = s := by
      rcases hu with hu | hu
      · exact absurd hu hm
      · simpa using hu
    subst this
    rw [valE_new hn, h]
    exact (F.ht hE).1
end NW
namespace NW
open PySem PySem.Spec PyProof.Rows L2
end NW
namespace NW
open PySem PySem.Spec PyProof.Rows L2
theorem cut {a b : MS} {l : NW.Loc} {st : Sto} {N : NW.Loc → Sto → Prop} {R : U → Sto → Prop} (M : NW.Loc → Sto → Prop) (h1 : (a l st).To M R) (h2 : ∀ l s, M l s → (b l s).To N R) : (sSeq a b l st).To N R := by
  rw [to_sSeq]
  exact h1.mono h2 fun _ _ h => h
end NW
namespace NW
open PySem PySem.Spec PyProof.Rows L2
theorem let_at : ∀ i : Nat, i < 26 → ((strAt ("abcdefghijklmnopqrstuvwxyz" : Str) (i : Int)).map fun y => y.length) = some 1 := by decide +kernel
def azB (x : Str) : Bool := x.cps.toList.all fun c => decide (97 ≤ c ∧ c ≤ 122)
def Az (x : Str) : Prop := ∀ c, c ∈ x.cps.toList → 97 ≤ c ∧ c ≤ 122
theorem Az.of {x : Str} (h : azB x = true) : Az x := fun c hc => of_decide_eq_true (List.all_eq_true.mp h c hc)
theorem let_az : ∀ i : Nat, i < 26 → ((strAt ("abcdefghijklmnopqrstuvwxyz" : Str) (i : Int)).map azB) = some true := by decide +kernel
theorem Az.append {x y : Str} (h : Az x) (h' : Az y) : Az (x ++ y) := fun c hc => by
  have e : (x ++ y).cps.toList = x.cps.toList ++ y.cps.toList := TL.tl_append x y
  rw [e, List.mem_append] at hc
  exact hc.elim (h c) (h' c)
theorem Az.cut {x : Str} (h : Az x) {a b : Option Int} : Az (cutS x a b) := fun c hc => by
  unfold cutS at hc
  exact h c (List.mem_of_mem_drop (List.mem_of_mem_take hc))
theorem eqv_strD {a b : Str} : PyData.eqv (.str a) (.str b) = decide (a = b) := by
  by_cases h : a = b
  · subst h; simp [PyData.eqv]
  · simp [PyData.eqv, h]
theorem strs1 {p : Str → Prop} : ∀ {ds : List PyData}, (∀ d, d ∈ ds → ∃ y : Str, d = .str y ∧ p y) → ∃ zs, strsOf ds = some zs ∧ zs.length = ds.length ∧ ∀ z, z ∈ zs → p z
  | [], _ => ⟨[], rfl, rfl, by simp⟩
  | d :: ds, h => by
    obtain ⟨y, rfl, hy⟩ := h d (by simp)
    obtain ⟨zs, e, l, k⟩ := strs1 (ds := ds) fun d hd => h d (by simp [hd])
    refine ⟨y :: zs, by simp [strsOf, e], by simp [l], fun z hz => ?_⟩
    rcases List.mem_cons.mp hz with rfl | hz
    · exact hy
    · exact k z hz
theorem len_tl (x : Str) : x.length = (TL.tl x).length := rfl
theorem joinL1 : ∀ {ps : List (List Nat)}, (∀ p, p ∈ ps → p.length = 1) → (TL.joinL [] ps).length = ps.length
  | [], _ => rfl
  | [p], h => by simpa [TL.joinL] using h p (by simp)
  | p :: q :: r, h => by
    have := joinL1 (ps := q :: r) fun z hz => h z (by simp [hz])
    rw [TL.joinL, List.length_append, List.nil_append, this, h p (by simp)]
    simp
    omega
theorem join1 {zs : List Str} (h : ∀ z, z ∈ zs → z.length = 1) : (Txt.join ("" : Str) zs).length = zs.length := by
  rw [TL.join_eq, len_tl, TL.tl_join]
  have : TL.tl ("" : Str) = [] := by decide +kernel
  rw [this, joinL1 (fun p hp => by obtain ⟨z, hz, rfl⟩ := List.mem_map.mp hp; exact h z hz), List.length_map]
theorem to_ixStrW {z : Str} {i : Int} {st : Sto} {Q : U → Sto → Prop} : (fIx (.d (.str z)) (.d (.int i)) st).To Q ↔ ∃ y, strAt z i = some y ∧ Q (.d (.str y)) st := by
  show (match strAt z i with
    | some y => Res.ok (U.d (.str y)) st
    | none => .no).To Q ↔ _
  cases strAt z i <;> simp
theorem ix_anyW {xs : List PyData} {i : Int} {st : Sto} {Q : U → Sto → Prop} (h0 : 0 ≤ i) (h1 : i < xs.length) (h : ∀ x, x ∈ xs → Q (.d x) st) : (fIx (.d (.list xs)) (.d (.int i)) st).To Q := by
  obtain ⟨k, rfl⟩ : ∃ k : Nat, i = k := ⟨i.toNat, by omega⟩
  rw [SeqD.ixn (S := .list xs) (.inl rfl) (i := k) (by omega)]
  exact h _ (List.getElem_mem _)
theorem app_len {x y : Str} : (x ++ y).length = x.length + y.length := by
  rw [len_tl, len_tl, len_tl, TL.tl_append, List.length_append]
theorem to_addStr {x y : Str} {st : Sto} {Q : U → Sto → Prop} (h : x.length + y.length ≤ 1000) (hQ : Q (.d (.str (x ++ y))) st) : (fAddA (.d (.str x)) (.d (.str y)) st).To Q := by
  have : lenOk (x.length + y.length) = true := decide_eq_true (by rw [sizeLine_eq]; omega)
  show (if lenOk (x.length + y.length) = true then Res.ok (U.d (.str (x ++ y))) st else .no).To Q
  rw [if_pos this]
  exact hQ
theorem Az.join {zs : List Str} (h : ∀ z, z ∈ zs → Az z) : Az (Txt.join ("" : Str) zs) := fun c hc => by
  have e : (Txt.join ("" : Str) zs).cps.toList = TL.joinL (TL.tl ("" : Str)) (zs.map TL.tl) := by rw [TL.join_eq]; exact TL.tl_join _ _
  have e0 : TL.tl ("" : Str) = [] := by decide +kernel
  rw [e, e0] at hc
  have key : ∀ (ps : List (List Nat)), (∀ q, q ∈ ps → ∀ c, c ∈ q → 97 ≤ c ∧ c ≤ 122) → ∀ c, c ∈ TL.joinL [] ps → 97 ≤ c ∧ c ≤ 122 := by
    intro ps
    induction ps with
    | nil => intro _ c hc; simp [TL.joinL] at hc
    | cons q ps ih =>
      intro hq c hc
      cases ps with
      | nil => exact hq q (by simp) c (by simpa [TL.joinL] using hc)
      | cons r ps =>
        rw [TL.joinL, List.nil_append, List.mem_append] at hc
        rcases hc with hc | hc
        · exact hq q (by simp) c hc
        · exact ih (fun z hz => hq z (by simp [hz])) c hc
  exact key _ (fun q hq c hc => by obtain ⟨z, hz, rfl⟩ := List.mem_map.mp hq; exact h z hz c hc) c hc
def Wd (d : PyData) : Prop := ∃ w : Str, d = .str w ∧ 1 ≤ w.length ∧ w.length ≤ 6 ∧ Az w
theorem word_to {f : Fl} (hf : FlOk f) : (m_L_word [] f).To fun d f' => Wd d ∧ FlOk f' := by
  unfold m_L_word
  rw [flow_to]
  unfold b_L_word
  generalize hL0 : startL 4 (U.flow :: List.map U.d []) = L0
  refine cut (fun l st => ∃ g, FlOk g ∧ l = [some .flow, some (.d (.str "abcdefghijklmnopqrstuvwxyz")), none, none] ∧ st = ⟨some g, []⟩) ?_ ?_
  · rw [← hL0]
    simp [startL]
    exact hf
  rintro l st ⟨g, o1, hl, hs⟩
  refine cut (fun l st => ∃ (w : Str) (g : Fl), (1 ≤ w.length ∧ w.length ≤ 6 ∧ Az w) ∧ FlOk g ∧ l = [some .flow, some (.d (.str "abcdefghijklmnopqrstuvwxyz")), some (.d (.str w)), none] ∧ st = ⟨some g, []⟩) ?_ ?_
  · simp [hl, hs]
    refine (pick_to o1 (by omega) (by omega)).mono ?_
    rintro _ f1 ⟨i, rfl, i0, i1, o2⟩
    simp
    refine ⟨decide_eq_true (by omega), by omega, ?_⟩
    refine lc_draw (p := fun d => ∃ y : Str, d = .str y ∧ y.length = 1 ∧ Az y) (fun x hx g og => ?_) o2 (fun ys g hlen hp og => ?_)
    · simp [wipeL]
      refine (pick_to og (by omega) (by omega)).mono ?_
      rintro _ f3 ⟨j, rfl, j0, j1, o3⟩
      obtain ⟨k, rfl⟩ : ∃ k : Nat, j = k := ⟨j.toNat, by omega⟩
      have := let_at k (by omega)
      have az := let_az k (by omega)
      cases e : strAt ("abcdefghijklmnopqrstuvwxyz" : Str) (k : Int) with
      | none => rw [e] at this; cases this
      | some y =>
        rw [e] at this az
        rw [to_ixStrW]
        exact ⟨y, e, _, rfl, _, rfl, o3, y, rfl, by simpa using this, Az.of (by simpa using az)⟩
    · obtain ⟨zs, e, l, k0⟩ := strs1 hp
      have k : ∀ z, z ∈ zs → z.length = 1 := fun z hz => (k0 z hz).1
      have lz : zs.length = (1 + i).toNat := by rw [l, hlen]; simp
      have e0 : ("" : Str).length = 0 := by decide +kernel
      have sm : (zs.map fun z => z.length).sum = zs.length := by
        clear e l lz k0
        induction zs with
        | nil => rfl
        | cons z zs ih =>
          rw [List.map_cons, List.sum_cons, ih fun z hz => k z (by simp [hz]), k z (by simp)]
          simp
          omega
      refine ⟨zs, e, ?_, _, ?_, g, og, rfl, rfl⟩
      · unfold joinOk
        rw [e0, sm]
        exact decide_eq_true (by omega)
      · rw [join1 k]
        exact ⟨by omega, by omega, Az.join fun z hz => (k0 z hz).2⟩
  clear hl hs
  rintro l st ⟨w, g2, ⟨w1, w2, w3⟩, o2, hl, hs⟩
  refine cut (fun l st => ∃ (w : Str) (g : Fl), (1 ≤ w.length ∧ w.length ≤ 6 ∧ Az w) ∧ FlOk g ∧ l = [some .flow, some (.d (.str "abcdefghijklmnopqrstuvwxyz")), some (.d (.str w)), none] ∧ st = ⟨some g, []⟩) ?_ ?_
  · simp [hl, hs]
    refine (pick_to o2 (by omega) (by omega)).mono ?_
    rintro _ f1 ⟨i, rfl, i0, i1, o3⟩
    simp
    by_cases h0 : i = 0
    · refine .inr ⟨h0, ?_⟩
      have l5 : lenOk ("again" : Str).length = true := by decide +kernel
      show (if lenOk ("again" : Str).length = true then Res.ok (U.d (.str (cutS ("again" : Str) (some 1) none))) _ else .no).To _
      rw [if_pos l5]
      have ec : cutS ("again" : Str) (some 1) none = ("gain" : Str) := by decide +kernel
      rw [ec]
      refine ⟨_, ⟨_, rfl, rfl⟩, by simp, ?_⟩
      simp
      refine (pick_to o3 (by omega) (by omega)).mono ?_
      rintro _ f2 ⟨j, rfl, j0, j1, o4⟩
      refine ix_anyW j0 (by simpa using j1) fun x hx => ?_
      simp only [List.mem_cons, List.not_mem_nil, or_false] at hx
      rcases hx with rfl | rfl | rfl | rfl | rfl | rfl | rfl | rfl
      all_goals exact ⟨_, ⟨by decide +kernel, by decide +kernel, Az.of (by decide +kernel)⟩, f2, o4, rfl, rfl⟩
    · exact .inl ⟨h0, ⟨w1, w2, w3⟩, o3⟩
  clear hl hs
  rintro l st ⟨w, g3, ⟨w1, w2, w3⟩, o3, hl, hs⟩
  simp [hl, hs]
  rw [to_inT]
  refine ⟨⟨rfl, fun y hy => by simp at hy; rcases hy with rfl | rfl | rfl <;> rfl⟩, ?_⟩
  have hlen : (if false = true then !(([PyData.str "x", PyData.str "of", PyData.str "again"]).any fun y => PyData.eqv y (.str w)) else ([PyData.str "x", PyData.str "of", PyData.str "again"]).any fun y => PyData.eqv y (.str w)) = true → w.length ≤ 5 := fun h => by
    rw [if_neg (by decide)] at h
    obtain ⟨y, hy, e⟩ := List.any_eq_true.mp h
    simp only [List.mem_cons, List.not_mem_nil, or_false] at hy
    rcases hy with rfl | rfl | rfl <;> · rw [eqv_strD] at e; rw [← of_decide_eq_true e]; decide +kernel
  revert hlen
  generalize (if false = true then _ else _ : Bool) = b
  intro hlen
  have z0 : ("" : Str).length = 0 := by decide +kernel
  have z1 : ("z" : Str).length = 1 := by decide +kernel
  cases b with
  | false =>
    rw [to_cIntB]
    show (fMulS (.d (.str "z")) (.d (.int 0)) _).To _
    rw [to_mulS_str]
    refine ⟨by decide +kernel, ?_⟩
    have : repS ("z" : Str) 0 = ("" : Str) := by decide +kernel
    rw [this]
    refine to_addStr (by omega) ⟨_, rfl, ⟨w ++ ("" : Str), rfl, ?_, ?_, w3.append (Az.of (by decide +kernel))⟩, o3⟩
    · rw [app_len]; omega
    · rw [app_len]; omega
  | true =>
    rw [to_cIntB]
    show (fMulS (.d (.str "z")) (.d (.int 1)) _).To _
    rw [to_mulS_str]
    refine ⟨by decide +kernel, ?_⟩
    have : repS ("z" : Str) 1 = ("z" : Str) := by decide +kernel
    rw [this]
    have := hlen rfl
    refine to_addStr (by omega) ⟨_, rfl, ⟨w ++ ("z" : Str), rfl, ?_, ?_, w3.append (Az.of (by decide +kernel))⟩, o3⟩
    · rw [app_len]; omega
    · rw [app_len]; omega
end NW
namespace NW
open PySem PySem.Spec PyProof.Rows L2
def strsD (ws : List Str) : List PyData := ws.map PyData.str
def spW (s : Nat) : Str := repS (((strAt ("abcdefghijklmnopqrstuvwxyz" : Str) ((s % 26 : Nat) : Int)).getD ("" : Str))) (2 + (s / 26 : Nat))
def bad3 (w : Str) : Bool := [("x" : Str), "of", "again"].any fun y => decide (y = w)
theorem sp_ok : ∀ s, s < 8 → strAt ("abcdefghijklmnopqrstuvwxyz" : Str) (((s % 26 : Nat) : Int)) = some ((strAt ("abcdefghijklmnopqrstuvwxyz" : Str) ((s % 26 : Nat) : Int)).getD ("" : Str)) ∧ repOk ((strAt ("abcdefghijklmnopqrstuvwxyz" : Str) ((s % 26 : Nat) : Int)).getD ("" : Str)) (2 + (s / 26 : Nat)) = true ∧ (spW s).length = 2 ∧ bad3 (spW s) = false := by decide +kernel
theorem sp_az : ∀ s, s < 8 → azB (spW s) = true := by decide +kernel
theorem cutS_take {z : Str} {k : Nat} (h : k ≤ z.length) : (cutS z none (some (k : Int))).length = k := by
  have hl : z.cps.toList.length = z.length := Array.length_toList
  show (cutS z none (some (k : Int))).cps.size = k
  unfold cutS
  rw [HT.sIx_nat, HT.sIx_none, List.drop_zero, Nat.sub_zero, Nat.min_eq_left h, List.size_toArray, List.length_take, hl]
  omega
theorem cutS_drop {z : Str} {k : Nat} (h : k ≤ z.length) : (cutS z (some (k : Int)) none).length = z.length - k := by
  have hl : z.cps.toList.length = z.length := Array.length_toList
  show (cutS z (some (k : Int)) none).cps.size = z.length - k
  unfold cutS
  rw [HT.sIx_nat, HT.sIx_none, Nat.min_eq_left h, List.size_toArray, List.length_take, List.length_drop, hl]
  omega
structure NmOk (w : Str) : Prop where
  l1 : 1 ≤ w.length
  l6 : w.length ≤ 6
  az : Az w
  new : bad3 w = false
theorem sp_inj : ∀ s, s < 8 → ∀ t, t < s → spW t ≠ spW s := by decide +kernel
theorem to_slStr {z : Str} {a b : Option Int} {st : Sto} {Q : U → Sto → Prop} (h : z.length ≤ 1000) (hQ : Q (.d (.str (cutS z a b))) st) : (fSl (.d (.str z)) a b st).To Q := by
  have : lenOk z.length = true := decide_eq_true (by rw [sizeLine_eq]; omega)
  show (if lenOk z.length = true then Res.ok (U.d (.str (cutS z a b))) st else .no).To Q
  rw [if_pos this]
  exact hQ
theorem any_strs {ws : List Str} {w : Str} : ((strsD ws).any fun y => PyData.eqv y (.str w)) = ws.any fun y => decide (y = w) := by
  unfold strsD
  rw [List.any_map]
  congr 1
theorem to_inStrs {ws : List Str} {w : Str} {u : U} {st : Sto} {Q : U → Sto → Prop} (h : seqOf st u = some (strsD ws)) : (fIn false (.d (.str w)) u st).To Q ↔ Q (.d (.bool (ws.any fun y => decide (y = w)))) st := by
  have fl : (flatD (.str w) && (strsD ws).all flatD) = true := by
    rw [Bool.and_eq_true]
    refine ⟨rfl, List.all_eq_true.mpr fun y hy => ?_⟩
    obtain ⟨_, _, rfl⟩ := List.mem_map.mp hy
    rfl
  unfold fIn
  rw [h]
  dsimp only
  rw [if_pos fl, ← any_strs]
  exact Iff.rfl
theorem nd_le : ∀ {l ws : List Str}, l.Nodup → (∀ x, x ∈ l → x ∈ ws) → l.length ≤ ws.length
  | [], _, _, _ => by simp
  | a :: l, ws, nd, h => by
    have ha := h a (by simp)
    have h1 := nd_le (l := l) (ws := ws.erase a) (List.nodup_cons.mp nd).2 (fun x hx => (List.mem_erase_of_ne (fun e => (List.nodup_cons.mp nd).1 (by rw [← e]; exact hx))).mpr (h x (by simp [hx])))
    have h2 := List.length_erase_of_mem ha
    have h3 := List.length_pos_of_mem ha
    simp
    omega
theorem words_to {f : Fl} (hf : FlOk f) {many : Nat} (h1 : 1 ≤ many) (h6 : many ≤ 6) : (m_L_words [.int many] f).To fun d f' => ∃ ws : List Str, d = .list (strsD ws) ∧ ws.length = many ∧ ws.Nodup ∧ (∀ w, w ∈ ws → NmOk w) ∧ FlOk f' := by
  unfold m_L_words
  rw [flow_to]
  unfold b_L_words
  generalize hL0 : startL 11 (U.flow :: List.map U.d [PyData.int (many : Int)]) = L0
  refine cut (fun l st => l = [some .flow, some (.d (.int many)), some (.d (.str "abcdefghijklmnopqrstuvwxyz")), none, none, none, none, none, none, none, none] ∧ st = ⟨some f, []⟩) ?_ ?_
  · rw [← hL0]
    simp [startL]
  rintro l st ⟨hl, hs⟩
  refine cut (fun l st => ∃ (b : Bool) (g : Fl), FlOk g ∧ l = [some .flow, some (.d (.int many)), some (.d (.str "abcdefghijklmnopqrstuvwxyz")), some (.d (.bool b)), none, none, none, none, none, none, none] ∧ st = ⟨some g, []⟩) ?_ ?_
  · simp [hl, hs]
    refine (pick_to hf (by omega) (by omega)).mono ?_
    rintro _ f1 ⟨i, rfl, i0, i1, o1⟩
    simp
    by_cases h0 : i = 0
    · exact .inr ⟨o1, h0⟩
    · exact .inl ⟨o1, h0⟩
  clear hl hs
  rintro l st ⟨b, g1, o1, hl, hs⟩
  refine cut (fun l st => ∃ (c : Str) (g : Fl), (1 ≤ c.length ∧ c.length ≤ 6 ∧ Az c) ∧ FlOk g ∧ l = [some .flow, some (.d (.int many)), some (.d (.str "abcdefghijklmnopqrstuvwxyz")), some (.d (.bool b)), some (.d (.str c)), none, none, none, none, none, none] ∧ st = ⟨some g, []⟩) ?_ ?_
  · simp [hl, hs]
    refine (word_to o1).mono ?_
    rintro _ f1 ⟨⟨c, rfl, c1, c2, cz⟩, o2⟩
    exact ⟨c, ⟨c1, c2, cz⟩, o2, rfl⟩
  clear hl hs
  rintro l st ⟨c, g2, ⟨c1, c2, cz⟩, o2, hl, hs⟩
  refine cut (fun l st => ∃ (i : Nat) (g : Fl), i < c.length ∧ FlOk g ∧ l = [some .flow, some (.d (.int many)), some (.d (.str "abcdefghijklmnopqrstuvwxyz")), some (.d (.bool b)), some (.d (.str c)), some (.d (.int i)), none, none, none, none, none] ∧ st = ⟨some g, []⟩) ?_ ?_
  · simp [hl, hs]
    have lc : lenOk c.length = true := decide_eq_true (by rw [sizeLine_eq]; omega)
    show (if lenOk c.length = true then Res.ok (U.d (.int c.length)) _ else .no).To _
    rw [if_pos lc]
    simp
    refine (pick_to o2 (by omega) (by omega)).mono ?_
    rintro _ f1 ⟨i, rfl, i0, i1, o3⟩
    obtain ⟨k, rfl⟩ : ∃ k : Nat, i = k := ⟨i.toNat, by omega⟩
    simp
    exact ⟨k, by omega, o3, rfl⟩
  clear hl hs
  rintro l st ⟨i, g3, hi, o3, hl, hs⟩
  simp [hl, hs]
  refine (pick_to o3 (by omega) (by omega)).mono ?_
  rintro _ f1 ⟨j, rfl, j0, j1, o4⟩
  refine ⟨decide_eq_true (by omega), ?_⟩
  obtain ⟨I, hI⟩ : ∃ I : Nat → NW.Loc → Sto → Prop, ∀ k l st, I k l st ↔ ∃ (ws : List Str) (g : Fl) (v8 v9 v10 : Option U), ws.length = k ∧ ws.Nodup ∧ (∀ w, w ∈ ws → NmOk w) ∧ FlOk g ∧ l = [some .flow, some (.d (.int many)), some (.d (.str "abcdefghijklmnopqrstuvwxyz")), some (.d (.bool b)), some (.d (.str c)), some (.d (.int i)), some (.d (.int j)), some (.ref 0), v8, v9, v10] ∧ st = ⟨some g, [.lst (strsD ws)]⟩ := ⟨_, fun _ _ _ => Iff.rfl⟩
  refine for_ix I (fun _ _ _ _ => chk_nil) ((hI _ _ _).mpr ⟨[], f1, none, none, none, rfl, by simp, by simp, o4, rfl, rfl⟩) ?_ ?_
  · rintro k x l st hx h'
    obtain ⟨ws, g, v8, v9, v10, wl, nd, wz, og, hl, hs⟩ := (hI _ _ _).mp h'
    have hk := (List.getElem?_eq_some_iff.mp hx).1
    simp [range_map] at hk
    have ex : x = .int (k : Int) := by
      rw [range_map, List.getElem?_map, List.getElem?_range hk] at hx
      exact (Option.some.inj hx).symm
    subst ex
    simp only [to_gName]
    refine cut (fun l st => ∃ (w : Str) (g : Fl), (1 ≤ w.length ∧ w.length ≤ 6 ∧ Az w) ∧ FlOk g ∧ l = [some .flow, some (.d (.int many)), some (.d (.str "abcdefghijklmnopqrstuvwxyz")), some (.d (.bool b)), some (.d (.str c)), some (.d (.int i)), some (.d (.int j)), some (.ref 0), some (.d (.int k)), some (.d (.str w)), v10] ∧ st = ⟨some g, [.lst (strsD ws)]⟩) ?_ ?_
    · simp [hl, hs]
      refine (word_to og).mono ?_
      rintro _ f2 ⟨⟨w, rfl, q1, q2, qz⟩, o5⟩
      exact ⟨w, ⟨q1, q2, qz⟩, o5, rfl⟩
    clear hl hs
    rintro l st ⟨w, g2, ⟨q1, q2, qz⟩, o5, hl, hs⟩
    refine cut (fun l st => ∃ (w : Str), (1 ≤ w.length ∧ w.length ≤ 6 ∧ Az w) ∧ l = [some .flow, some (.d (.int many)), some (.d (.str "abcdefghijklmnopqrstuvwxyz")), some (.d (.bool b)), some (.d (.str c)), some (.d (.int i)), some (.d (.int j)), some (.ref 0), some (.d (.int k)), some (.d (.str w)), v10] ∧ st = ⟨some g2, [.lst (strsD ws)]⟩) ?_ ?_
    · simp [hl, hs]
      by_cases hb : b = true
      · refine .inr ⟨hb, ?_⟩
        refine to_slStr (by omega) ?_
        obtain ⟨jn, rfl⟩ : ∃ jn : Nat, j = jn := ⟨j.toNat, by omega⟩
        have ej : ((jn : Int) + (k : Int)).fmod 26 = (((jn + k) % 26 : Nat) : Int) := by rw [Int.fmod_eq_emod_of_nonneg _ (by omega)]; omega
        rw [ej]
        have la := let_at ((jn + k) % 26) (Nat.mod_lt _ (by omega))
        have lz := let_az ((jn + k) % 26) (Nat.mod_lt _ (by omega))
        rw [to_ixStrW]
        cases e : strAt ("abcdefghijklmnopqrstuvwxyz" : Str) (((jn + k) % 26 : Nat) : Int) with
        | none => rw [e] at la; cases la
        | some y =>
          rw [e] at la lz
          have ly : y.length = 1 := by simpa using la
          have yz : Az y := Az.of (by simpa using lz)
          refine ⟨y, rfl, ?_⟩
          have c3 := cutS_take (z := c) (k := i) (by omega)
          have c4 := cutS_drop (z := c) (k := i + 1) (by omega)
          have e4 : ((i : Int) + 1) = ((i + 1 : Nat) : Int) := by omega
          rw [e4]
          refine to_addStr (by omega) ?_
          refine to_slStr (by omega) ?_
          refine to_addStr (by rw [app_len]; omega) ?_
          exact ⟨_, ⟨by rw [app_len, app_len]; omega, by rw [app_len, app_len]; omega, (cz.cut.append yz).append cz.cut⟩, rfl, rfl⟩
      · exact .inl ⟨by simpa using hb, by omega, by omega, qz⟩
    clear hl hs
    rintro l st ⟨w, ⟨q1, q2, qz⟩, hl, hs⟩
    refine cut (fun l st => l = [some .flow, some (.d (.int many)), some (.d (.str "abcdefghijklmnopqrstuvwxyz")), some (.d (.bool b)), some (.d (.str c)), some (.d (.int i)), some (.d (.int j)), some (.ref 0), some (.d (.int k)), some (.d (.str w)), some (.d (.int 0))] ∧ st = ⟨some g2, [.lst (strsD ws)]⟩) ?_ ?_
    · simp [hl, hs]
    clear hl hs
    rintro l st ⟨hl, hs⟩
    refine cut (fun l st => ∃ (w : Str) (v : Option U), NmOk w ∧ w ∉ ws ∧ l = [some .flow, some (.d (.int many)), some (.d (.str "abcdefghijklmnopqrstuvwxyz")), some (.d (.bool b)), some (.d (.str c)), some (.d (.int i)), some (.d (.int j)), some (.ref 0), some (.d (.int k)), some (.d (.str w)), v] ∧ st = ⟨some g2, [.lst (strsD ws)]⟩) ?_ ?_
    · obtain ⟨J, hJ⟩ : ∃ J : Nat → NW.Loc → Sto → Prop, ∀ m l st, J m l st ↔ ∃ (s : Nat) (w : Str), m + s = 8 ∧ (1 ≤ w.length ∧ w.length ≤ 6 ∧ Az w) ∧ (∀ t, t + 1 < s → spW t ∈ ws) ∧ (0 < s → w = spW (s - 1)) ∧ l = [some .flow, some (.d (.int many)), some (.d (.str "abcdefghijklmnopqrstuvwxyz")), some (.d (.bool b)), some (.d (.str c)), some (.d (.int i)), some (.d (.int j)), some (.ref 0), some (.d (.int k)), some (.d (.str w)), some (.d (.int s))] ∧ st = ⟨some g2, [.lst (strsD ws)]⟩ := ⟨_, fun _ _ _ => Iff.rfl⟩
      refine while_to (I := J) ?_ 8 _ _ ((hJ _ _ _).mpr ⟨0, w, rfl, ⟨q1, q2, qz⟩, by omega, by omega, hl, hs⟩)
      rintro m l st hi
      obtain ⟨s, w, ms, ⟨z1, z2, zz⟩, z3, z4, rfl, rfl⟩ := (hJ _ _ _).mp hi
      simp
      have step : s < 8 → (∀ t, t < s → spW t ∈ ws) → (fIx (U.d (PyData.str "abcdefghijklmnopqrstuvwxyz")) (U.d (PyData.int ((s : Int).fmod 26))) ⟨some g2, [.lst (strsD ws)]⟩).To fun x s_2 => divC (s : Int) 26 = true ∧ (fMulS x (U.d (PyData.int (2 + (s : Int).fdiv 26))) s_2).To fun u s_3 => ∃ m_1, m_1 < m ∧ J m_1 [some .flow, some (.d (.int many)), some (.d (.str "abcdefghijklmnopqrstuvwxyz")), some (.d (.bool b)), some (.d (.str c)), some (.d (.int i)), some (.d (.int j)), some (.ref 0), some (.d (.int k)), some u, some (.d (.int (s + 1)))] s_3 := fun s8 all => by
        obtain ⟨k1, k2, k3, k4⟩ := sp_ok s s8
        have e1 : (s : Int).fmod 26 = ((s % 26 : Nat) : Int) := by rw [Int.fmod_eq_emod_of_nonneg _ (by omega)]; omega
        have e2 : (2 : Int) + (s : Int).fdiv 26 = 2 + (s / 26 : Nat) := by rw [Int.fdiv_eq_ediv_of_nonneg _ (by omega)]; omega
        rw [e1, e2, to_ixStrW]
        refine ⟨_, k1, divU (by omega), ?_⟩
        rw [to_mulS_str]
        refine ⟨k2, m - 1, by omega, (hJ _ _ _).mpr ⟨s + 1, spW s, by omega, ⟨by omega, by omega, Az.of (sp_az s s8)⟩, fun t ht => all t (by omega), fun _ => rfl, rfl, rfl⟩⟩
      rw [to_inStrs (ws := ws) rfl]
      by_cases hin : (ws.any fun y => decide (y = w)) = true
      · refine .inr ⟨by rw [hin], ?_⟩
        have hw : w ∈ ws := by
          obtain ⟨y, hy, e⟩ := List.any_eq_true.mp hin
          have : y = w := of_decide_eq_true e
          rwa [← this]
        have all : ∀ t, t < s → spW t ∈ ws := fun t ht => by
          by_cases h : t + 1 < s
          · exact z3 t h
          · have := z4 (by omega)
            rw [show t = s - 1 by omega, ← this]
            exact hw
        have s9 : s ≤ 8 := by omega
        have le := nd_le (l := (List.range s).map spW) (ws := ws) (by
          rw [List.Nodup, List.pairwise_map]
          exact List.pairwise_lt_range.imp_of_mem fun {a b} ha hb hab => sp_inj b (by have := List.mem_range.mp hb; omega) a hab) (fun x hx => by
          obtain ⟨t, ht, rfl⟩ := List.mem_map.mp hx
          exact all t (List.mem_range.mp ht))
        simp at le
        exact step (by omega) all
      · have hin' : (ws.any fun y => decide (y = w)) = false := eq_false_of_ne_true hin
        refine .inl ⟨by rw [hin'], ?_⟩
        rw [to_inStrs (ws := ["x", "of", "again"]) rfl]
        by_cases hb : bad3 w = true
        · refine .inr ⟨by rw [show (([("x" : Str), "of", "again"].any fun y => decide (y = w)) = true) from hb], ?_⟩
          have s0 : s = 0 := by
            rcases Nat.eq_zero_or_pos s with h | h
            · exact h
            · have e := z4 h
              have := (sp_ok (s - 1) (by omega)).2.2.2
              rw [← e, hb] at this
              cases this
          exact step (by omega) (fun t ht => by omega)
        · have hb' : (([("x" : Str), "of", "again"].any fun y => decide (y = w)) = false) := eq_false_of_ne_true hb
          refine .inl ⟨by rw [hb'], w, ⟨z1, z2, zz, hb'⟩, fun hw => hin (List.any_eq_true.mpr ⟨w, hw, by simp⟩), rfl, rfl⟩
    clear hl hs
    rintro l st ⟨w, v, wo, nw, hl, hs⟩
    simp [hl, hs]
    refine ⟨by simp [strsD]; omega, (hI _ _ _).mpr ⟨ws ++ [w], g2, _, _, _, by simp [wl], ?_, ?_, o5, rfl, by simp [strsD]⟩⟩
    · rw [List.nodup_append]
      exact ⟨nd, by simp, fun a ha b hb e => by
        have : b = w := by simpa using hb
        rw [e, this] at ha
        exact nw ha⟩
    · intro z hz
      rcases List.mem_append.mp hz with hz | hz
      · exact wz z hz
      · have : z = w := by simpa using hz
        rw [this]; exact wo
  · rintro l st h'
    obtain ⟨ws, g, v8, v9, v10, wl, nd, wz, og, rfl, rfl⟩ := (hI _ _ _).mp h'
    have : (rangeD 0 1 many).length = many := by simp
    rw [this] at wl
    refine ⟨_, rfl, ?_⟩
    simp
    exact ⟨ws, rfl, wl, nd, wz, og⟩
end NW
namespace NW
open PySem PySem.Spec PyProof.Rows L2
structure Shp (N : List Str) (t : Tm) : Prop where
  names : ∀ s, Tm.nm s ∈ t.parts → s ∈ N
  nums : ∀ q, Tm.num q ∈ t.parts → FB 10 q
  exps : ∀ u k, (Tm.pow u k ∈ t.parts ∨ Tm.agn u k ∈ t.parts) → k ≤ 6
theorem leaf_to {f : Fl} (hf : FlOk f) {N : List Str} (hN : N.length ≤ 100) : (m_L_leaf [.list (strsD N)] f).To fun d f' => ∃ t : Tm, d = t.D ∧ t.hi = 1 ∧ Shp N t ∧ FlOk f' := by
  unfold m_L_leaf
  rw [flow_to]
  unfold b_L_leaf
  generalize hL0 : startL 4 (U.flow :: List.map U.d [PyData.list (strsD N)]) = L0
  refine cut (fun l st => ∃ (i : Int) (g : Fl), (0 ≤ i ∧ i < 6) ∧ FlOk g ∧ l = [some .flow, some (.d (.list (strsD N))), some (.d (.int i)), none] ∧ st = ⟨some g, []⟩) ?_ ?_
  · rw [← hL0]
    simp [startL]
    refine (pick_to hf (by omega) (by omega)).mono ?_
    rintro _ f1 ⟨i, rfl, i0, i1, o1⟩
    exact ⟨i, ⟨i0, i1⟩, o1, rfl⟩
  rintro l st ⟨i, g1, ⟨i0, i1⟩, o1, hl, hs⟩
  refine cut (fun l st => 2 ≤ i ∧ l = [some .flow, some (.d (.list (strsD N))), some (.d (.int i)), none] ∧ st = ⟨some g1, []⟩) ?_ ?_
  · simp [hl, hs]
    by_cases h : i < 2
    · refine .inr ⟨h, ?_⟩
      exact ⟨.x, rfl, rfl, ⟨by simp [Tm.parts], by simp [Tm.parts], by simp [Tm.parts]⟩, o1⟩
    · exact .inl (by omega)
  clear hl hs
  rintro l st ⟨i2, hl, hs⟩
  refine cut (fun l st => l = [some .flow, some (.d (.list (strsD N))), some (.d (.int i)), none] ∧ st = ⟨some g1, []⟩) ?_ ?_
  · simp [hl, hs]
    by_cases h4 : i < 4
    · refine .inr ⟨h4, ?_⟩
      by_cases hN0 : strsD N = []
      · exact .inl hN0
      refine .inr ⟨List.length_pos_iff.mpr hN0, ?_⟩
      have lN : (strsD N).length = N.length := by simp [strsD]
      have := List.length_pos_iff.mpr hN0
      refine (pick_to o1 (by omega) (by omega)).mono ?_
      rintro _ f1 ⟨j, rfl, j0, j1, o2⟩
      refine ix_anyW j0 j1 fun x hx => ?_
      obtain ⟨s, hs, rfl⟩ := List.mem_map.mp hx
      refine ⟨_, ⟨_, rfl, rfl⟩, by simp, f1, rfl, .nm s, rfl, rfl, ⟨fun u hu => ?_, by simp [Tm.parts], by simp [Tm.parts]⟩, o2⟩
      simp [Tm.parts] at hu
      rw [hu]; exact hs
    · exact .inl (by omega)
  clear hl hs
  rintro l st ⟨hl, hs⟩
  simp [hl, hs]
  refine (pick_to o1 (by omega) (by omega)).mono ?_
  rintro _ f1 ⟨j, rfl, j0, j1, o2⟩
  refine ixl_to (p := fun x => ∃ j : Int, x = .int j ∧ 1 ≤ j ∧ j ≤ 999) j0 j1 (by simp) ?_
  rintro _ ⟨m, rfl, m0, m1⟩
  simp
  refine (L_number_to o2 (by omega) (by omega)).mono ?_
  rintro _ f2 ⟨v, rfl, v1, v2, o3⟩
  refine (pick_to o3 (by omega) (by omega)).mono ?_
  rintro _ f3 ⟨j', rfl, j0', j1', o4⟩
  refine ixl_to (p := fun x => ∃ j : Int, x = .int j ∧ 1 ≤ j ∧ j ≤ 999) j0' j1' (by simp) ?_
  rintro _ ⟨m', rfl, m0', m1'⟩
  simp
  refine (pick_to o4 (by omega) (by omega)).mono ?_
  rintro _ f4 ⟨u, rfl, u1, u2, o5⟩
  simp
  refine L_fraction_to (by omega) trivial ?_
  have fb : FB 10 (Rat.divInt v (1 + u)) := FB.of_divInt (by omega) (by omega) (by omega)
  refine ⟨Tm.num (Rat.divInt v (1 + u)), rfl, rfl, ⟨by simp [Tm.parts], fun q hq => ?_, by simp [Tm.parts]⟩, o5⟩
  simp [Tm.parts] at hq
  rw [hq]
  exact fb
end NW
namespace NW
open PySem PySem.Spec PyProof.Rows L2
theorem Shp.one {N : List Str} {t : Tm} {k : Nat} (h : Shp N t) (hk : k ≤ 6) : Shp N (.pow t k) ∧ Shp N (.agn t k) := by
  constructor
  · refine ⟨fun s hs => ?_, fun q hq => ?_, fun u j hu => ?_⟩
    · simp [Tm.parts] at hs; exact h.names s hs
    · simp [Tm.parts] at hq; exact h.nums q hq
    · simp [Tm.parts] at hu
      rcases hu with (⟨_, rfl⟩ | hu) | hu
      · exact hk
      · exact h.exps u j (.inl hu)
      · exact h.exps u j (.inr hu)
  · refine ⟨fun s hs => ?_, fun q hq => ?_, fun u j hu => ?_⟩
    · simp [Tm.parts] at hs; exact h.names s hs
    · simp [Tm.parts] at hq; exact h.nums q hq
    · simp [Tm.parts] at hu
      rcases hu with hu | ⟨_, rfl⟩ | hu
      · exact h.exps u j (.inl hu)
      · exact hk
      · exact h.exps u j (.inr hu)
theorem Shp.two {N : List Str} {a b : Tm} (h : Shp N a) (h' : Shp N b) : Shp N (.plus a b) ∧ Shp N (.minus a b) ∧ Shp N (.times a b) ∧ Shp N (.of a b) := by
  refine ⟨⟨fun s hs => ?_, fun q hq => ?_, fun u j hu => ?_⟩, ⟨fun s hs => ?_, fun q hq => ?_, fun u j hu => ?_⟩, ⟨fun s hs => ?_, fun q hq => ?_, fun u j hu => ?_⟩, ⟨fun s hs => ?_, fun q hq => ?_, fun u j hu => ?_⟩⟩
  all_goals first
    | (simp [Tm.parts] at hs; exact hs.elim (h.names s) (h'.names s))
    | (simp [Tm.parts] at hq; exact hq.elim (h.nums q) (h'.nums q))
    | (simp [Tm.parts] at hu
       rcases hu with (hu | hu) | (hu | hu)
       · exact h.exps u j (.inl hu)
       · exact h'.exps u j (.inl hu)
       · exact h.exps u j (.inr hu)
       · exact h'.exps u j (.inr hu))
theorem term_to {N : List Str} (hN : N.length ≤ 100) : ∀ (n down room : Nat) (f : Fl), down + 1 ≤ n → room ≤ 1000 → FlOk f → (r_L_term n [.list (strsD N), .int room, .int down] f).To fun d f' => ∃ t : Tm, d = t.D ∧ t.hi ≤ down + 1 ∧ Shp N t ∧ FlOk f'
  | 0, down, room, f, h, _, _ => by omega
  | n + 1, down, room, f, h, hr, hf => by
    show (flowOf 8 (b_L_term (r_L_term n)) _ f).To _
    rw [flow_to]
    unfold b_L_term
    generalize hL0 : startL 8 (U.flow :: List.map U.d [.list (strsD N), PyData.int (room : Int), PyData.int (down : Int)]) = L0
    refine cut (fun l st => ∃ (i : Int) (g : Fl), (0 ≤ i ∧ i < 9) ∧ FlOk g ∧ l = [some .flow, some (.d (.list (strsD N))), some (.d (.int room)), some (.d (.int down)), some (.d (.int i)), none, none, none] ∧ st = ⟨some g, []⟩) ?_ ?_
    · rw [← hL0]
      simp [startL]
      refine (pick_to hf (by omega) (by omega)).mono ?_
      rintro _ f1 ⟨i, rfl, i0, i1, o1⟩
      exact ⟨i, ⟨i0, i1⟩, o1, rfl⟩
    rintro l st ⟨i, g1, ⟨i0, i1⟩, o1, hl, hs⟩
    refine cut (fun l st => (2 ≤ room ∧ 1 ≤ down ∧ 1 ≤ i ∧ (i ≤ 2 ∨ 3 ≤ room)) ∧ l = [some .flow, some (.d (.list (strsD N))), some (.d (.int room)), some (.d (.int down)), some (.d (.int i)), none, none, none] ∧ st = ⟨some g1, []⟩) ?_ ?_
    · simp [hl, hs]
      have lf : (m_L_leaf [PyData.list (strsD N)] g1).To fun d f' => ∃ t : Tm, d = t.D ∧ t.hi ≤ down + 1 ∧ Shp N t ∧ FlOk f' := by
        refine (leaf_to o1 hN).mono ?_
        rintro d f' ⟨t, rfl, ht, S, o⟩
        exact ⟨t, rfl, by omega, S, o⟩
      by_cases q1 : room < 2
      · exact .inr ⟨by omega, lf⟩
      refine .inl ⟨by omega, ?_⟩
      by_cases q2 : down = 0
      · exact .inr ⟨q2, lf⟩
      refine .inl ⟨q2, ?_⟩
      by_cases q3 : i < 1
      · exact .inr ⟨q3, lf⟩
      refine .inl ⟨by omega, ?_⟩
      by_cases q4 : room < 3
      · refine .inr ⟨by omega, ?_⟩
        by_cases q5 : 2 < i
        · exact .inr ⟨q5, lf⟩
        · exact .inl ⟨by omega, by omega, by omega, by omega, by omega⟩
      · exact .inl ⟨by omega, by omega, by omega, by omega, by omega⟩
    clear hl hs
    rintro l st ⟨⟨r2, d1, i2, i3⟩, hl, hs⟩
    refine cut (fun l st => 3 ≤ i ∧ l = [some .flow, some (.d (.list (strsD N))), some (.d (.int room)), some (.d (.int down)), some (.d (.int i)), none, none, none] ∧ st = ⟨some g1, []⟩) ?_ ?_
    · simp [hl, hs]
      by_cases q : 3 ≤ i
      · exact .inl q
      refine .inr ⟨by omega, ?_⟩
      have er : (room : Int) - 1 = ((room - 1 : Nat) : Int) := by omega
      have ed : (down : Int) - 1 = ((down - 1 : Nat) : Int) := by omega
      rw [er, ed]
      have i12 : i = 1 ∨ i = 2 := by omega
      rcases i12 with rfl | rfl
      · refine ⟨_, rfl, ?_⟩
        refine (term_to hN n (down - 1) (room - 1) g1 (by omega) (by omega) o1).mono ?_
        rintro _ f2 ⟨t, rfl, ht, S, o2⟩
        refine (pick_to o2 (by omega) (by omega)).mono ?_
        rintro _ f3 ⟨k, rfl, k0, k1, o3⟩
        obtain ⟨k, rfl⟩ : ∃ j : Nat, k = j := ⟨k.toNat, by omega⟩
        exact ⟨.pow t k, rfl, by simp only [Tm.hi]; omega, (S.one (by omega)).1, o3⟩
      · refine ⟨_, rfl, ?_⟩
        refine (term_to hN n (down - 1) (room - 1) g1 (by omega) (by omega) o1).mono ?_
        rintro _ f2 ⟨t, rfl, ht, S, o2⟩
        refine (pick_to o2 (by omega) (by omega)).mono ?_
        rintro _ f3 ⟨k, rfl, k0, k1, o3⟩
        obtain ⟨k, rfl⟩ : ∃ j : Nat, k = j := ⟨k.toNat, by omega⟩
        exact ⟨.agn t k, rfl, by simp only [Tm.hi]; omega, (S.one (by omega)).2, o3⟩
    clear hl hs
    rintro l st ⟨i4, hl, hs⟩
    simp [hl, hs]
    have er : (room : Int) - 2 = ((room - 2 : Nat) : Int) := by omega
    have ed : (down : Int) - 1 = ((down - 1 : Nat) : Int) := by omega
    rw [er, ed]
    refine (pick_to o1 (by omega) (by omega)).mono ?_
    rintro _ f2 ⟨j, rfl, j0, j1, o2⟩
    obtain ⟨j, rfl⟩ : ∃ k : Nat, j = k := ⟨j.toNat, by omega⟩
    simp
    have e1 : (1 : Int) + (j : Int) = ((1 + j : Nat) : Int) := by omega
    have e2 : (room : Int) - 1 - (1 + (j : Int)) = ((room - 1 - (1 + j) : Nat) : Int) := by omega
    rw [e2, e1]
    refine (term_to hN n (down - 1) (1 + j) f2 (by omega) (by omega) o2).mono ?_
    rintro _ f3 ⟨a, rfl, ha, Sa, o3⟩
    refine (term_to hN n (down - 1) (room - 1 - (1 + j)) f3 (by omega) (by omega) o3).mono ?_
    rintro _ f4 ⟨b, rfl, hb, Sb, o4⟩
    obtain ⟨s1, s2, s3, s4⟩ := Sa.two Sb
    have i38 : i = 3 ∨ i = 4 ∨ i = 5 ∨ i = 6 ∨ i = 7 ∨ i = 8 := by omega
    rcases i38 with rfl | rfl | rfl | rfl | rfl | rfl
    · exact ⟨_, rfl, .plus a b, rfl, by simp only [Tm.hi]; omega, s1, o4⟩
    · exact ⟨_, rfl, .minus a b, rfl, by simp only [Tm.hi]; omega, s2, o4⟩
    · exact ⟨_, rfl, .times a b, rfl, by simp only [Tm.hi]; omega, s3, o4⟩
    · exact ⟨_, rfl, .times a b, rfl, by simp only [Tm.hi]; omega, s3, o4⟩
    · exact ⟨_, rfl, .of a b, rfl, by simp only [Tm.hi]; omega, s4, o4⟩
    · exact ⟨_, rfl, .of a b, rfl, by simp only [Tm.hi]; omega, s4, o4⟩
end NW
namespace NW
open PySem PySem.Spec PyProof.Rows L2
def cb : Nat → Nat
  | 0 => 8
  | h + 1 => 6 * (cb h + 2)
theorem cb_mono : ∀ {a b : Nat}, a ≤ b → cb a ≤ cb b := fun {a b} h => by
  induction h with
  | refl => exact Nat.le_refl _
  | step _ ih =>
    simp only [cb]
    omega
def Bd (c : Nat) (m : Nat × Nat) : Prop := m.1 < 2 ^ c ∧ m.2 < 2 ^ c
theorem Bd.mono {c d : Nat} {m : Nat × Nat} (h : Bd c m) (hc : c ≤ d) : Bd d m := by
  have := Nat.pow_le_pow_right (n := 2) (by omega) hc
  exact ⟨by have := h.1; omega, by have := h.2; omega⟩
theorem mul_bd {a b c d : Nat} (h : a < 2 ^ c) (h' : b < 2 ^ d) : a * b < 2 ^ (c + d) := by
  rw [Nat.pow_add]
  rcases Nat.eq_zero_or_pos a with rfl | ha
  · rw [Nat.zero_mul]; exact Nat.mul_pos (Nat.two_pow_pos _) (Nat.two_pow_pos _)
  · exact Nat.mul_lt_mul_of_le_of_lt (Nat.le_of_lt h) h' (Nat.two_pow_pos _)
theorem add_bd {a b c : Nat} (h : a < 2 ^ c) (h' : b < 2 ^ c) : a + b < 2 ^ (c + 1) := by
  rw [Nat.pow_succ]; omega
theorem hAgain_bd {c : Nat} {m : Nat × Nat} (h : Bd c m) : ∀ k, Bd (k * (c + 1) + 1) (hAgain m k)
  | 0 => by simp [hAgain, Bd]
  | k + 1 => by
    obtain ⟨h1, h2⟩ := hAgain_bd h k
    have q1 := mul_bd h.2 h1
    have q2 := mul_bd h.2 h2
    have e : (k + 1) * (c + 1) + 1 = c + (k * (c + 1) + 1) + 1 := by rw [Nat.add_mul]; omega
    have p := Nat.pow_le_pow_right (n := 2) (by omega) (show c ≤ c + (k * (c + 1) + 1) by omega)
    rw [e]
    exact ⟨add_bd (by have := h.1; omega) q1, by rw [Nat.pow_succ]; simp only [hAgain]; omega⟩
end NW
namespace NW
open PySem PySem.Spec PyProof.Rows L2
end NW
namespace NW
open PySem PySem.Spec PyProof.Rows L2
def rchD (env : List (Str × Nat)) : List (Key × PyData) := env.map fun e => (.inr e.1, .int (e.2 : Nat))
def rchE (env : List (Str × Nat)) (s : Str) : Nat := ((env.find? fun e => decide (e.1 = s)).map (·.2)).getD 0
theorem look_rch {env : List (Str × Nat)} {s : Str} (h : s ∈ env.map (·.1)) : lookI (rchD env) (.inr s) = some (.int (rchE env s : Nat)) := by
  induction env with
  | nil => simp at h
  | cons e env ih =>
    unfold lookI rchD rchE at *
    rw [List.map_cons, List.find?_cons, List.find?_cons]
    by_cases he : e.1 = s
    · simp [he]
    · have h' : s ∈ env.map (·.1) := by
        rw [List.map_cons, List.mem_cons] at h
        exact h.resolve_left fun z => he z.symm
      have hk : ¬ ((Sum.inr e.1 : Key) = Sum.inr s) := fun z => he (by cases z; rfl)
      simp only [decide_eq_false he, decide_eq_false hk]
      exact ih h'
theorem Lmult_to {r k : Nat} {c : Nat} (h : r < 2 ^ c) (hk : k ≤ 6) (hc : c * 7 ≤ 900000) {P : PyData → Prop} (hP : P (.int ((r ^ k : Nat) : Int))) : (m_L_multiplied [.int r, .int k]).To P := by
  unfold m_L_multiplied
  rw [pure_to]
  unfold b_L_multiplied
  simp [startL]
  refine ⟨decide_eq_true (by omega), ?_⟩
  rw [range_map]
  obtain ⟨I, hI⟩ : ∃ I : Nat → NW.Loc → Sto → Prop, ∀ j l s, I j l s ↔ ∃ (v : Option U), l = [some (.d (.int r)), some (.d (.int k)), some (.d (.int ((r ^ j : Nat) : Int))), v] ∧ s = ⟨none, []⟩ := ⟨_, fun _ _ _ => Iff.rfl⟩
  refine for_ix I (fun _ _ _ _ => chk_nil) ((hI _ _ _).mpr ⟨none, by simp, rfl⟩) ?_ ?_
  · rintro j x l s hx h'
    obtain ⟨v, rfl, rfl⟩ := (hI _ _ _).mp h'
    have hj := (List.getElem?_eq_some_iff.mp hx).1
    simp at hj
    have q : r ^ j ≤ (2 ^ c) ^ j := Nat.pow_le_pow_left (Nat.le_of_lt h) j
    rw [← Nat.pow_mul] at q
    have q2 : c * j ≤ c * 6 := Nat.mul_le_mul_left _ (by omega)
    have q3 : 2 ^ (c * j) < 2 ^ (c * 6 + 1) := Nat.pow_lt_pow_right (by omega) (by omega)
    have q4 : 2 ^ c < 2 ^ (c + 1) := Nat.pow_lt_pow_right (by omega) (by omega)
    have mc : mulC ((r ^ j : Nat) : Int) (r : Int) = true := mulC_of (a := c * 6 + 1) (b := c + 1) (by omega) (by omega) (by omega) (by omega) (by omega)
    simp only [Int.natCast_pow] at mc ⊢
    simp [mc]
    refine (hI _ _ _).mpr ⟨some (.d x), ?_, rfl⟩
    simp [Nat.pow_succ]
  · rintro l s h'
    obtain ⟨v, rfl, rfl⟩ := (hI _ _ _).mp h'
    simp at hP ⊢
    exact hP
end NW
namespace NW
open PySem PySem.Spec PyProof.Rows L2
theorem cb5 : ∀ {h : Nat}, h ≤ 5 → cb h ≤ 80868 := fun {h} q => Nat.le_trans (cb_mono q) (by decide)
theorem mulC_nn {a b c d : Nat} (h : a < 2 ^ c) (h' : b < 2 ^ d) (hc : c + d + 2 ≤ 990000) : mulC (a : Int) (b : Int) = true := by
  have p1 : 2 ^ c < 2 ^ (c + 1) := Nat.pow_lt_pow_right (by omega) (by omega)
  have p2 : 2 ^ d < 2 ^ (d + 1) := Nat.pow_lt_pow_right (by omega) (by omega)
  exact mulC_of (a := c + 1) (b := d + 1) (by omega) (by omega) (by omega) (by omega) (by omega)
theorem max3 (a b : Nat) : maxI [(a : Int), (b : Int), 1] = some (((max (max a b) 1 : Nat)) : Int) := by
  unfold maxI
  simp
  omega
end NW
namespace NW
open PySem PySem.Spec PyProof.Rows L2
def hftP (m : Nat × Nat) : PyData := .tuple [.int (m.1 : Nat), .int (m.2 : Nat)]
def hftD (env : List (Str × (Nat × Nat))) : List (Key × PyData) := env.map fun e => (.inr e.1, hftP e.2)
def hftE (env : List (Str × (Nat × Nat))) (s : Str) : Nat × Nat := ((env.find? fun e => decide (e.1 = s)).map (·.2)).getD (0, 0)
theorem look_hft {env : List (Str × (Nat × Nat))} {s : Str} (h : s ∈ env.map (·.1)) : lookI (hftD env) (.inr s) = some (hftP (hftE env s)) := by
  induction env with
  | nil => simp at h
  | cons e env ih =>
    unfold lookI hftD hftE at *
    rw [List.map_cons, List.find?_cons, List.find?_cons]
    by_cases he : e.1 = s
    · simp [he]
    · have h' : s ∈ env.map (·.1) := by
        rw [List.map_cons, List.mem_cons] at h
        exact h.resolve_left fun z => he z.symm
      have hk : ¬ ((Sum.inr e.1 : Key) = Sum.inr s) := fun z => he (by cases z; rfl)
      simp only [decide_eq_false he, decide_eq_false hk]
      exact ih h'
end NW
namespace NW
open PySem PySem.Spec PyProof.Rows L2
theorem parts_trans : ∀ {t u v : Tm}, u ∈ t.parts → v ∈ u.parts → v ∈ t.parts := by
  intro t
  induction t with
  | x => intro u v hu hv; simp [Tm.parts] at hu; subst hu; exact hv
  | num q => intro u v hu hv; simp [Tm.parts] at hu; subst hu; exact hv
  | nm s => intro u v hu hv; simp [Tm.parts] at hu; subst hu; exact hv
  | pow t k ih | agn t k ih =>
    intro u v hu hv
    simp only [Tm.parts, List.mem_cons] at hu
    rcases hu with rfl | hu
    · exact hv
    · simp only [Tm.parts, List.mem_cons]; exact .inr (ih hu hv)
  | plus a b iha ihb | minus a b iha ihb | times a b iha ihb | of a b iha ihb =>
    intro u v hu hv
    simp only [Tm.parts, List.mem_cons, List.mem_append] at hu
    rcases hu with rfl | hu | hu
    · exact hv
    · simp only [Tm.parts, List.mem_cons, List.mem_append]; exact .inr (.inl (iha hu hv))
    · simp only [Tm.parts, List.mem_cons, List.mem_append]; exact .inr (.inr (ihb hu hv))
theorem parts_hi : ∀ {t u : Tm}, u ∈ t.parts → u.hi ≤ t.hi := by
  intro t
  induction t with
  | x => intro u hu; simp [Tm.parts] at hu; subst hu; exact Nat.le_refl _
  | num q => intro u hu; simp [Tm.parts] at hu; subst hu; exact Nat.le_refl _
  | nm s => intro u hu; simp [Tm.parts] at hu; subst hu; exact Nat.le_refl _
  | pow t k ih | agn t k ih =>
    intro u hu
    simp only [Tm.parts, List.mem_cons] at hu
    rcases hu with rfl | hu
    · exact Nat.le_refl _
    · have := ih hu; simp only [Tm.hi]; omega
  | plus a b iha ihb | minus a b iha ihb | times a b iha ihb | of a b iha ihb =>
    intro u hu
    simp only [Tm.parts, List.mem_cons, List.mem_append] at hu
    rcases hu with rfl | hu | hu
    · exact Nat.le_refl _
    · have := iha hu; simp only [Tm.hi]; omega
    · have := ihb hu; simp only [Tm.hi]; omega
theorem Shp.part {N : List Str} {t u : Tm} (h : Shp N t) (hu : u ∈ t.parts) : Shp N u := ⟨fun s hs => h.names s (parts_trans hu hs), fun q hq => h.nums q (parts_trans hu hq), fun v k hv => h.exps v k (hv.imp (parts_trans hu) (parts_trans hu))⟩
def Lite (κ : Str → Nat) (η : Str → Nat × Nat) (t : Tm) : Prop := ∀ u, u ∈ t.parts → u.reach κ ≤ 24 ∧ (u.heft η).1 + 3 * (u.heft η).2 ≤ 150
end NW
namespace NW
open PySem PySem.Spec PyProof.Rows L2
theorem heft_congr {η η' : Str → Nat × Nat} : ∀ {t : Tm}, (∀ s, Tm.nm s ∈ t.parts → η s = η' s) → t.heft η = t.heft η' := by
  intro t
  induction t with
  | x => intro _; rfl
  | num q => intro _; rfl
  | nm s => intro h; exact h s (by simp [Tm.parts])
  | pow t k ih | agn t k ih =>
    intro h
    have := ih fun s hs => h s (by simp [Tm.parts, hs])
    simp only [Tm.heft, this]
  | plus a b iha ihb | minus a b iha ihb | times a b iha ihb | of a b iha ihb =>
    intro h
    have h1 := iha fun s hs => h s (by simp [Tm.parts, hs])
    have h2 := ihb fun s hs => h s (by simp [Tm.parts, hs])
    simp only [Tm.heft, h1, h2]
theorem Fine1.congr {env : List (Str × Pol)} {η η' : Str → Nat × Nat} {t : Tm} (h : Fine1 env η t) (e : ∀ s, s ∈ env.map (·.1) → η s = η' s) : Fine1 env η' t := by
  refine ⟨fun u hu => ?_, h.names, h.nums, h.exps⟩
  rw [← heft_congr (η := η) (η' := η') (t := u) fun s hs => e s (h.names s (parts_trans hu hs))]
  exact h.lite u hu
theorem Good.congr {η η' : Str → Nat × Nat} : ∀ {R : List (Str × Tm)} {env : List (Str × Pol)}, (∀ s, s ∈ env.map (·.1) → η s = η' s) → (∀ r, r ∈ R → η r.1 = η' r.1) → Good η env R → Good η' env R
  | [], _, _, _, _ => trivial
  | r :: R, env, he, hr, ⟨g1, g2, g3, g4, g5⟩ => by
    refine ⟨g1, g2.congr he, g3, ?_, Good.congr (fun s hs => ?_) (fun x hx => hr x (by simp [hx])) g5⟩
    · rw [← hr r (by simp), g4]
      exact heft_congr fun s hs => he s (g2.names s hs)
    · rw [List.map_append, List.mem_append] at hs
      rcases hs with hs | hs
      · exact he s hs
      · have : s = r.1 := by simpa using hs
        rw [this]; exact hr r (by simp)
theorem run_names : ∀ {R : List (Str × Tm)} {env : List (Str × Pol)}, (runE env R).map (·.1) = env.map (·.1) ++ R.map (·.1)
  | [], env => by simp [runE]
  | r :: R, env => by rw [runE, run_names (R := R)]; simp
theorem Good.snoc {η : Str → Nat × Nat} {s : Str} {t : Tm} : ∀ {R : List (Str × Tm)} {env : List (Str × Pol)}, Good η env R → (∀ e, e ∈ runE env R → e.1 ≠ s) → Fine1 (runE env R) η t → t.hi ≤ 8 → η s = t.heft η → Good η env (R ++ [(s, t)])
  | [], env, _, h1, h2, h3, h4 => ⟨h1, h2, h3, h4, trivial⟩
  | r :: R, env, ⟨g1, g2, g3, g4, g5⟩, h1, h2, h3, h4 => ⟨g1, g2, g3, g4, Good.snoc (R := R) g5 h1 h2 h3 h4⟩
theorem Good.left {η : Str → Nat × Nat} : ∀ {R S : List (Str × Tm)} {env : List (Str × Pol)}, Good η env (R ++ S) → Good η env R
  | [], _, _, _ => trivial
  | r :: R, S, env, ⟨g1, g2, g3, g4, g5⟩ => ⟨g1, g2, g3, g4, Good.left (R := R) (S := S) g5⟩
theorem hftE_old {env : List (Str × (Nat × Nat))} {e : Str × (Nat × Nat)} {s : Str} (h : s ∈ env.map (·.1)) : hftE (env ++ [e]) s = hftE env s := by
  unfold hftE
  rw [List.find?_append]
  obtain ⟨f, hf, rfl⟩ := List.mem_map.mp h
  cases e1 : env.find? fun e => decide (e.1 = f.1) with
  | some g => rfl
  | none =>
    have := List.find?_eq_none.mp e1 f hf
    simp at this
theorem hftE_new {env : List (Str × (Nat × Nat))} {s : Str} {p : Nat × Nat} (h : s ∉ env.map (·.1)) : hftE (env ++ [(s, p)]) s = p := by
  unfold hftE
  rw [List.find?_append]
  have : env.find? (fun e => decide (e.1 = s)) = none := List.find?_eq_none.mpr fun e he => by
    intro z
    exact h (List.mem_map.mpr ⟨e, he, by simpa using z⟩)
  rw [this]
  simp
theorem rchE_old {env : List (Str × Nat)} {e : Str × Nat} {s : Str} (h : s ∈ env.map (·.1)) : rchE (env ++ [e]) s = rchE env s := by
  unfold rchE
  rw [List.find?_append]
  obtain ⟨f, hf, rfl⟩ := List.mem_map.mp h
  cases e1 : env.find? fun e => decide (e.1 = f.1) with
  | some g => rfl
  | none =>
    have := List.find?_eq_none.mp e1 f hf
    simp at this
theorem rchE_new {env : List (Str × Nat)} {s : Str} {p : Nat} (h : s ∉ env.map (·.1)) : rchE (env ++ [(s, p)]) s = p := by
  unfold rchE
  rw [List.find?_append]
  have : env.find? (fun e => decide (e.1 = s)) = none := List.find?_eq_none.mpr fun e he => by
    intro z
    exact h (List.mem_map.mpr ⟨e, he, by simpa using z⟩)
  rw [this]
  simp
def RGood : List (Str × Nat) → List (Str × Tm) → Prop
  | _, [] => True
  | er, r :: R => (∀ e, e ∈ er → e.1 ≠ r.1) ∧ Shp (er.map (·.1)) r.2 ∧ r.2.hi ≤ 6 ∧ (∀ u, u ∈ r.2.parts → u.reach (rchE er) ≤ 24) ∧ RGood (er ++ [(r.1, r.2.reach (rchE er))]) R
def runR : List (Str × Nat) → List (Str × Tm) → List (Str × Nat)
  | er, [] => er
  | er, r :: R => runR (er ++ [(r.1, r.2.reach (rchE er))]) R
theorem runR_snoc {s : Str} {t : Tm} : ∀ {R : List (Str × Tm)} {er : List (Str × Nat)}, runR er (R ++ [(s, t)]) = runR er R ++ [(s, t.reach (rchE (runR er R)))]
  | [], _ => rfl
  | r :: R, er => runR_snoc (R := R)
theorem RGood.snoc {s : Str} {t : Tm} : ∀ {R : List (Str × Tm)} {er : List (Str × Nat)}, RGood er R → (∀ e, e ∈ runR er R → e.1 ≠ s) → Shp ((runR er R).map (·.1)) t → t.hi ≤ 6 → (∀ u, u ∈ t.parts → u.reach (rchE (runR er R)) ≤ 24) → RGood er (R ++ [(s, t)])
  | [], er, _, h1, h2, h3, h4 => ⟨h1, h2, h3, h4, trivial⟩
  | r :: R, er, ⟨g1, g2, g3, g4, g5⟩, h1, h2, h3, h4 => ⟨g1, g2, g3, g4, RGood.snoc (R := R) g5 h1 h2 h3 h4⟩
theorem reach_pos {κ : Str → Nat} : ∀ t : Tm, (∀ s, Tm.nm s ∈ t.parts → 1 ≤ κ s) → 1 ≤ t.reach κ := by
  intro t
  induction t with
  | x => intro _; exact Nat.le_refl _
  | num q => intro _; exact Nat.le_refl _
  | nm s => intro h; exact h s (by simp [Tm.parts])
  | pow t k ih =>
    intro h
    have := ih fun s hs => h s (by simp [Tm.parts, hs])
    simp only [Tm.reach]
    split
    · rename_i hk; exact Nat.mul_pos this hk
    · exact Nat.le_refl _
  | agn t k ih => intro h; simp only [Tm.reach]; split <;> omega
  | plus a b iha ihb | minus a b iha ihb => intro h; simp only [Tm.reach]; omega
  | times a b iha ihb =>
    intro h
    have := iha fun s hs => h s (by simp [Tm.parts, hs])
    simp only [Tm.reach]; omega
  | of a b iha ihb =>
    intro h
    have h1 := iha fun s hs => h s (by simp [Tm.parts, hs])
    have h2 := ihb fun s hs => h s (by simp [Tm.parts, hs])
    simp only [Tm.reach]
    exact Nat.mul_pos h1 h2
structure Rws (R : List (Str × Tm)) (er : List (Str × Nat)) (eh : List (Str × (Nat × Nat))) : Prop where
  nr : er.map (·.1) = R.map (·.1)
  nh : eh.map (·.1) = R.map (·.1)
  hr : ∀ s, s ∈ er.map (·.1) → rchE er s ≤ 24
  hh : ∀ s, s ∈ eh.map (·.1) → (hftE eh s).1 + 3 * (hftE eh s).2 ≤ 150
  good : Good (hftE eh) [] R
  rg : RGood [] R
  re : runR [] R = er
  r1 : ∀ s, s ∈ er.map (·.1) → 1 ≤ rchE er s
theorem Rws.nil : Rws [] [] [] := ⟨rfl, rfl, by simp, by simp, trivial, trivial, rfl, by simp⟩
theorem Rws.snoc {R : List (Str × Tm)} {er : List (Str × Nat)} {eh : List (Str × (Nat × Nat))} (h : Rws R er eh) {s : Str} {t : Tm} (hs : s ∉ R.map (·.1)) (F : Shp (R.map (·.1)) t) (hi : t.hi ≤ 6) (L : Lite (rchE er) (hftE eh) t) :
    Rws (R ++ [(s, t)]) (er ++ [(s, t.reach (rchE er))]) (eh ++ [(s, t.heft (hftE eh))]) := by
  obtain ⟨nr, nh, hr, hh, good, rg, re, r1⟩ := h
  have old : ∀ u, u ∈ R.map (·.1) → hftE (eh ++ [(s, t.heft (hftE eh))]) u = hftE eh u := fun u hu => hftE_old (by rw [nh]; exact hu)
  have new := hftE_new (env := eh) (p := t.heft (hftE eh)) (by rw [nh]; exact hs)
  have l0 := L t (parts_self t)
  have e0 : (runE [] R).map (·.1) = R.map (·.1) := by rw [run_names]; rfl
  refine ⟨by simp [nr], by simp [nh], fun u hu => ?_, fun u hu => ?_, ?_, ?_, ?_, fun u hu => ?_⟩
  · rw [List.map_append, List.mem_append] at hu
    by_cases hm : u ∈ er.map (·.1)
    · rw [rchE_old hm]; exact hr u hm
    · have : u = s := by
        rcases hu with hu | hu
        · exact absurd hu hm
        · simpa using hu
      subst this
      rw [rchE_new hm]; exact l0.1
  · rw [List.map_append, List.mem_append] at hu
    by_cases hm : u ∈ eh.map (·.1)
    · rw [hftE_old hm]; exact hh u hm
    · have : u = s := by
        rcases hu with hu | hu
        · exact absurd hu hm
        · simpa using hu
      subst this
      rw [hftE_new hm]; exact l0.2
  · have g1 : Good (hftE (eh ++ [(s, t.heft (hftE eh))])) [] R := good.congr (fun u hu => by simp at hu) fun r hr => (old r.1 (List.mem_map.mpr ⟨r, hr, rfl⟩)).symm
    have fe : Fine1 (runE [] R) (hftE eh) t := ⟨fun u hu => (L u hu).2, fun u hu => by rw [e0]; exact F.names u hu, F.nums, F.exps⟩
    refine g1.snoc (fun e he z => hs ?_) (fe.congr fun u hu => (old u (by rw [← e0]; exact hu)).symm) (by omega) ?_
    · rw [← e0, ← z]; exact List.mem_map.mpr ⟨e, he, rfl⟩
    · rw [new]
      exact heft_congr fun u hu => (old u (F.names u hu)).symm
  · refine rg.snoc (fun e he z => hs ?_) (by rw [re, nr]; exact F) hi fun u hu => by rw [re]; exact (L u hu).1
    rw [re] at he
    rw [← nr, ← z]; exact List.mem_map.mpr ⟨e, he, rfl⟩
  · rw [runR_snoc, re]
  · rw [List.map_append, List.mem_append] at hu
    by_cases hm : u ∈ er.map (·.1)
    · rw [rchE_old hm]; exact r1 u hm
    · have : u = s := by
        rcases hu with hu | hu
        · exact absurd hu hm
        · simpa using hu
      subst this
      rw [rchE_new hm]
      exact reach_pos t fun v hv => r1 v (by rw [nr]; exact F.names v hv)
end NW
namespace NW
open PySem PySem.Spec PyProof.Rows L2
theorem Shp.mono {N M : List Str} {t : Tm} (h : Shp N t) (hs : ∀ s, s ∈ N → s ∈ M) : Shp M t := ⟨fun s z => hs s (h.names s z), h.nums, h.exps⟩
theorem leaf_lite {κ : Str → Nat} {η : Str → Nat × Nat} {t : Tm} (h1 : t.hi = 1) (S : Shp [] t) : t = .x ∨ ∃ q, t = .num q := by
  cases t with
  | x => exact .inl rfl
  | num q => exact .inr ⟨q, rfl⟩
  | nm s => have := S.names s (by simp [Tm.parts]); simp at this
  | pow t k => simp [Tm.hi] at h1; cases t <;> simp [Tm.hi] at h1
  | agn t k => simp [Tm.hi] at h1; cases t <;> simp [Tm.hi] at h1
  | plus a b => simp [Tm.hi] at h1; cases a <;> simp [Tm.hi] at h1 <;> omega
  | minus a b => simp [Tm.hi] at h1; cases a <;> simp [Tm.hi] at h1 <;> omega
  | times a b => simp [Tm.hi] at h1; cases a <;> simp [Tm.hi] at h1 <;> omega
  | of a b => simp [Tm.hi] at h1; cases a <;> simp [Tm.hi] at h1 <;> omega
def xxT : Tm := .times .x .x
theorem spare_ok {κ : Str → Nat} {η : Str → Nat × Nat} {t u : Tm} (h1 : t.hi = 1) (S : Shp [] t) (hu : u = .x ∨ u = xxT) : Lite κ η (.plus t u) ∧ Shp [] (.plus t u) ∧ (Tm.plus t u).hi ≤ 6 := by
  have ht := leaf_lite (κ := κ) (η := η) h1 S
  have Su : Shp [] u := by rcases hu with rfl | rfl <;> exact ⟨by simp [Tm.parts, xxT], by simp [Tm.parts, xxT], by simp [Tm.parts, xxT]⟩
  refine ⟨?_, (S.two Su).1, ?_⟩
  · intro v hv
    rcases ht with rfl | ⟨q, rfl⟩ <;> rcases hu with rfl | rfl <;> simp [Tm.parts, xxT] at hv
    · rcases hv with rfl | rfl <;> simp [Tm.reach, Tm.heft]
    · rcases hv with rfl | rfl | rfl | rfl <;> simp [Tm.reach, Tm.heft]
    · rcases hv with rfl | rfl | rfl <;> simp [Tm.reach, Tm.heft]
    · rcases hv with rfl | rfl | rfl | rfl <;> simp [Tm.reach, Tm.heft]
  · rcases hu with rfl | rfl <;> simp [Tm.hi, h1, xxT]
theorem take_strs {ws : List Str} {k : Nat} : (strsD ws).take k = strsD (ws.take k) := by simp [strsD, List.map_take]
theorem enum_strs {ws : List Str} {k : Nat} {x : PyData} (h : (enumD (strsD ws))[k]? = some x) : ∃ t, ws[k]? = some t ∧ x = .tuple [.int (k : Nat), .str t] := by
  obtain ⟨y, h1, rfl⟩ := enumD_get h
  unfold strsD at h1
  rw [List.getElem?_map] at h1
  cases e : ws[k]? with
  | none => rw [e] at h1; cases h1
  | some t => rw [e] at h1; cases h1; exact ⟨t, rfl, rfl⟩
end NW
namespace NW
open PySem PySem.Spec PyProof.Rows L2
def Tm.reach2 (κ : Str → Nat) : Tm → Nat
  | .x => 1
  | .num _ => 1
  | .nm s => κ s
  | .pow t k => t.reach2 κ * max 1 k
  | .agn t k => if 0 < k then max k (t.reach2 κ ^ k) else 1
  | .plus a b => max (max (a.reach2 κ) (b.reach2 κ)) 1
  | .minus a b => max (max (a.reach2 κ) (b.reach2 κ)) 1
  | .times a b => a.reach2 κ + b.reach2 κ
  | .of a b => a.reach2 κ * b.reach2 κ
def Tm.heft2 (η : Str → Nat × Nat) : Tm → Nat × Nat
  | .x => (0, 1)
  | .num _ => (3, 0)
  | .nm s => η s
  | .pow t k => ((t.heft2 η).1 * max 1 k + 1, (t.heft2 η).2 * max 1 k)
  | .agn t k => hAgain (t.heft2 η) k
  | .plus a b => ((a.heft2 η).1 + (b.heft2 η).1 + 1, (a.heft2 η).2 + (b.heft2 η).2)
  | .minus a b => ((a.heft2 η).1 + (b.heft2 η).1 + 1, (a.heft2 η).2 + (b.heft2 η).2)
  | .times a b => ((a.heft2 η).1 + (b.heft2 η).1 + 1, (a.heft2 η).2 + (b.heft2 η).2)
  | .of a b => (max ((a.heft2 η).1 + (a.heft2 η).2 * (b.heft2 η).1) (b.heft2 η).1, max ((a.heft2 η).2 * (b.heft2 η).2) (b.heft2 η).2)
def Tm.asks (α : Str → Nat) : Tm → Nat
  | .x => 1
  | .num _ => 1
  | .nm s => 1 + α s
  | .pow t _ => 1 + t.asks α
  | .agn t k => 1 + t.asks α * k
  | .plus a b => 1 + (a.asks α + b.asks α)
  | .minus a b => 1 + (a.asks α + b.asks α)
  | .times a b => 1 + (a.asks α + b.asks α)
  | .of a b => 1 + (a.asks α + b.asks α)
theorem reach2_bd {κ : Str → Nat} : ∀ t : Tm, (∀ s, Tm.nm s ∈ t.parts → κ s < 2 ^ 8) → (∀ u k, (Tm.pow u k ∈ t.parts ∨ Tm.agn u k ∈ t.parts) → k ≤ 6) → t.reach2 κ < 2 ^ (cb t.hi)
  | .x, _, _ => by show 1 < 2 ^ cb 1; decide
  | .num q, _, _ => by show 1 < 2 ^ cb 1; decide
  | .nm s, hη, _ => Nat.lt_of_lt_of_le (hη s (by simp [Tm.parts])) (Nat.pow_le_pow_right (by omega) (by show 8 ≤ cb 1; decide))
  | .pow t k, hη, he => by
    have h1 := reach2_bd t (fun s h => hη s (by simp [Tm.parts, h])) (fun u k h => he u k (by simp [Tm.parts]; rcases h with h | h <;> simp [h]))
    have k6 := he t k (by simp [Tm.parts])
    show _ < 2 ^ (6 * (cb t.hi + 2))
    generalize cb t.hi = c at *
    have := mul_bd h1 (show max 1 k < 2 ^ 3 by omega)
    have p := Nat.pow_le_pow_right (n := 2) (by omega) (show c + 3 ≤ 6 * (c + 2) by omega)
    simp only [Tm.reach2]
    omega
  | .agn t k, hη, he => by
    have h1 := reach2_bd t (fun s h => hη s (by simp [Tm.parts, h])) (fun u k h => he u k (by simp [Tm.parts]; rcases h with h | h <;> simp [h]))
    have k6 := he t k (by simp [Tm.parts])
    show _ < 2 ^ (6 * (cb t.hi + 2))
    generalize cb t.hi = c at *
    have q : t.reach2 κ ^ k ≤ (2 ^ c) ^ k := Nat.pow_le_pow_left (Nat.le_of_lt h1) k
    rw [← Nat.pow_mul] at q
    have q2 : c * k ≤ c * 6 := Nat.mul_le_mul_left _ k6
    have p : 2 ^ (c * k) < 2 ^ (6 * (c + 2)) := Nat.pow_lt_pow_right (by omega) (by omega)
    have p2 : 2 ^ 3 ≤ 2 ^ (6 * (c + 2)) := Nat.pow_le_pow_right (by omega) (by omega)
    simp only [Tm.reach2]
    split <;> omega
  | .plus a b, hη, he | .minus a b, hη, he | .times a b, hη, he | .of a b, hη, he => by
    have h1 := Nat.lt_of_lt_of_le (reach2_bd a (fun s h => hη s (by simp [Tm.parts, h])) (fun u k h => he u k (by simp [Tm.parts]; rcases h with h | h <;> simp [h]))) (Nat.pow_le_pow_right (by omega) (cb_mono (show a.hi ≤ max a.hi b.hi by omega)))
    have h2 := Nat.lt_of_lt_of_le (reach2_bd b (fun s h => hη s (by simp [Tm.parts, h])) (fun u k h => he u k (by simp [Tm.parts]; rcases h with h | h <;> simp [h]))) (Nat.pow_le_pow_right (by omega) (cb_mono (show b.hi ≤ max a.hi b.hi by omega)))
    show _ < 2 ^ (6 * (cb (max a.hi b.hi) + 2))
    generalize cb (max a.hi b.hi) = c at *
    have p2 : 2 ^ 1 ≤ 2 ^ (6 * (c + 2)) := Nat.pow_le_pow_right (by omega) (by omega)
    have p3 := Nat.pow_le_pow_right (n := 2) (by omega) (show c + 1 ≤ 6 * (c + 2) by omega)
    have p4 := Nat.pow_le_pow_right (n := 2) (by omega) (show c + c ≤ 6 * (c + 2) by omega)
    have s1 := add_bd h1 h2
    have s2 := mul_bd h1 h2
    simp only [Tm.reach2]
    omega
theorem asks_bd {α : Str → Nat} : ∀ t : Tm, (∀ s, Tm.nm s ∈ t.parts → α s < 2 ^ 10) → (∀ u k, (Tm.pow u k ∈ t.parts ∨ Tm.agn u k ∈ t.parts) → k ≤ 6) → t.asks α < 2 ^ (cb t.hi)
  | .x, _, _ => by show 1 < 2 ^ cb 1; decide
  | .num q, _, _ => by show 1 < 2 ^ cb 1; decide
  | .nm s, hη, _ => by
    have := hη s (by simp [Tm.parts])
    have p : 2 ^ 11 ≤ 2 ^ cb 1 := Nat.pow_le_pow_right (by omega) (by decide)
    show 1 + α s < 2 ^ cb 1
    omega
  | .pow t k, hη, he => by
    have h1 := asks_bd t (fun s h => hη s (by simp [Tm.parts, h])) (fun u k h => he u k (by simp [Tm.parts]; rcases h with h | h <;> simp [h]))
    show _ < 2 ^ (6 * (cb t.hi + 2))
    generalize cb t.hi = c at *
    have p := Nat.pow_le_pow_right (n := 2) (by omega) (show c + 1 ≤ 6 * (c + 2) by omega)
    have p0 := Nat.two_pow_pos c
    have p1 : 2 ^ (c + 1) = 2 ^ c * 2 := Nat.pow_succ ..
    simp only [Tm.asks]
    omega
  | .agn t k, hη, he => by
    have h1 := asks_bd t (fun s h => hη s (by simp [Tm.parts, h])) (fun u k h => he u k (by simp [Tm.parts]; rcases h with h | h <;> simp [h]))
    have k6 := he t k (by simp [Tm.parts])
    show _ < 2 ^ (6 * (cb t.hi + 2))
    generalize cb t.hi = c at *
    have := mul_bd h1 (show k < 2 ^ 3 by omega)
    have p := Nat.pow_le_pow_right (n := 2) (by omega) (show c + 4 ≤ 6 * (c + 2) by omega)
    have p1 : 2 ^ (c + 4) = 2 ^ (c + 3) * 2 := Nat.pow_succ ..
    have p0 := Nat.two_pow_pos (c + 3)
    simp only [Tm.asks]
    omega
  | .plus a b, hη, he | .minus a b, hη, he | .times a b, hη, he | .of a b, hη, he => by
    have h1 := Nat.lt_of_lt_of_le (asks_bd a (fun s h => hη s (by simp [Tm.parts, h])) (fun u k h => he u k (by simp [Tm.parts]; rcases h with h | h <;> simp [h]))) (Nat.pow_le_pow_right (by omega) (cb_mono (show a.hi ≤ max a.hi b.hi by omega)))
    have h2 := Nat.lt_of_lt_of_le (asks_bd b (fun s h => hη s (by simp [Tm.parts, h])) (fun u k h => he u k (by simp [Tm.parts]; rcases h with h | h <;> simp [h]))) (Nat.pow_le_pow_right (by omega) (cb_mono (show b.hi ≤ max a.hi b.hi by omega)))
    show _ < 2 ^ (6 * (cb (max a.hi b.hi) + 2))
    generalize cb (max a.hi b.hi) = c at *
    have p3 := Nat.pow_le_pow_right (n := 2) (by omega) (show c + 2 ≤ 6 * (c + 2) by omega)
    have p1 : 2 ^ (c + 2) = 2 ^ (c + 1) * 2 := Nat.pow_succ ..
    have p0 := Nat.two_pow_pos (c + 1)
    have s1 := add_bd h1 h2
    simp only [Tm.asks]
    omega
theorem heft2_bd {η : Str → Nat × Nat} : ∀ t : Tm, (∀ s, Tm.nm s ∈ t.parts → Bd 8 (η s)) → (∀ u k, (Tm.pow u k ∈ t.parts ∨ Tm.agn u k ∈ t.parts) → k ≤ 6) → Bd (cb t.hi) (t.heft2 η)
  | .x, _, _ => ⟨Nat.two_pow_pos _, by show 1 < 2 ^ cb 1; decide⟩
  | .num q, _, _ => ⟨by show 3 < 2 ^ cb 1; decide, Nat.two_pow_pos _⟩
  | .nm s, hη, _ => (hη s (by simp [Tm.parts])).mono (by show 8 ≤ cb 1; decide)
  | .pow t k, hη, he => by
    have h1 := heft2_bd t (fun s h => hη s (by simp [Tm.parts, h])) (fun u k h => he u k (by simp [Tm.parts]; rcases h with h | h <;> simp [h]))
    have k6 := he t k (by simp [Tm.parts])
    show Bd (6 * (cb t.hi + 2)) _
    generalize cb t.hi = c at *
    refine Bd.mono (c := c + 4) ⟨?_, ?_⟩ (by omega)
    · have := mul_bd h1.1 (show max 1 k < 2 ^ 3 by omega)
      have p := Nat.two_pow_pos (c + 3)
      simp only [Tm.heft2]
      rw [show c + 4 = c + 3 + 1 by omega, Nat.pow_succ]
      omega
    · have := mul_bd h1.2 (show max 1 k < 2 ^ 3 by omega)
      simp only [Tm.heft2]
      rw [show c + 4 = c + 3 + 1 by omega, Nat.pow_succ]
      omega
  | .agn t k, hη, he => by
    have h1 := heft2_bd t (fun s h => hη s (by simp [Tm.parts, h])) (fun u k h => he u k (by simp [Tm.parts]; rcases h with h | h <;> simp [h]))
    have k6 := he t k (by simp [Tm.parts])
    show Bd (6 * (cb t.hi + 2)) _
    generalize cb t.hi = c at *
    have := Nat.mul_le_mul_right (c + 1) k6
    exact (hAgain_bd h1 k).mono (c := k * (c + 1) + 1) (by omega)
  | .plus a b, hη, he | .minus a b, hη, he | .times a b, hη, he => by
    have h1 := (heft2_bd a (fun s h => hη s (by simp [Tm.parts, h])) (fun u k h => he u k (by simp [Tm.parts]; rcases h with h | h <;> simp [h]))).mono (cb_mono (show a.hi ≤ max a.hi b.hi by omega))
    have h2 := (heft2_bd b (fun s h => hη s (by simp [Tm.parts, h])) (fun u k h => he u k (by simp [Tm.parts]; rcases h with h | h <;> simp [h]))).mono (cb_mono (show b.hi ≤ max a.hi b.hi by omega))
    show Bd (6 * (cb (max a.hi b.hi) + 2)) _
    generalize cb (max a.hi b.hi) = c at *
    refine Bd.mono (c := c + 2) ⟨?_, ?_⟩ (by omega)
    · have := add_bd h1.1 h2.1
      have p := Nat.two_pow_pos (c + 1)
      simp only [Tm.heft2]
      rw [show c + 2 = c + 1 + 1 by omega, Nat.pow_succ]
      omega
    · have := add_bd h1.2 h2.2
      simp only [Tm.heft2]
      rw [show c + 2 = c + 1 + 1 by omega, Nat.pow_succ]
      omega
  | .of a b, hη, he => by
    have h1 := (heft2_bd a (fun s h => hη s (by simp [Tm.parts, h])) (fun u k h => he u k (by simp [Tm.parts]; rcases h with h | h <;> simp [h]))).mono (cb_mono (show a.hi ≤ max a.hi b.hi by omega))
    have h2 := (heft2_bd b (fun s h => hη s (by simp [Tm.parts, h])) (fun u k h => he u k (by simp [Tm.parts]; rcases h with h | h <;> simp [h]))).mono (cb_mono (show b.hi ≤ max a.hi b.hi by omega))
    show Bd (6 * (cb (max a.hi b.hi) + 2)) _
    generalize cb (max a.hi b.hi) = c at *
    refine Bd.mono (c := c + c + 1) ⟨?_, ?_⟩ (by omega)
    · have q := mul_bd h1.2 h2.1
      have p := Nat.pow_le_pow_right (n := 2) (by omega) (show c ≤ c + c by omega)
      have r := add_bd (show (a.heft2 η).1 < 2 ^ (c + c) by have := h1.1; omega) q
      have p' := Nat.pow_le_pow_right (n := 2) (by omega) (show c ≤ c + c + 1 by omega)
      have := h2.1
      simp only [Tm.heft2]
      omega
    · have q := mul_bd h1.2 h2.2
      have p' := Nat.pow_le_pow_right (n := 2) (by omega) (show c + c ≤ c + c + 1 by omega)
      have p := Nat.pow_le_pow_right (n := 2) (by omega) (show c ≤ c + c + 1 by omega)
      have := h2.2
      simp only [Tm.heft2]
      omega
end NW
namespace NW
open PySem PySem.Spec PyProof.Rows L2
theorem Lreach2_to {env : List (Str × Nat)} (hE : ∀ s, s ∈ env.map (·.1) → rchE env s < 2 ^ 8) : ∀ (n : Nat) (t : Tm), t.hi ≤ n → t.hi ≤ 6 → Shp (env.map (·.1)) t → ∀ P : PyData → Prop, P (.int (t.reach2 (rchE env) : Nat)) → (r_L_reach_2 n [.d t.D, .dct (rchD env)]).To P
  | 0, t, hn, _, _, P, hP => by
    have : 1 ≤ t.hi := by cases t <;> simp [Tm.hi]
    omega
  | n + 1, t, hn, h6, F, P, hP => by
    show (pureU 4 (b_L_reach_2 (r_L_reach_2 n)) _).To P
    rw [pureU_toT]
    unfold b_L_reach_2
    have sub : ∀ u, u ∈ t.inn → u.hi ≤ n ∧ u.hi ≤ 5 ∧ Shp (env.map (·.1)) u := fun u hu => by
      have hp : ∀ v, v ∈ u.parts → v ∈ t.parts := fun v hv => by rw [parts_inn]; exact List.mem_cons_of_mem _ (List.mem_flatMap.mpr ⟨u, hu, hv⟩)
      exact ⟨by have := inn_hi hu; omega, by have := inn_hi hu; omega, fun s h => F.names s (hp _ h), fun q h => F.nums q (hp _ h), fun v k h => F.exps v k (h.imp (hp _) (hp _))⟩
    have bdd : ∀ u, u ∈ t.inn → u.reach2 (rchE env) < 2 ^ 80868 := fun u hu => by
      obtain ⟨h1, h2, h3⟩ := sub u hu
      have := reach2_bd (κ := rchE env) u (fun s h => hE s (h3.names s h)) h3.exps
      exact Nat.lt_of_lt_of_le this (Nat.pow_le_pow_right (by omega) (cb5 h2))
    cases t with
    | x =>
      simp [startL, Tm.D, to_inT, flatD]
      refine Linner_to (t := .x) ?_
      refine ⟨_, _, rfl, by simp [Tm.inn], ?_⟩
      refine lc_mapA (as := ([] : List Tm)) (f := Tm.D) (g := fun u => PyData.int ((u.reach2 (rchE env) : Nat) : Int)) chk_nil (fun u hu => by simp at hu) ?_
      simp
      refine to_maxL (ns := [1]) |>.mpr ⟨1, by decide, ?_⟩
      exact hP
    | num q =>
      simp [startL, Tm.D, to_inT, flatD]
      refine Linner_to (t := .num q) ?_
      refine ⟨_, _, rfl, by simp [Tm.inn], ?_⟩
      refine lc_mapA (as := ([] : List Tm)) (f := Tm.D) (g := fun u => PyData.int ((u.reach2 (rchE env) : Nat) : Int)) chk_nil (fun u hu => by simp at hu) ?_
      simp
      refine to_maxL (ns := [1]) |>.mpr ⟨1, by decide, ?_⟩
      exact hP
    | nm s =>
      simp [startL, Tm.D, to_inT, flatD]
      exact ⟨_, look_rch (F.names s (by simp [Tm.parts])), hP⟩
    | pow t k =>
      simp [startL, Tm.D, to_inT, flatD]
      refine Linner_to (t := .pow t k) ?_
      refine ⟨_, _, rfl, by simp [Tm.inn], ?_⟩
      refine lc_mapA (f := Tm.D) (g := fun u => PyData.int ((u.reach2 (rchE env) : Nat) : Int)) chk_nil (fun u hu => ?_) ?_
      · obtain ⟨h1, h2, h3⟩ := sub u hu
        simp [wipeL]
        exact callU_to rfl rfl (Lreach2_to hE n u h1 (by omega) h3 _ ⟨rfl, rfl⟩)
      · simp only [Tm.inn, List.map_cons, List.map_nil]
        have bt := bdd t (by simp [Tm.inn])
        have k6 := F.exps t k (by simp [Tm.parts])
        simp
        have em : (if (1 : Int) < (k : Int) then (k : Int) else 1) = ((max 1 k : Nat) : Int) := by
          by_cases h : 1 < k
          · rw [if_pos (by omega), Nat.max_eq_right (by omega)]
          · rw [if_neg (by omega), Nat.max_eq_left (by omega)]
            rfl
        rw [em]
        simp only [Tm.reach2, Int.natCast_mul] at hP
        refine ⟨mulC_nn bt (show max 1 k < 2 ^ 3 by omega) (by omega), ?_⟩
        exact hP
    | agn t k =>
      simp [startL, Tm.D, to_inT, flatD]
      refine Linner_to (t := .agn t k) ?_
      refine ⟨_, _, rfl, by simp [Tm.inn], ?_⟩
      refine lc_mapA (f := Tm.D) (g := fun u => PyData.int ((u.reach2 (rchE env) : Nat) : Int)) chk_nil (fun u hu => ?_) ?_
      · obtain ⟨h1, h2, h3⟩ := sub u hu
        simp [wipeL]
        exact callU_to rfl rfl (Lreach2_to hE n u h1 (by omega) h3 _ ⟨rfl, rfl⟩)
      · simp only [Tm.inn, List.map_cons, List.map_nil]
        have bt := bdd t (by simp [Tm.inn])
        have k6 := F.exps t k (by simp [Tm.parts])
        simp
        refine Lmult_to bt k6 (by omega) ?_
        refine to_max2.mpr ?_
        refine ⟨_, ⟨_, rfl, rfl⟩, by simp, ?_⟩
        have em : (if ((t.reach2 (rchE env) ^ k : Nat) : Int) > (k : Int) then ((t.reach2 (rchE env) ^ k : Nat) : Int) else (k : Int)) = ((max k (t.reach2 (rchE env) ^ k) : Nat) : Int) := by
          by_cases h : k < t.reach2 (rchE env) ^ k
          · rw [if_pos (by omega), Nat.max_eq_right (by omega)]
          · rw [if_neg (by omega), Nat.max_eq_left (by omega)]
        rw [em]
        simp only [Tm.reach2] at hP
        by_cases hk : 0 < k
        · rw [if_pos hk] at hP ⊢
          exact ⟨_, rfl, hP⟩
        · rw [if_neg hk] at hP ⊢
          exact ⟨_, rfl, hP⟩
    | plus a b =>
      simp [startL, Tm.D, to_inT, flatD]
      refine Linner_to (t := .plus a b) ?_
      refine ⟨_, _, rfl, by simp [Tm.inn], ?_⟩
      refine lc_mapA (f := Tm.D) (g := fun u => PyData.int ((u.reach2 (rchE env) : Nat) : Int)) chk_nil (fun u hu => ?_) ?_
      · obtain ⟨h1, h2, h3⟩ := sub u hu
        simp [wipeL]
        exact callU_to rfl rfl (Lreach2_to hE n u h1 (by omega) h3 _ ⟨rfl, rfl⟩)
      · simp only [Tm.inn, List.map_cons, List.map_nil]
        simp
        refine to_maxL (ns := [((a.reach2 (rchE env) : Nat) : Int), ((b.reach2 (rchE env) : Nat) : Int), 1]) |>.mpr ⟨_, max3 _ _, ?_⟩
        exact hP
    | minus a b =>
      simp [startL, Tm.D, to_inT, flatD]
      refine Linner_to (t := .minus a b) ?_
      refine ⟨_, _, rfl, by simp [Tm.inn], ?_⟩
      refine lc_mapA (f := Tm.D) (g := fun u => PyData.int ((u.reach2 (rchE env) : Nat) : Int)) chk_nil (fun u hu => ?_) ?_
      · obtain ⟨h1, h2, h3⟩ := sub u hu
        simp [wipeL]
        exact callU_to rfl rfl (Lreach2_to hE n u h1 (by omega) h3 _ ⟨rfl, rfl⟩)
      · simp only [Tm.inn, List.map_cons, List.map_nil]
        simp
        refine to_maxL (ns := [((a.reach2 (rchE env) : Nat) : Int), ((b.reach2 (rchE env) : Nat) : Int), 1]) |>.mpr ⟨_, max3 _ _, ?_⟩
        exact hP
    | times a b =>
      simp [startL, Tm.D, to_inT, flatD]
      refine Linner_to (t := .times a b) ?_
      refine ⟨_, _, rfl, by simp [Tm.inn], ?_⟩
      refine lc_mapA (f := Tm.D) (g := fun u => PyData.int ((u.reach2 (rchE env) : Nat) : Int)) chk_nil (fun u hu => ?_) ?_
      · obtain ⟨h1, h2, h3⟩ := sub u hu
        simp [wipeL]
        exact callU_to rfl rfl (Lreach2_to hE n u h1 (by omega) h3 _ ⟨rfl, rfl⟩)
      · simp only [Tm.inn, List.map_cons, List.map_nil]
        simp
        simp only [Tm.reach2, Int.natCast_add] at hP
        exact hP
    | of a b =>
      simp [startL, Tm.D, to_inT, flatD]
      refine Linner_to (t := .of a b) ?_
      refine ⟨_, _, rfl, by simp [Tm.inn], ?_⟩
      refine lc_mapA (f := Tm.D) (g := fun u => PyData.int ((u.reach2 (rchE env) : Nat) : Int)) chk_nil (fun u hu => ?_) ?_
      · obtain ⟨h1, h2, h3⟩ := sub u hu
        simp [wipeL]
        exact callU_to rfl rfl (Lreach2_to hE n u h1 (by omega) h3 _ ⟨rfl, rfl⟩)
      · simp only [Tm.inn, List.map_cons, List.map_nil]
        have ba := bdd a (by simp [Tm.inn])
        have bb := bdd b (by simp [Tm.inn])
        simp
        refine ⟨mulC_nn ba bb (by omega), ?_⟩
        simp only [Tm.reach2, Int.natCast_mul] at hP
        exact hP
end NW
namespace NW
open PySem PySem.Spec PyProof.Rows L2
theorem Lheft2_to {env : List (Str × (Nat × Nat))} (hE : ∀ s, s ∈ env.map (·.1) → Bd 8 (hftE env s)) : ∀ (n : Nat) (t : Tm), t.hi ≤ n → t.hi ≤ 6 → Shp (env.map (·.1)) t → ∀ P : PyData → Prop, P (hftP (t.heft2 (hftE env))) → (r_L_heft_2 n [.d t.D, .dct (hftD env)]).To P
  | 0, t, hn, _, _, P, hP => by
    have : 1 ≤ t.hi := by cases t <;> simp [Tm.hi]
    omega
  | n + 1, t, hn, h6, F, P, hP => by
    show (pureU 8 (b_L_heft_2 (r_L_heft_2 n)) _).To P
    rw [pureU_toT]
    unfold b_L_heft_2
    have sub : ∀ u, u ∈ t.inn → u.hi ≤ n ∧ u.hi ≤ 5 ∧ Shp (env.map (·.1)) u := fun u hu => by
      have hp : ∀ v, v ∈ u.parts → v ∈ t.parts := fun v hv => by rw [parts_inn]; exact List.mem_cons_of_mem _ (List.mem_flatMap.mpr ⟨u, hu, hv⟩)
      exact ⟨by have := inn_hi hu; omega, by have := inn_hi hu; omega, fun s h => F.names s (hp _ h), fun q h => F.nums q (hp _ h), fun v k h => F.exps v k (h.imp (hp _) (hp _))⟩
    have bdd : ∀ u, u ∈ t.inn → Bd 80868 (u.heft2 (hftE env)) := fun u hu => by
      obtain ⟨h1, h2, h3⟩ := sub u hu
      exact (heft2_bd u (fun s h => hE s (h3.names s h)) h3.exps).mono (cb5 h2)
    cases t with
    | x =>
      simp [startL, Tm.D, to_inT, flatD]
      exact hP
    | num q =>
      simp [startL, Tm.D, to_inT, flatD]
      exact hP
    | nm s =>
      simp [startL, Tm.D, to_inT, flatD]
      exact ⟨_, look_hft (F.names s (by simp [Tm.parts])), hP⟩
    | pow t k =>
      simp [startL, Tm.D, to_inT, flatD]
      refine Linner_to (t := .pow t k) ?_
      refine ⟨_, _, rfl, by simp [Tm.inn], ?_⟩
      refine lc_mapA (f := Tm.D) (g := fun u => hftP (u.heft2 (hftE env))) chk_nil (fun u hu => ?_) ?_
      · obtain ⟨h1, h2, h3⟩ := sub u hu
        simp [wipeL]
        exact callU_to rfl rfl (Lheft2_to hE n u h1 (by omega) h3 _ ⟨rfl, rfl⟩)
      · simp only [Tm.inn, List.map_cons, List.map_nil]
        obtain ⟨b1, b2⟩ := bdd t (by simp [Tm.inn])
        have k6 := F.exps t k (by simp [Tm.parts])
        simp [hftP]
        have em : (if (1 : Int) < (k : Int) then (k : Int) else 1) = ((max 1 k : Nat) : Int) := by
          by_cases h : 1 < k
          · rw [if_pos (by omega), Nat.max_eq_right (by omega)]
          · rw [if_neg (by omega), Nat.max_eq_left (by omega)]
            rfl
        rw [em]
        refine ⟨mulC_nn b1 (show max 1 k < 2 ^ 3 by omega) (by omega), mulC_nn b2 (show max 1 k < 2 ^ 3 by omega) (by omega), ?_⟩
        simp only [hftP, Tm.heft2, Int.natCast_add, Int.natCast_mul] at hP
        exact hP
    | agn t k =>
      simp [startL, Tm.D, to_inT, flatD]
      refine Linner_to (t := .agn t k) ?_
      refine ⟨_, _, rfl, by simp [Tm.inn], ?_⟩
      refine lc_mapA (f := Tm.D) (g := fun u => hftP (u.heft2 (hftE env))) chk_nil (fun u hu => ?_) ?_
      · obtain ⟨h1, h2, h3⟩ := sub u hu
        simp [wipeL]
        exact callU_to rfl rfl (Lheft2_to hE n u h1 (by omega) h3 _ ⟨rfl, rfl⟩)
      · simp only [Tm.inn, List.map_cons, List.map_nil]
        obtain ⟨b1, b2⟩ := bdd t (by simp [Tm.inn])
        have k6 := F.exps t k (by simp [Tm.parts])
        simp [hftP]
        refine ⟨decide_eq_true (by omega), ?_⟩
        rw [range_map]
        obtain ⟨I, hI⟩ : ∃ I : Nat → NW.Loc → Sto → Prop, ∀ j l s, I j l s ↔ ∃ (v : Option U), l = [some (.d (.tuple [.str "again", t.D, .int k])), some (.dct (hftD env)), some (.d (.list [hftP (t.heft2 (hftE env))])), some (.d (.int ((t.heft2 (hftE env)).1 : Nat))), some (.d (.int ((t.heft2 (hftE env)).2 : Nat))), some (.d (hftP (hAgain (t.heft2 (hftE env)) j))), v, none] ∧ s = ⟨none, []⟩ := ⟨_, fun _ _ _ => Iff.rfl⟩
        refine for_ix I (fun _ _ _ _ => chk_nil) ((hI _ _ _).mpr ⟨none, by simp [hftP, hAgain], rfl⟩) ?_ ?_
        · rintro j x l s hx h'
          obtain ⟨v, rfl, rfl⟩ := (hI _ _ _).mp h'
          have hj := (List.getElem?_eq_some_iff.mp hx).1
          simp at hj
          have ha := (hAgain_bd ⟨b1, b2⟩ j).mono (show j * (80868 + 1) + 1 ≤ 5 * (80868 + 1) + 1 by omega)
          simp [hftP]
          refine ⟨mulC_nn b2 ha.1 (by omega), mulC_nn b2 ha.2 (by omega), ?_⟩
          refine (hI _ _ _).mpr ⟨some (.d x), ?_, rfl⟩
          simp [hftP, hAgain]
        · rintro l s h'
          obtain ⟨v, rfl, rfl⟩ := (hI _ _ _).mp h'
          simp [Tm.heft2] at hP ⊢
          exact hP
    | plus a b =>
      simp [startL, Tm.D, to_inT, flatD]
      refine Linner_to (t := .plus a b) ?_
      refine ⟨_, _, rfl, by simp [Tm.inn], ?_⟩
      refine lc_mapA (f := Tm.D) (g := fun u => hftP (u.heft2 (hftE env))) chk_nil (fun u hu => ?_) ?_
      · obtain ⟨h1, h2, h3⟩ := sub u hu
        simp [wipeL]
        exact callU_to rfl rfl (Lheft2_to hE n u h1 (by omega) h3 _ ⟨rfl, rfl⟩)
      · simp only [Tm.inn, List.map_cons, List.map_nil]
        simp [hftP]
        simpa [hftP, Tm.heft2] using hP
    | minus a b =>
      simp [startL, Tm.D, to_inT, flatD]
      refine Linner_to (t := .minus a b) ?_
      refine ⟨_, _, rfl, by simp [Tm.inn], ?_⟩
      refine lc_mapA (f := Tm.D) (g := fun u => hftP (u.heft2 (hftE env))) chk_nil (fun u hu => ?_) ?_
      · obtain ⟨h1, h2, h3⟩ := sub u hu
        simp [wipeL]
        exact callU_to rfl rfl (Lheft2_to hE n u h1 (by omega) h3 _ ⟨rfl, rfl⟩)
      · simp only [Tm.inn, List.map_cons, List.map_nil]
        simp [hftP]
        simpa [hftP, Tm.heft2] using hP
    | times a b =>
      simp [startL, Tm.D, to_inT, flatD]
      refine Linner_to (t := .times a b) ?_
      refine ⟨_, _, rfl, by simp [Tm.inn], ?_⟩
      refine lc_mapA (f := Tm.D) (g := fun u => hftP (u.heft2 (hftE env))) chk_nil (fun u hu => ?_) ?_
      · obtain ⟨h1, h2, h3⟩ := sub u hu
        simp [wipeL]
        exact callU_to rfl rfl (Lheft2_to hE n u h1 (by omega) h3 _ ⟨rfl, rfl⟩)
      · simp only [Tm.inn, List.map_cons, List.map_nil]
        simp [hftP]
        simpa [hftP, Tm.heft2] using hP
    | of a b =>
      simp [startL, Tm.D, to_inT, flatD]
      refine Linner_to (t := .of a b) ?_
      refine ⟨_, _, rfl, by simp [Tm.inn], ?_⟩
      refine lc_mapA (f := Tm.D) (g := fun u => hftP (u.heft2 (hftE env))) chk_nil (fun u hu => ?_) ?_
      · obtain ⟨h1, h2, h3⟩ := sub u hu
        simp [wipeL]
        exact callU_to rfl rfl (Lheft2_to hE n u h1 (by omega) h3 _ ⟨rfl, rfl⟩)
      · simp only [Tm.inn, List.map_cons, List.map_nil]
        obtain ⟨a1, a2⟩ := bdd a (by simp [Tm.inn])
        obtain ⟨b1, b2⟩ := bdd b (by simp [Tm.inn])
        simp [hftP]
        refine ⟨mulC_nn a2 b1 (by omega), mulC_nn a2 b2 (by omega), ?_⟩
        have em : ∀ i j : Nat, (if (i : Int) < (j : Int) then (j : Int) else (i : Int)) = ((max i j : Nat) : Int) := fun i j => by
          by_cases h : i < j
          · rw [if_pos (by omega), Nat.max_eq_right (by omega)]
          · rw [if_neg (by omega), Nat.max_eq_left (by omega)]
        have e1 := em ((a.heft2 (hftE env)).1 + (a.heft2 (hftE env)).2 * (b.heft2 (hftE env)).1) (b.heft2 (hftE env)).1
        have e2 := em ((a.heft2 (hftE env)).2 * (b.heft2 (hftE env)).2) (b.heft2 (hftE env)).2
        simp only [Int.natCast_add, Int.natCast_mul] at e1 e2
        rw [e1, e2]
        simp only [hftP, Tm.heft2] at hP
        exact hP
end NW
namespace NW
open PySem PySem.Spec PyProof.Rows L2
theorem Lasks_to {env : List (Str × Nat)} (hE : ∀ s, s ∈ env.map (·.1) → rchE env s < 2 ^ 10) : ∀ (n : Nat) (t : Tm), t.hi ≤ n → t.hi ≤ 6 → Shp (env.map (·.1)) t → ∀ P : PyData → Prop, P (.int (t.asks (rchE env) : Nat)) → (r_L_asks n [.d t.D, .dct (rchD env)]).To P
  | 0, t, hn, _, _, P, hP => by
    have : 1 ≤ t.hi := by cases t <;> simp [Tm.hi]
    omega
  | n + 1, t, hn, h6, F, P, hP => by
    show (pureU 4 (b_L_asks (r_L_asks n)) _).To P
    rw [pureU_toT]
    unfold b_L_asks
    have sub : ∀ u, u ∈ t.inn → u.hi ≤ n ∧ u.hi ≤ 5 ∧ Shp (env.map (·.1)) u := fun u hu => by
      have hp : ∀ v, v ∈ u.parts → v ∈ t.parts := fun v hv => by rw [parts_inn]; exact List.mem_cons_of_mem _ (List.mem_flatMap.mpr ⟨u, hu, hv⟩)
      exact ⟨by have := inn_hi hu; omega, by have := inn_hi hu; omega, fun s h => F.names s (hp _ h), fun q h => F.nums q (hp _ h), fun v k h => F.exps v k (h.imp (hp _) (hp _))⟩
    have bdd : ∀ u, u ∈ t.inn → u.asks (rchE env) < 2 ^ 80868 := fun u hu => by
      obtain ⟨h1, h2, h3⟩ := sub u hu
      have := asks_bd (α := rchE env) u (fun s h => hE s (h3.names s h)) h3.exps
      exact Nat.lt_of_lt_of_le this (Nat.pow_le_pow_right (by omega) (cb5 h2))
    cases t with
    | x =>
      simp [startL, Tm.D]
      refine Linner_to (t := .x) ?_
      refine ⟨_, _, rfl, by simp [Tm.inn], ?_⟩
      refine lc_mapA (as := ([] : List Tm)) (f := Tm.D) (g := fun u => PyData.int ((u.asks (rchE env) : Nat) : Int)) chk_nil (fun u hu => by simp at hu) ?_
      simp
      refine (to_sumAL (ns := [])).mpr ?_
      simpa [Tm.asks] using hP
    | num q =>
      simp [startL, Tm.D]
      refine Linner_to (t := .num q) ?_
      refine ⟨_, _, rfl, by simp [Tm.inn], ?_⟩
      refine lc_mapA (as := ([] : List Tm)) (f := Tm.D) (g := fun u => PyData.int ((u.asks (rchE env) : Nat) : Int)) chk_nil (fun u hu => by simp at hu) ?_
      simp
      refine (to_sumAL (ns := [])).mpr ?_
      simpa [Tm.asks] using hP
    | nm s =>
      simp [startL, Tm.D]
      refine ⟨_, look_rch (F.names s (by simp [Tm.parts])), ?_⟩
      simpa [Tm.asks] using hP
    | pow t k =>
      simp [startL, Tm.D]
      refine Linner_to (t := .pow t k) ?_
      refine ⟨_, _, rfl, by simp [Tm.inn], ?_⟩
      refine lc_mapA (f := Tm.D) (g := fun u => PyData.int ((u.asks (rchE env) : Nat) : Int)) chk_nil (fun u hu => ?_) ?_
      · obtain ⟨h1, h2, h3⟩ := sub u hu
        simp [wipeL]
        exact callU_to rfl rfl (Lasks_to hE n u h1 (by omega) h3 _ ⟨rfl, rfl⟩)
      · simp only [Tm.inn, List.map_cons, List.map_nil]
        refine (to_sumAL (ns := [((t.asks (rchE env) : Nat) : Int)])).mpr ?_
        simpa [Tm.asks] using hP
    | agn t k =>
      simp [startL, Tm.D]
      refine Linner_to (t := .agn t k) ?_
      refine ⟨_, _, rfl, by simp [Tm.inn], ?_⟩
      refine lc_mapA (f := Tm.D) (g := fun u => PyData.int ((u.asks (rchE env) : Nat) : Int)) chk_nil (fun u hu => ?_) ?_
      · obtain ⟨h1, h2, h3⟩ := sub u hu
        simp [wipeL]
        exact callU_to rfl rfl (Lasks_to hE n u h1 (by omega) h3 _ ⟨rfl, rfl⟩)
      · simp only [Tm.inn, List.map_cons, List.map_nil]
        have bt := bdd t (by simp [Tm.inn])
        have k6 := F.exps t k (by simp [Tm.parts])
        simp
        refine ⟨mulC_nn bt (show k < 2 ^ 3 by omega) (by omega), ?_⟩
        simpa [Tm.asks] using hP
    | plus a b =>
      simp [startL, Tm.D]
      refine Linner_to (t := .plus a b) ?_
      refine ⟨_, _, rfl, by simp [Tm.inn], ?_⟩
      refine lc_mapA (f := Tm.D) (g := fun u => PyData.int ((u.asks (rchE env) : Nat) : Int)) chk_nil (fun u hu => ?_) ?_
      · obtain ⟨h1, h2, h3⟩ := sub u hu
        simp [wipeL]
        exact callU_to rfl rfl (Lasks_to hE n u h1 (by omega) h3 _ ⟨rfl, rfl⟩)
      · simp only [Tm.inn, List.map_cons, List.map_nil]
        refine (to_sumAL (ns := [((a.asks (rchE env) : Nat) : Int), ((b.asks (rchE env) : Nat) : Int)])).mpr ?_
        simpa [Tm.asks] using hP
    | minus a b =>
      simp [startL, Tm.D]
      refine Linner_to (t := .minus a b) ?_
      refine ⟨_, _, rfl, by simp [Tm.inn], ?_⟩
      refine lc_mapA (f := Tm.D) (g := fun u => PyData.int ((u.asks (rchE env) : Nat) : Int)) chk_nil (fun u hu => ?_) ?_
      · obtain ⟨h1, h2, h3⟩ := sub u hu
        simp [wipeL]
        exact callU_to rfl rfl (Lasks_to hE n u h1 (by omega) h3 _ ⟨rfl, rfl⟩)
      · simp only [Tm.inn, List.map_cons, List.map_nil]
        refine (to_sumAL (ns := [((a.asks (rchE env) : Nat) : Int), ((b.asks (rchE env) : Nat) : Int)])).mpr ?_
        simpa [Tm.asks] using hP
    | times a b =>
      simp [startL, Tm.D]
      refine Linner_to (t := .times a b) ?_
      refine ⟨_, _, rfl, by simp [Tm.inn], ?_⟩
      refine lc_mapA (f := Tm.D) (g := fun u => PyData.int ((u.asks (rchE env) : Nat) : Int)) chk_nil (fun u hu => ?_) ?_
      · obtain ⟨h1, h2, h3⟩ := sub u hu
        simp [wipeL]
        exact callU_to rfl rfl (Lasks_to hE n u h1 (by omega) h3 _ ⟨rfl, rfl⟩)
      · simp only [Tm.inn, List.map_cons, List.map_nil]
        refine (to_sumAL (ns := [((a.asks (rchE env) : Nat) : Int), ((b.asks (rchE env) : Nat) : Int)])).mpr ?_
        simpa [Tm.asks] using hP
    | of a b =>
      simp [startL, Tm.D]
      refine Linner_to (t := .of a b) ?_
      refine ⟨_, _, rfl, by simp [Tm.inn], ?_⟩
      refine lc_mapA (f := Tm.D) (g := fun u => PyData.int ((u.asks (rchE env) : Nat) : Int)) chk_nil (fun u hu => ?_) ?_
      · obtain ⟨h1, h2, h3⟩ := sub u hu
        simp [wipeL]
        exact callU_to rfl rfl (Lasks_to hE n u h1 (by omega) h3 _ ⟨rfl, rfl⟩)
      · simp only [Tm.inn, List.map_cons, List.map_nil]
        refine (to_sumAL (ns := [((a.asks (rchE env) : Nat) : Int), ((b.asks (rchE env) : Nat) : Int)])).mpr ?_
        simpa [Tm.asks] using hP
end NW
namespace NW
open PySem PySem.Spec PyProof.Rows L2
def Lite2 (η : Str → Nat × Nat) (t : Tm) : Prop := (t.heft2 η).1 + 3 * (t.heft2 η).2 ≤ 150
theorem light2_to {er ea : List (Str × Nat)} {eh : List (Str × (Nat × Nat))} (hN : eh.map (·.1) = er.map (·.1)) (hM : ea.map (·.1) = er.map (·.1)) (hR : ∀ s, s ∈ er.map (·.1) → rchE er s < 2 ^ 8) (hH : ∀ s, s ∈ eh.map (·.1) → Bd 8 (hftE eh s)) (hA : ∀ s, s ∈ ea.map (·.1) → rchE ea s < 2 ^ 10) {t : Tm} (h6 : t.hi ≤ 6) (F : Shp (er.map (·.1)) t)
    {P : PyData → Prop} (h1 : t.reach2 (rchE er) ≤ 24 → Lite2 (hftE eh) t → t.asks (rchE ea) ≤ 600 → P (.bool true)) (h0 : P (.bool false)) : (m_L_is_light_2 [.d t.D, .dct (rchD er), .dct (hftD eh), .dct (rchD ea)]).To P := by
  unfold m_L_is_light_2
  rw [pureU_toT]
  unfold b_L_is_light_2
  simp [startL]
  refine callU_to rfl rfl ?_
  unfold m_L_asks
  refine Lasks_to hA 10 t (by omega) (by omega) (by rw [hM]; exact F) _ ?_
  show (Res.ok (U.d (.bool (decide ((600 : Int) < ((t.asks (rchE ea) : Nat) : Int))))) _).To _
  rw [to_ok]
  by_cases ha : (600 : Int) < ((t.asks (rchE ea) : Nat) : Int)
  · exact .inr ⟨by simp [ha], h0⟩
  refine .inl ⟨by simp [ha], ?_⟩
  unfold m_L_parts
  refine Lparts_to 10 t (by omega) (by omega) _ ?_
  have p8 : 2 ^ t.hi ≤ 2 ^ 8 := Nat.pow_le_pow_right (by omega) (by omega)
  have ln := parts_len t
  refine ⟨_, _, rfl, ?_⟩
  obtain ⟨I, hI⟩ : ∃ I : List PyData → NW.Loc → Sto → Prop, ∀ zs l s, I zs l s ↔ ∃ (done rem : List Tm) (v w z : Option U), t.parts = done ++ rem ∧ (∀ u, u ∈ done → u.reach2 (rchE er) ≤ 24 ∧ Lite2 (hftE eh) u) ∧ zs = rem.map Tm.D ∧ l = [some (.d t.D), some (.dct (rchD er)), some (.dct (hftD eh)), some (.dct (rchD ea)), v, w, z] ∧ s = ⟨none, []⟩ := ⟨_, fun _ _ _ => Iff.rfl⟩
  refine for_to (I := I) (fun _ _ _ _ => chk_nil) ?_ ?_ _ _ _ ((hI _ _ _).mpr ⟨[], t.parts, none, none, none, rfl, by simp, rfl, rfl, rfl⟩)
  · rintro x zs l s hi
    obtain ⟨done, rem, v, w, z, e, hd, ez, rfl, rfl⟩ := (hI _ _ _).mp hi
    cases rem with
    | nil => cases ez
    | cons u rem =>
      cases ez
      have hu : u ∈ t.parts := by rw [e]; simp
      have hh := parts_hi hu
      have Fu := F.part hu
      simp
      refine callU_to rfl rfl ?_
      unfold m_L_heft_2
      refine Lheft2_to hH 10 u (by omega) (by omega) (by rw [hN]; exact Fu) _ ?_
      simp [hftP]
      refine callU_to rfl rfl ?_
      unfold m_L_reach_2
      refine Lreach2_to hR 10 u (by omega) (by omega) Fu _ ?_
      have hb := (heft2_bd u (fun s h => hH s (by rw [hN]; exact Fu.names s h)) Fu.exps).mono (show cb u.hi ≤ 485220 from Nat.le_trans (cb_mono (show u.hi ≤ 6 by omega)) (by decide))
      have mc := mulC_nn (a := 3) (c := 2) (by omega) hb.2 (by omega)
      show (Res.ok (U.d (.bool (decide ((24 : Int) < ((u.reach2 (rchE er) : Nat) : Int))))) _).To _
      rw [to_ok]
      by_cases hr : (24 : Int) < ((u.reach2 (rchE er) : Nat) : Int)
      · exact .inr ⟨by simp [hr], h0⟩
      · refine .inl ⟨by simp [hr], mc, ?_⟩
        by_cases hq : ((u.heft2 (hftE eh)).1 : Int) + 3 * ((u.heft2 (hftE eh)).2 : Int) ≤ 150
        · refine .inl ⟨hq, ?_⟩
          refine (hI _ _ _).mpr ⟨done ++ [u], rem, _, _, _, by rw [e]; simp, ?_, rfl, rfl, rfl⟩
          intro v hv
          rcases List.mem_append.mp hv with hv | hv
          · exact hd v hv
          · have : v = u := by simpa using hv
            subst this
            exact ⟨by omega, by unfold Lite2; omega⟩
        · exact .inr ⟨by omega, h0⟩
  · rintro l s hi
    obtain ⟨done, rem, v, w, z, e, hd, ez, rfl, rfl⟩ := (hI _ _ _).mp hi
    have : rem = [] := by cases rem with | nil => rfl | cons u r => cases ez
    subst this
    rw [List.append_nil] at e
    have := hd t (by rw [← e]; exact parts_self t)
    exact h1 this.1 this.2 (by omega)
end NW
namespace NW
open PySem PySem.Spec PyProof.Rows L2
inductive VRows : List (Str × Tm) → List (Str × Nat) → List (Str × (Nat × Nat)) → List (Str × Nat) → Prop
  | nil : VRows [] [] [] []
  | snoc {R : List (Str × Tm)} {er ea : List (Str × Nat)} {eh : List (Str × (Nat × Nat))} {s : Str} {t : Tm} : VRows R er eh ea → s ∉ R.map (·.1) → Shp (R.map (·.1)) t → t.hi ≤ 6 → t.reach2 (rchE er) ≤ 24 → Lite2 (hftE eh) t → t.asks (rchE ea) ≤ 600 →
    VRows (R ++ [(s, t)]) (er ++ [(s, t.reach2 (rchE er))]) (eh ++ [(s, t.heft2 (hftE eh))]) (ea ++ [(s, t.asks (rchE ea))])
theorem VRows.nm {R : List (Str × Tm)} {er ea : List (Str × Nat)} {eh : List (Str × (Nat × Nat))} (h : VRows R er eh ea) : er.map (·.1) = R.map (·.1) ∧ eh.map (·.1) = R.map (·.1) ∧ ea.map (·.1) = R.map (·.1) := by
  induction h with
  | nil => exact ⟨rfl, rfl, rfl⟩
  | snoc h h1 h2 h3 h4 h5 h6 ih => exact ⟨by simp [ih.1], by simp [ih.2.1], by simp [ih.2.2]⟩
theorem VRows.bd {R : List (Str × Tm)} {er ea : List (Str × Nat)} {eh : List (Str × (Nat × Nat))} (h : VRows R er eh ea) : ∀ s, s ∈ R.map (·.1) → rchE er s ≤ 24 ∧ ((hftE eh s).1 + 3 * (hftE eh s).2 ≤ 150) ∧ rchE ea s ≤ 600 := by
  induction h with
  | nil => intro s hs; simp at hs
  | @snoc R er ea eh s t h h1 h2 h3 h4 h5 h6 ih =>
    obtain ⟨nr, nh, na⟩ := h.nm
    intro u hu
    by_cases hm : u ∈ R.map (·.1)
    · rw [rchE_old (by rw [nr]; exact hm), rchE_old (by rw [na]; exact hm), hftE_old (by rw [nh]; exact hm)]
      exact ih u hm
    · have : u = s := by
        rw [List.map_append, List.mem_append] at hu
        rcases hu with hu | hu
        · exact absurd hu hm
        · simpa using hu
      subst this
      rw [rchE_new (by rw [nr]; exact hm), rchE_new (by rw [na]; exact hm), hftE_new (by rw [nh]; exact hm)]
      exact ⟨h4, h5, h6⟩
theorem spare2_ok {κ α : Str → Nat} {η : Str → Nat × Nat} {t u : Tm} (h1 : t.hi = 1) (S : Shp [] t) (hu : u = .x ∨ u = xxT) : (Tm.plus t u).reach2 κ ≤ 24 ∧ Lite2 η (.plus t u) ∧ (Tm.plus t u).asks α ≤ 600 ∧ Shp [] (.plus t u) ∧ (Tm.plus t u).hi ≤ 6 := by
  have q := spare_ok (κ := κ) (η := η) h1 S hu
  refine ⟨?_, ?_, ?_, q.2.1, q.2.2⟩
  all_goals
    rcases leaf_lite (κ := κ) (η := η) h1 S with rfl | ⟨q, rfl⟩ <;> rcases hu with rfl | rfl <;> simp [Tm.reach2, Lite2, Tm.heft2, Tm.asks, xxT]
theorem flowL_to {n i : Nat} {m : MS} {ds : List PyData} {f : Fl} {P : List PyData → Fl → Prop} (h : (m (startL n (.flow :: ds.map .d)) ⟨some f, []⟩).To (fun l st => ∃ j xs f', l[i]? = some (some (.ref j)) ∧ st.obs[j]? = some (.lst xs) ∧ st.fl = some f' ∧ P xs f') (fun _ _ => False)) : ∃ xs f', flowL n i m ds f = .ok (.tuple xs) false f' ∧ P xs f' := by
  unfold flowL
  cases e : m (startL n (.flow :: ds.map .d)) ⟨some f, []⟩ with
  | nx l st =>
    rw [e] at h
    obtain ⟨j, xs, f', h1, h2, h3, h4⟩ := h
    refine ⟨xs, f', ?_, h4⟩
    simp only [h1, h2, h3]
  | rt u st => rw [e] at h; exact h.elim
  | bk l s => rw [e] at h; exact h.elim
  | ct l s => rw [e] at h; exact h.elim
  | ex x l s => rw [e] at h; exact h.elim
  | no => rw [e] at h; exact h.elim
theorem reckoningl_to {f : Fl} (hf : FlOk f) {most : Nat} (h1 : 1 ≤ most) (h6 : most ≤ 6) : ∃ xs f', m_L_reckoningl [.int most] f = .ok (.tuple xs) false f' ∧ ∃ (R : List (Str × Tm)) (er ea : List (Str × Nat)) (eh : List (Str × (Nat × Nat))), xs = R.map rowT ∧ 1 ≤ R.length ∧ R.length ≤ 6 ∧ VRows R er eh ea ∧ (∀ r, r ∈ R → NmOk r.1) ∧ FlOk f' := by
  unfold m_L_reckoningl
  refine flowL_to ?_
  unfold b_L_reckoningl
  generalize hL0 : startL 10 (U.flow :: List.map U.d [PyData.int (most : Int)]) = L0
  refine cut (fun l st => ∃ (ws : List Str) (g : Fl), (1 ≤ ws.length ∧ ws.length ≤ 6 ∧ ws.Nodup ∧ ∀ w, w ∈ ws → NmOk w) ∧ FlOk g ∧ l = [some .flow, some (.d (.int most)), some (.d (.list (strsD ws))), none, none, none, none, none, none, none] ∧ st = ⟨some g, []⟩) ?_ ?_
  · rw [← hL0]
    simp [startL]
    refine (pick_to hf (by omega) (by omega)).mono ?_
    rintro _ f1 ⟨i, rfl, i0, i1, o1⟩
    obtain ⟨i, rfl⟩ : ∃ k : Nat, i = k := ⟨i.toNat, by omega⟩
    simp
    have e1 : (1 : Int) + (i : Int) = ((1 + i : Nat) : Int) := by omega
    rw [e1]
    refine (words_to o1 (by omega) (by omega)).mono ?_
    rintro _ f2 ⟨ws, rfl, hl, nd, wn, o2⟩
    exact ⟨ws, ⟨by omega, by omega, nd, wn⟩, o2, rfl⟩
  rintro l st ⟨ws, g1, ⟨w1, w6, nd, wn⟩, o1, hl, hs⟩
  simp [hl, hs]
  obtain ⟨I, hI⟩ : ∃ I : Nat → NW.Loc → Sto → Prop, ∀ k l st, I k l st ↔ ∃ (R : List (Str × Tm)) (er : List (Str × Nat)) (ea : List (Str × Nat)) (eh : List (Str × (Nat × Nat))) (g : Fl) (v6 v7 v8 : Option U), R.length = k ∧ R.map (·.1) = ws.take k ∧ VRows R er eh ea ∧ FlOk g ∧ l = [some .flow, some (.d (.int most)), some (.d (.list (strsD ws))), some (.ref 0), some (.ref 1), some (.ref 2), some (.ref 3), v6, v7, v8] ∧ st = ⟨some g, [.dct (rchD er), .dct (hftD eh), .dct (rchD ea), .lst (R.map rowT)]⟩ := ⟨_, fun _ _ _ => Iff.rfl⟩
  refine for_ix I (fun _ _ _ _ => chk_nil) ((hI _ _ _).mpr ⟨[], [], [], [], g1, none, none, none, rfl, by simp, VRows.nil, o1, rfl, rfl⟩) ?_ ?_
  · rintro k x l st hx h'
    obtain ⟨R, er, ea, eh, g, v6, v7, v8, rl, rn, RW, og, hl, hs⟩ := (hI _ _ _).mp h'
    obtain ⟨s, hs2, rfl⟩ := enum_strs hx
    have hk := (List.getElem?_eq_some_iff.mp hs2).1
    have rk : R.map (·.1) = ws.take k := rn
    have lk : (ws.take k).length = k := by rw [List.length_take]; omega
    obtain ⟨nr, nh, na⟩ := RW.nm
    have hR : ∀ s, s ∈ er.map (·.1) → rchE er s < 2 ^ 8 := fun s h => by have := RW.bd s (by rw [← nr]; exact h); omega
    have hH : ∀ s, s ∈ eh.map (·.1) → Bd 8 (hftE eh s) := fun s h => by have := RW.bd s (by rw [← nh]; exact h); exact ⟨by omega, by omega⟩
    have hA : ∀ s, s ∈ ea.map (·.1) → rchE ea s < 2 ^ 10 := fun s h => by have := RW.bd s (by rw [← na]; exact h); omega
    have hN : eh.map (·.1) = er.map (·.1) := by rw [nh, nr]
    have hM : ea.map (·.1) = er.map (·.1) := by rw [na, nr]
    have fresh : s ∉ R.map (·.1) := by
      rw [rk]
      intro hm
      obtain ⟨j, hj⟩ := List.getElem?_of_mem hm
      rw [List.getElem?_take] at hj
      split at hj
      · rename_i hjk
        have e1 := List.getElem?_eq_some_iff.mp hj
        have e2 := List.getElem?_eq_some_iff.mp hs2
        obtain ⟨p1, e1⟩ := e1
        obtain ⟨p2, e2⟩ := e2
        have := (List.getElem_inj nd).mp (e1.trans e2.symm)
        omega
      · cases hj
    refine cut (fun l st => ∃ (t : Tm) (g : Fl), t.hi ≤ 6 ∧ Shp (R.map (·.1)) t ∧ FlOk g ∧ l = [some .flow, some (.d (.int most)), some (.d (.list (strsD ws))), some (.ref 0), some (.ref 1), some (.ref 2), some (.ref 3), some (.d (.int k)), some (.d (.str s)), some (.d t.D)] ∧ st = ⟨some g, [.dct (rchD er), .dct (hftD eh), .dct (rchD ea), .lst (R.map rowT)]⟩) ?_ ?_
    · simp [hl, hs]
      refine (pick_to og (by omega) (by omega)).mono ?_
      rintro _ f2 ⟨j, rfl, j0, j1, o2⟩
      refine ixl_to (p := fun x => ∃ j : Nat, x = .int j ∧ j ≤ 12) j0 j1 (by simp; exact ⟨⟨1, rfl, by omega⟩, ⟨3, rfl, by omega⟩, ⟨6, rfl, by omega⟩, ⟨12, rfl, by omega⟩⟩) ?_
      rintro _ ⟨m, rfl, hm⟩
      have ec : cutD (strsD ws) none (some (k : Int)) = strsD (ws.take k) := by rw [← take_strs]; exact cutD_takeN
      rw [ec]
      simp
      unfold m_L_term
      refine (term_to (N := ws.take k) (by omega) 10 5 m f2 (by omega) (by omega) o2).mono ?_
      rintro _ f3 ⟨t, rfl, ht, S, o3⟩
      rw [← rk] at S
      exact ⟨t, by omega, S, o3, rfl⟩
    clear hl hs
    rintro l st ⟨t, g2, h6', F, o2, hl, hs⟩
    refine cut (fun l st => ∃ (t : Tm) (g : Fl), t.hi ≤ 6 ∧ Shp (R.map (·.1)) t ∧ (t.reach2 (rchE er) ≤ 24 ∧ Lite2 (hftE eh) t ∧ t.asks (rchE ea) ≤ 600) ∧ FlOk g ∧ l = [some .flow, some (.d (.int most)), some (.d (.list (strsD ws))), some (.ref 0), some (.ref 1), some (.ref 2), some (.ref 3), some (.d (.int k)), some (.d (.str s)), some (.d t.D)] ∧ st = ⟨some g, [.dct (rchD er), .dct (hftD eh), .dct (rchD ea), .lst (R.map rowT)]⟩) ?_ ?_
    · simp [hl, hs]
      refine to_with (j := 0) (es := rchD er) rfl rfl ?_
      refine to_with (j := 1) (es := hftD eh) rfl rfl ?_
      refine to_with (j := 2) (es := rchD ea) rfl rfl ?_
      simp
      refine callU_to rfl rfl ?_
      refine light2_to hN hM hR hH hA h6' (by rw [nr]; exact F) (fun L1 L2 L3 => ?_) ?_
      · refine ⟨_, rfl, rfl, rfl, rfl, ?_⟩
        refine .inr ⟨rfl, t, h6', F, ⟨L1, L2, L3⟩, g2, o2, rfl, ?_⟩
        simp [Sto.putO]
      · refine ⟨_, rfl, rfl, rfl, rfl, ?_⟩
        refine .inl ⟨rfl, ?_⟩
        have e0 : (((((({ fl := some g2, obs := [Ob.dct (rchD er), Ob.dct (hftD eh), Ob.dct (rchD ea), Ob.lst (R.map rowT)] } : Sto).putO 0 Ob.dead).putO 1 Ob.dead).putO 2 Ob.dead).putO 2 (Ob.dct (rchD ea))).putO 1 (Ob.dct (hftD eh))).putO 0 (Ob.dct (rchD er)) = ⟨some g2, [Ob.dct (rchD er), Ob.dct (hftD eh), Ob.dct (rchD ea), Ob.lst (R.map rowT)]⟩ := by simp [Sto.putO]
        rw [e0]
        simp
        refine (leaf_to (N := []) o2 (by simp)).mono ?_
        rintro _ f3 ⟨u, rfl, hu, Su, o3⟩
        refine (pick_to o3 (by omega) (by omega)).mono ?_
        rintro _ f4 ⟨j, rfl, j0, j1, o4⟩
        refine ixl_to (p := fun x => ∃ v : Tm, x = v.D ∧ (v = .x ∨ v = xxT)) j0 j1 (by simp; exact ⟨⟨.x, rfl, .inl rfl⟩, ⟨xxT, rfl, .inr rfl⟩⟩) ?_
        rintro _ ⟨v, rfl, hv⟩
        obtain ⟨q1, q4, q5, q2, q3⟩ := spare2_ok (κ := rchE er) (α := rchE ea) (η := hftE eh) hu Su hv
        exact ⟨_, ⟨_, ⟨_, rfl, rfl⟩, rfl⟩, by simp, .plus u v, q3, q2.mono (by simp), ⟨q1, q4, q5⟩, f4, o4, rfl, rfl⟩
    clear hl hs
    rintro l st ⟨t, g3, h6', F, ⟨L1, L2, L3⟩, o3, hl, hs⟩
    simp [hl, hs]
    refine ⟨by omega, ?_⟩
    refine to_with (j := 0) (es := rchD er) rfl rfl ?_
    simp
    refine callU_to rfl rfl ?_
    unfold m_L_reach_2
    refine Lreach2_to hR 10 t (by omega) (by omega) (by rw [nr]; exact F) _ ?_
    refine ⟨_, rfl, rfl, _, rfl, ⟨?_, ?_⟩, ?_⟩
    · rintro a b hab rfl
      obtain ⟨e, he, h⟩ := List.mem_map.mp hab
      have z := congrArg Prod.fst h
      have z' : e.1 = s := by simpa using z
      exact fresh (by rw [← nr, ← z']; exact List.mem_map.mpr ⟨e, he, rfl⟩)
    · have := congrArg List.length nr
      simp [rchD] at this ⊢
      omega
    show Res.To _ _
    refine to_with (j := 1) (es := hftD eh) rfl rfl ?_
    simp
    refine callU_to rfl rfl ?_
    unfold m_L_heft_2
    refine Lheft2_to hH 10 t (by omega) (by omega) (by rw [nh]; exact F) _ ?_
    refine ⟨_, rfl, rfl, _, rfl, ⟨?_, ?_⟩, ?_⟩
    · rintro a b hab rfl
      obtain ⟨e, he, h⟩ := List.mem_map.mp hab
      have z := congrArg Prod.fst h
      have z' : e.1 = s := by simpa using z
      exact fresh (by rw [← nh, ← z']; exact List.mem_map.mpr ⟨e, he, rfl⟩)
    · have := congrArg List.length nh
      simp [hftD] at this ⊢
      omega
    show Res.To _ _
    refine to_with (j := 2) (es := rchD ea) rfl rfl ?_
    simp
    refine callU_to rfl rfl ?_
    unfold m_L_asks
    refine Lasks_to hA 10 t (by omega) (by omega) (by rw [na]; exact F) _ ?_
    refine ⟨_, rfl, rfl, _, rfl, ⟨?_, ?_⟩, ?_⟩
    · rintro a b hab rfl
      obtain ⟨e, he, h⟩ := List.mem_map.mp hab
      have z := congrArg Prod.fst h
      have z' : e.1 = s := by simpa using z
      exact fresh (by rw [← na, ← z']; exact List.mem_map.mpr ⟨e, he, rfl⟩)
    · have := congrArg List.length na
      simp [rchD] at this ⊢
      omega
    refine (hI _ _ _).mpr ⟨R ++ [(s, t)], _, _, _, g3, _, _, _, by simp [rl], ?_, RW.snoc fresh F (by omega) L1 L2 L3, o3, rfl, ?_⟩
    · rw [List.map_append, rk, List.take_add_one, hs2]
      rfl
    · simp [Sto.putO, rchD, hftD, rowT]
  · rintro l st h'
    obtain ⟨R, er, ea, eh, g, v6, v7, v8, rl, rn, RW, og, hl, hs⟩ := (hI _ _ _).mp h'
    have el : (enumD (strsD ws)).length = ws.length := by simp [strsD]
    have hnm : ∀ r, r ∈ R → NmOk r.1 := fun r hr => wn _ (by have : r.1 ∈ R.map (·.1) := List.mem_map.mpr ⟨r, hr, rfl⟩; rw [rn] at this; exact List.mem_of_mem_take this)
    exact ⟨3, by rw [hl]; rfl, R.map rowT, by rw [hs]; rfl, g, by rw [hs], R, rfl, by omega, by omega, ⟨er, ea, eh, RW⟩, fun a b h => hnm (a, b) h, og⟩
end NW
namespace NW
open PySem PySem.Spec PyProof.Rows L2
def itR (f : Rat → Rat) : Nat → Rat → Rat
  | 0, r => r
  | k + 1, r => f (itR f k r)
def Tm.val (ρ : Str → Rat → Rat) : Tm → Rat → Rat
  | .x, r => r
  | .num q, _ => q
  | .nm s, r => ρ s r
  | .pow t k, r => t.val ρ r ^ k
  | .agn t k, r => itR (t.val ρ) k r
  | .plus a b, r => a.val ρ r + b.val ρ r
  | .minus a b, r => a.val ρ r - b.val ρ r
  | .times a b, r => a.val ρ r * b.val ρ r
  | .of a b, r => a.val ρ (b.val ρ r)
structure OpOk (F : Ops) : Prop where
  A : ∀ (p q : Rat) (n : Nat), FB n p → FB n q → 0 < n → n ≤ 100000 → F.A (fracD p) (fracD q) = some (fracD (p + q))
  S : ∀ (p q : Rat) (n : Nat), FB n p → FB n q → 0 < n → n ≤ 100000 → F.S (fracD p) (fracD q) = some (fracD (p - q))
  M : ∀ (p q : Rat) (n : Nat), FB n p → FB n q → 0 < n → n ≤ 100000 → F.M (fracD p) (fracD q) = some (fracD (p * q))
theorem evP_run {F : Ops} (hF : OpOk F) {p : Rat} {s : Nat} (hp : FB s p) : ∀ (k : Nat) (a : Rat) (b : Nat), FB b a → b + k * s ≤ 90000 → s ≤ 90000 → evP F.M (fracD p) k (fracD a) = some (fracD (a * p ^ k))
  | 0, a, b, _, _, _ => by simp [evP]
  | k + 1, a, b, ha, hb, hs => by
    rw [Nat.add_mul, Nat.one_mul] at hb
    unfold evP
    rw [hF.M a p (b + s + 1) (ha.mono (by omega)) (hp.mono (by omega)) (by omega) (by omega)]
    dsimp only
    rw [evP_run hF hp k (a * p) (b + s) (ha.mul2 hp) (by omega) hs]
    congr 2
    rw [Rat.pow_succ]
    grind
theorem evIt_run {f : PyData → EvR} {b : Nat} : ∀ (k : Nat) (R : Nat → PyData) (c0 : Nat), (∀ j, j < k → ∃ c, c ≤ b ∧ f (R j) = some (R (j + 1), c)) → ∃ C, C ≤ c0 + b * k ∧ evIt f k (R 0) c0 = some (R k, C)
  | 0, R, c0, _ => ⟨c0, by omega, rfl⟩
  | k + 1, R, c0, h => by
    obtain ⟨c, hc, e⟩ := h 0 (by omega)
    obtain ⟨C, hC, e2⟩ := evIt_run k (fun j => R (j + 1)) (c0 + c) fun j hj => h (j + 1) (by omega)
    refine ⟨C, by rw [Nat.mul_add]; omega, ?_⟩
    unfold evIt
    rw [e]
    exact e2
def szA (m mo s : Nat) : Nat → Nat
  | 0 => s
  | j + 1 => 4 * m + mo * szA m mo s j
theorem szA_eq {m mo s : Nat} : ∀ k, 4 * (hAgain (m, mo) k).1 + (hAgain (m, mo) k).2 * s = szA m mo s k
  | 0 => by simp [hAgain, szA]
  | k + 1 => by
    have := szA_eq (m := m) (mo := mo) (s := s) k
    simp only [hAgain, szA]
    rw [← this, Nat.mul_add, Nat.mul_add, Nat.mul_assoc, Nat.mul_left_comm mo 4]
    omega
theorem szA_up {m mo s : Nat} (j : Nat) : szA m mo s (j + 1) ≤ szA m mo s (j + 2) := by
  rcases Nat.eq_zero_or_pos mo with rfl | h
  · simp [szA]
  · show _ ≤ 4 * m + mo * szA m mo s (j + 1)
    have := Nat.le_mul_of_pos_left (szA m mo s (j + 1)) h
    omega
theorem szA_le {m mo s : Nat} {j : Nat} : ∀ {k}, j + 1 ≤ k → szA m mo s (j + 1) ≤ szA m mo s k := by
  intro k h
  induction h with
  | refl => exact Nat.le_refl _
  | @step k h ih =>
    have h' : j + 1 ≤ k := h
    obtain ⟨i, rfl⟩ : ∃ i, k = i + 1 := ⟨k - 1, by omega⟩
    exact Nat.le_trans ih (szA_up i)
def EvN (F : Ops) (T : List (Str × PyData)) (N : List Str) (η : Str → Nat × Nat) (α : Str → Nat) (ρ : Str → Rat → Rat) (n : Nat) : Prop := ∀ x, x ∈ N → PyData.strOk x = true ∧ ∃ u, T.lookup x = some u ∧ ∀ (r : Rat) (s : Nat), FB s r → 4 * (η x).1 + (η x).2 * s ≤ 4000 →
  ∃ c, c ≤ α x ∧ evT F T n u (fracD r) = some (fracD (ρ x r), c) ∧ FB (4 * (η x).1 + (η x).2 * s) (ρ x r)
theorem evT_step {F : Ops} {T : List (Str × PyData)} {n : Nat} {s : Str} {as : List PyData} {r : PyData} (h : PyData.strOk s = true) : evT F T (n + 1) (.tuple (.str s :: as)) r = evS F T (evT F T n) s as r := by
  conv => lhs; unfold evT
  dsimp only
  rw [if_pos h]
theorem evS_bin {F : Ops} {T : List (Str × PyData)} {f : PyData → PyData → EvR} {s : Str} {a b r : PyData} {x y : PyData × Nat} (h : s = "plus" ∨ s = "minus" ∨ s = "times") (h1 : f a r = some x) (h2 : f b r = some y) :
    evS F T f s [a, b] r = ((if s = "plus" then F.A x.1 y.1 else if s = "minus" then F.S x.1 y.1 else if s = "times" then F.M x.1 y.1 else none)).map fun z => (z, x.2 + y.2) := by
  unfold evS
  rw [if_neg (by rcases h with rfl | rfl | rfl <;> decide +kernel), if_neg (by rcases h with rfl | rfl | rfl <;> decide +kernel), if_neg (by rcases h with rfl | rfl | rfl <;> decide +kernel), if_neg (by rcases h with rfl | rfl | rfl <;> decide +kernel), if_neg (by rcases h with rfl | rfl | rfl <;> decide +kernel)]
  unfold evB
  rw [if_neg (by rcases h with rfl | rfl | rfl <;> decide +kernel)]
  dsimp only
  rw [h1]
  dsimp only
  rw [h2]
theorem one_D : oneD = fracD 1 := rfl
theorem ev_term {F : Ops} {T : List (Str × PyData)} {N : List Str} {η : Str → Nat × Nat} {α : Str → Nat} {ρ : Str → Rat → Rat} {n : Nat} (hF : OpOk F) (hE : EvN F T N η α ρ n) : ∀ t : Tm, Shp N t → ∀ (r : Rat) (s : Nat), FB s r → 4 * (t.heft2 η).1 + (t.heft2 η).2 * s ≤ 4000 →
    ∃ c, c ≤ t.asks α ∧ evT F T (n + t.hi) t.D (fracD r) = some (fracD (t.val ρ r), c) ∧ FB (4 * (t.heft2 η).1 + (t.heft2 η).2 * s) (t.val ρ r)
  | .x, Sh, r, s, hr, hs => by
    refine ⟨0, Nat.zero_le _, ?_, hr.mono (by simp [Tm.heft2])⟩
    show evT F T (n + 1) (.tuple [.str "x"]) _ = _
    rw [evT_step (by decide +kernel)]
    unfold evS
    rw [if_pos rfl]
    rfl
  | .num q, Sh, r, s, hr, hs => by
    refine ⟨0, Nat.zero_le _, ?_, (Sh.nums q (by simp [Tm.parts])).mono (by simp [Tm.heft2])⟩
    show evT F T (n + 1) (.tuple [.str "number", fracD q]) _ = _
    rw [evT_step (by decide +kernel)]
    unfold evS
    rw [if_neg (by decide +kernel), if_pos rfl]
    rfl
  | .nm x, Sh, r, s, hr, hs => by
    obtain ⟨ok, u, hu, h⟩ := hE x (Sh.names x (by simp [Tm.parts]))
    obtain ⟨c, hc, e, fb⟩ := h r s hr hs
    refine ⟨c + 1, by simp only [Tm.asks]; omega, ?_, fb⟩
    show evT F T (n + 1) (.tuple [.str "name", .str x]) _ = _
    rw [evT_step (by decide +kernel)]
    unfold evS
    rw [if_neg (by decide +kernel), if_neg (by decide +kernel), if_pos rfl]
    dsimp only
    rw [if_pos ⟨rfl, ok⟩, hu]
    dsimp only
    rw [e]
    rfl
  | .pow t k, Sh, r, s, hr, hs => by
    have St : Shp N t := ⟨fun x h => Sh.names x (by simp [Tm.parts, h]), fun q h => Sh.nums q (by simp [Tm.parts, h]), fun v j h => Sh.exps v j (by simp [Tm.parts]; rcases h with h | h <;> simp [h])⟩
    have k6 := Sh.exps t k (by simp [Tm.parts])
    simp only [Tm.heft2] at hs ⊢
    generalize hm : (t.heft2 η).1 = m at *
    generalize hmo : (t.heft2 η).2 = mo at *
    have p1 : m ≤ m * max 1 k := Nat.le_mul_of_pos_right _ (by omega)
    have p2 : mo * s ≤ mo * max 1 k * s := Nat.mul_le_mul_right _ (Nat.le_mul_of_pos_right _ (by omega))
    obtain ⟨c, hc, e, fb⟩ := ev_term hF hE t St r s hr (by rw [hm, hmo]; omega)
    rw [hm, hmo] at fb
    have kk : k * (4 * m + mo * s) ≤ 4 * (m * max 1 k) + mo * max 1 k * s := by
      have q1 : k * m ≤ m * max 1 k := by rw [Nat.mul_comm]; exact Nat.mul_le_mul_left _ (by omega)
      have q2 : k * (mo * s) ≤ mo * max 1 k * s := by
        rw [← Nat.mul_assoc, Nat.mul_comm k mo]
        exact Nat.mul_le_mul_right _ (Nat.mul_le_mul_left _ (by omega))
      rw [Nat.mul_add, Nat.mul_left_comm]
      omega
    have eP := evP_run hF fb k 1 1 (FB.one (by omega)) (by omega) (by omega)
    have fbk := fb.pow (k := k)
    refine ⟨c, by simp only [Tm.asks]; omega, ?_, fbk.mono (by omega)⟩
    show evT F T (n + t.hi + 1) (.tuple [.str "power", t.D, .int k]) _ = _
    rw [evT_step (by decide +kernel)]
    unfold evS
    rw [if_neg (by decide +kernel), if_neg (by decide +kernel), if_neg (by decide +kernel), if_neg (by decide +kernel), if_neg (by decide +kernel)]
    unfold evB
    rw [if_pos rfl]
    dsimp only
    rw [if_pos (by omega), e]
    dsimp only
    rw [one_D, Int.toNat_natCast, eP]
    simp [Tm.val, Rat.one_mul]
  | .agn t k, Sh, r, s, hr, hs => by
    have St : Shp N t := ⟨fun x h => Sh.names x (by simp [Tm.parts, h]), fun q h => Sh.nums q (by simp [Tm.parts, h]), fun v j h => Sh.exps v j (by simp [Tm.parts]; rcases h with h | h <;> simp [h])⟩
    have k6 := Sh.exps t k (by simp [Tm.parts])
    simp only [Tm.heft2] at hs ⊢
    have ez := szA_eq (m := (t.heft2 η).1) (mo := (t.heft2 η).2) (s := s) k
    have es : 4 * (hAgain (t.heft2 η) k).1 + (hAgain (t.heft2 η) k).2 * s = szA (t.heft2 η).1 (t.heft2 η).2 s k := ez
    rw [es] at hs ⊢
    have fbs : ∀ j, j ≤ k → FB (szA (t.heft2 η).1 (t.heft2 η).2 s j) (itR (t.val ρ) j r) := by
      intro j
      induction j with
      | zero => intro _; exact hr
      | succ j ih =>
        intro hj
        obtain ⟨c, hc, e, fb⟩ := ev_term hF hE t St _ _ (ih (by omega)) (Nat.le_trans (szA_le hj) hs)
        exact fb
    have step : ∀ j, j < k → ∃ c, c ≤ t.asks α ∧ evT F T (n + t.hi) t.D (fracD (itR (t.val ρ) j r)) = some (fracD (itR (t.val ρ) (j + 1) r), c) := fun j hj => by
      obtain ⟨c, hc, e, fb⟩ := ev_term hF hE t St _ _ (fbs j (by omega)) (Nat.le_trans (szA_le (show j + 1 ≤ k by omega)) hs)
      exact ⟨c, hc, e⟩
    obtain ⟨C, hC, e⟩ := evIt_run k (fun j => fracD (itR (t.val ρ) j r)) 0 step
    refine ⟨C, by simp only [Tm.asks]; omega, ?_, fbs k (Nat.le_refl _)⟩
    show evT F T (n + t.hi + 1) (.tuple [.str "again", t.D, .int k]) _ = _
    rw [evT_step (by decide +kernel)]
    unfold evS
    rw [if_neg (by decide +kernel), if_neg (by decide +kernel), if_neg (by decide +kernel), if_neg (by decide +kernel), if_pos rfl]
    dsimp only
    rw [if_pos (by omega), Int.toNat_natCast]
    exact e
  | .plus a b, Sh, r, s, hr, hs => by
    have Sa : Shp N a := ⟨fun x h => Sh.names x (by simp [Tm.parts, h]), fun q h => Sh.nums q (by simp [Tm.parts, h]), fun v j h => Sh.exps v j (by simp [Tm.parts]; rcases h with h | h <;> simp [h])⟩
    have Sb : Shp N b := ⟨fun x h => Sh.names x (by simp [Tm.parts, h]), fun q h => Sh.nums q (by simp [Tm.parts, h]), fun v j h => Sh.exps v j (by simp [Tm.parts]; rcases h with h | h <;> simp [h])⟩
    simp only [Tm.heft2] at hs ⊢
    rw [Nat.add_mul] at hs ⊢
    obtain ⟨c1, hc1, e1, fb1⟩ := ev_term hF hE a Sa r s hr (by omega)
    obtain ⟨c2, hc2, e2, fb2⟩ := ev_term hF hE b Sb r s hr (by omega)
    refine ⟨c1 + c2, by simp only [Tm.asks]; omega, ?_, (fb1.add2 fb2).mono (by omega)⟩
    show evT F T (n + max a.hi b.hi + 1) (.tuple [.str "plus", a.D, b.D]) _ = _
    rw [evT_step (by decide +kernel), evS_bin (.inl rfl) (evT_le (by omega) e1) (evT_le (by omega) e2), if_pos rfl]
    dsimp only
    rw [hF.A _ _ 8000 (fb1.mono (by omega)) (fb2.mono (by omega)) (by omega) (by omega)]
    rfl
  | .minus a b, Sh, r, s, hr, hs => by
    have Sa : Shp N a := ⟨fun x h => Sh.names x (by simp [Tm.parts, h]), fun q h => Sh.nums q (by simp [Tm.parts, h]), fun v j h => Sh.exps v j (by simp [Tm.parts]; rcases h with h | h <;> simp [h])⟩
    have Sb : Shp N b := ⟨fun x h => Sh.names x (by simp [Tm.parts, h]), fun q h => Sh.nums q (by simp [Tm.parts, h]), fun v j h => Sh.exps v j (by simp [Tm.parts]; rcases h with h | h <;> simp [h])⟩
    simp only [Tm.heft2] at hs ⊢
    rw [Nat.add_mul] at hs ⊢
    obtain ⟨c1, hc1, e1, fb1⟩ := ev_term hF hE a Sa r s hr (by omega)
    obtain ⟨c2, hc2, e2, fb2⟩ := ev_term hF hE b Sb r s hr (by omega)
    refine ⟨c1 + c2, by simp only [Tm.asks]; omega, ?_, (fb1.sub2 fb2).mono (by omega)⟩
    show evT F T (n + max a.hi b.hi + 1) (.tuple [.str "minus", a.D, b.D]) _ = _
    rw [evT_step (by decide +kernel), evS_bin (.inr (.inl rfl)) (evT_le (by omega) e1) (evT_le (by omega) e2), if_neg (by decide +kernel), if_pos rfl]
    dsimp only
    rw [hF.S _ _ 8000 (fb1.mono (by omega)) (fb2.mono (by omega)) (by omega) (by omega)]
    rfl
  | .times a b, Sh, r, s, hr, hs => by
    have Sa : Shp N a := ⟨fun x h => Sh.names x (by simp [Tm.parts, h]), fun q h => Sh.nums q (by simp [Tm.parts, h]), fun v j h => Sh.exps v j (by simp [Tm.parts]; rcases h with h | h <;> simp [h])⟩
    have Sb : Shp N b := ⟨fun x h => Sh.names x (by simp [Tm.parts, h]), fun q h => Sh.nums q (by simp [Tm.parts, h]), fun v j h => Sh.exps v j (by simp [Tm.parts]; rcases h with h | h <;> simp [h])⟩
    simp only [Tm.heft2] at hs ⊢
    rw [Nat.add_mul] at hs ⊢
    obtain ⟨c1, hc1, e1, fb1⟩ := ev_term hF hE a Sa r s hr (by omega)
    obtain ⟨c2, hc2, e2, fb2⟩ := ev_term hF hE b Sb r s hr (by omega)
    refine ⟨c1 + c2, by simp only [Tm.asks]; omega, ?_, (fb1.mul2 fb2).mono (by omega)⟩
    show evT F T (n + max a.hi b.hi + 1) (.tuple [.str "times", a.D, b.D]) _ = _
    rw [evT_step (by decide +kernel), evS_bin (.inr (.inr rfl)) (evT_le (by omega) e1) (evT_le (by omega) e2), if_neg (by decide +kernel), if_neg (by decide +kernel), if_pos rfl]
    dsimp only
    rw [hF.M _ _ 8000 (fb1.mono (by omega)) (fb2.mono (by omega)) (by omega) (by omega)]
    rfl
  | .of a b, Sh, r, s, hr, hs => by
    have Sa : Shp N a := ⟨fun x h => Sh.names x (by simp [Tm.parts, h]), fun q h => Sh.nums q (by simp [Tm.parts, h]), fun v j h => Sh.exps v j (by simp [Tm.parts]; rcases h with h | h <;> simp [h])⟩
    have Sb : Shp N b := ⟨fun x h => Sh.names x (by simp [Tm.parts, h]), fun q h => Sh.nums q (by simp [Tm.parts, h]), fun v j h => Sh.exps v j (by simp [Tm.parts]; rcases h with h | h <;> simp [h])⟩
    simp only [Tm.heft2] at hs ⊢
    generalize hbm : (b.heft2 η).1 = m' at *
    generalize hbo : (b.heft2 η).2 = mo' at *
    generalize ham : (a.heft2 η).1 = m at *
    generalize hao : (a.heft2 η).2 = mo at *
    have q1 : m' ≤ max (m + mo * m') m' := by omega
    have q2 : mo' * s ≤ max (mo * mo') mo' * s := Nat.mul_le_mul_right _ (by omega)
    have q3 : mo * mo' * s ≤ max (mo * mo') mo' * s := Nat.mul_le_mul_right _ (by omega)
    obtain ⟨c2, hc2, e2, fb2⟩ := ev_term hF hE b Sb r s hr (by rw [hbm, hbo]; omega)
    rw [hbm, hbo] at fb2
    have q4 : mo * (4 * m' + mo' * s) = 4 * (mo * m') + mo * mo' * s := by rw [Nat.mul_add, Nat.mul_left_comm, Nat.mul_assoc]
    obtain ⟨c1, hc1, e1, fb1⟩ := ev_term hF hE a Sa _ _ fb2 (by rw [ham, hao, q4]; omega)
    rw [ham, hao, q4] at fb1
    refine ⟨c2 + c1, by simp only [Tm.asks]; omega, ?_, fb1.mono (by omega)⟩
    show evT F T (n + max a.hi b.hi + 1) (.tuple [.str "of", a.D, b.D]) _ = _
    rw [evT_step (by decide +kernel)]
    unfold evS
    rw [if_neg (by decide +kernel), if_neg (by decide +kernel), if_neg (by decide +kernel), if_pos rfl]
    dsimp only
    rw [evT_le (by omega) e2]
    dsimp only
    rw [evT_le (by omega) e1]
    rfl
end NW
namespace NW
open PySem PySem.Spec PyProof.Rows L2
theorem ev_rows {F F' : Ops} (hF : OpOk F) (hF' : OpOk F') {T : List (Str × PyData)} {R : List (Str × Tm)} {er ea : List (Str × Nat)} {eh : List (Str × (Nat × Nat))} (h : VRows R er eh ea) (hT : ∀ r, r ∈ R → T.lookup r.1 = some r.2.D) (hok : ∀ r, r ∈ R → PyData.strOk r.1 = true) :
    ∃ ρ, EvN F T (R.map (·.1)) (hftE eh) (rchE ea) ρ (6 * R.length) ∧ EvN F' T (R.map (·.1)) (hftE eh) (rchE ea) ρ (6 * R.length) := by
  induction h with
  | nil => exact ⟨fun _ r => r, fun x hx => by simp at hx, fun x hx => by simp at hx⟩
  | @snoc R er ea eh s t h h1 h2 h3 h4 h5 h6 ih =>
    obtain ⟨ρ, E1, E2⟩ := ih (fun r hr => hT r (by simp [hr])) (fun r hr => hok r (by simp [hr]))
    obtain ⟨nr, nh, na⟩ := h.nm
    refine ⟨fun x => if x = s then t.val ρ else ρ x, ?_⟩
    have key : ∀ {G : Ops}, OpOk G → EvN G T (R.map (·.1)) (hftE eh) (rchE ea) ρ (6 * R.length) → EvN G T ((R ++ [(s, t)]).map (·.1)) (hftE (eh ++ [(s, t.heft2 (hftE eh))])) (rchE (ea ++ [(s, t.asks (rchE ea))])) (fun x => if x = s then t.val ρ else ρ x) (6 * (R ++ [(s, t)]).length) := fun {G} hG E => by
      intro x hx
      by_cases hm : x ∈ R.map (·.1)
      · have ne : ¬ x = s := fun z => h1 (z ▸ hm)
        rw [hftE_old (by rw [nh]; exact hm), rchE_old (by rw [na]; exact hm)]
        dsimp only
        rw [if_neg ne]
        obtain ⟨ok, u, hu, q⟩ := E x hm
        refine ⟨ok, u, hu, fun r k hr hk => ?_⟩
        obtain ⟨c, hc, e, fb⟩ := q r k hr hk
        exact ⟨c, hc, evT_le (by simp; omega) e, fb⟩
      · have : x = s := by
          rw [List.map_append, List.mem_append] at hx
          rcases hx with hx | hx
          · exact absurd hx hm
          · simpa using hx
        subst this
        rw [hftE_new (by rw [nh]; exact hm), rchE_new (by rw [na]; exact hm)]
        dsimp only
        rw [if_pos rfl]
        refine ⟨hok (x, t) (by simp), t.D, hT (x, t) (by simp), fun r k hr hk => ?_⟩
        obtain ⟨c, hc, e, fb⟩ := ev_term hG E t h2 r k hr hk
        exact ⟨c, hc, evT_le (by simp; omega) e, fb⟩
    exact ⟨key hF E1, key hF' E2⟩
theorem okD_of {r : Rp} {d : PyData} (h : r.To fun x => x = d) : okD r = some d := by
  unfold Rp.To at h
  unfold okD
  split at h
  · rename_i x fr
    rw [h]
  · exact h.elim
theorem ops_P : OpOk (opsP m_added m_taken m_multiplied) :=
  ⟨fun p q n hp hq h0 hn => okD_of (added_to hp hq h0 (by omega) rfl), fun p q n hp hq h0 hn => okD_of (taken_to hp hq h0 (by omega) rfl), fun p q n hp hq h0 hn => okD_of (multiplied_to hp hq h0 (by omega) rfl)⟩
theorem ops_L : OpOk (opsL m_L_added m_L_product) := by
  rw [L_added_eq, L_product_eq]
  have lg : ∀ (q : Rat) (n : Nat), FB n q → 0 < n → n ≤ 100000 → q.num.natAbs.log2 < 999000 := fun q n hq h0 hn => by
    by_cases z : q.num.natAbs = 0
    · rw [z]; decide
    · have := (Nat.log2_lt z).mpr hq.1
      omega
  refine ⟨fun p q n hp hq h0 hn => ?_, fun p q n hp hq h0 hn => ?_, fun p q n hp hq h0 hn => okD_of (multiplied_to hp hq h0 (by omega) rfl)⟩
  · show (if q.num.natAbs.log2 < 999000 then okD (m_added [fracD p, .tuple [.int (q.num * 1), .int q.den]]) else none) = _
    rw [if_pos (lg q n hq h0 hn), Int.mul_one]
    exact okD_of (added_to hp hq h0 (by omega) rfl)
  · show (if q.num.natAbs.log2 < 999000 then okD (m_added [fracD p, .tuple [.int (q.num * (0 - 1)), .int q.den]]) else none) = _
    rw [if_pos (lg q n hq h0 hn)]
    have e : PyData.tuple [.int (q.num * (0 - 1)), .int q.den] = fracD (-q) := by
      unfold fracD
      have e1 : (-q).num = q.num * (0 - 1) := by rw [Rat.neg_num]; omega
      have e2 : (-q).den = q.den := Rat.neg_den ..
      rw [e1, e2]
    rw [e, Rat.sub_eq_add_neg]
    exact okD_of (added_to hp hq.neg h0 (by omega) rfl)
theorem pairsT_rows : ∀ R : List (Str × Tm), pairsT (R.map rowT) = some (R.map fun r => (r.1, r.2.D))
  | [] => rfl
  | r :: R => by
    show (pairsT (R.map rowT)).map ((r.1, r.2.D) :: ·) = _
    rw [pairsT_rows R]
    rfl
theorem rows_nodup {R : List (Str × Tm)} {er ea : List (Str × Nat)} {eh : List (Str × (Nat × Nat))} (h : VRows R er eh ea) : (R.map (·.1)).Nodup := by
  induction h with
  | nil => exact List.nodup_nil
  | @snoc R er ea eh s t h h1 h2 h3 h4 h5 h6 ih =>
    rw [List.map_append, List.nodup_append]
    refine ⟨ih, by simp, fun a ha b hb => ?_⟩
    have : b = s := by simpa using hb
    rw [this]
    rintro rfl
    exact h1 ha
theorem look_rows : ∀ {R : List (Str × Tm)}, (R.map (·.1)).Nodup → ∀ r, r ∈ R → (R.map fun r => (r.1, r.2.D)).lookup r.1 = some r.2.D
  | [], _, r, h => by simp at h
  | a :: R, nd, r, h => by
    rw [List.map_cons, List.nodup_cons] at nd
    rw [List.map_cons, List.lookup_cons]
    rcases List.mem_cons.mp h with rfl | h
    · simp
    · have ne : ¬ r.1 = a.1 := fun z => nd.1 (by rw [← z]; exact List.mem_map.mpr ⟨r, h, rfl⟩)
      have : (r.1 == a.1) = false := by rw [beq_eq_false_iff_ne]; exact ne
      rw [this]
      exact look_rows nd.2 r h
theorem same_rows {R : List (Str × Tm)} {er ea : List (Str × Nat)} {eh : List (Str × (Nat × Nat))} (h : VRows R er eh ea) (h1 : 1 ≤ R.length) (h6 : R.length ≤ 6) (hok : ∀ r, r ∈ R → PyData.strOk r.1 = true) {q : Rat} (hq : FB 10 q) :
    Same (m_L_alike 8) (gAll (opsP m_added m_taken m_multiplied) 45) (gAllL (opsL m_L_added m_L_product) 45) (R.map rowT) (fracD q) := by
  have nd := rows_nodup h
  obtain ⟨ρ, E1, E2⟩ := ev_rows ops_P ops_L (T := R.map fun r => (r.1, r.2.D)) h (look_rows nd) hok
  obtain ⟨S, r, rfl⟩ : ∃ S r, R = S ++ [r] := ⟨R.dropLast, R.getLast (by intro z; rw [z] at h1; simp at h1), (List.dropLast_concat_getLast _).symm⟩
  obtain ⟨x, t⟩ := r
  have hx : x ∈ (S ++ [(x, t)]).map (·.1) := by simp
  obtain ⟨b1, b2, b3⟩ := h.bd x hx
  obtain ⟨ok1, u1, l1, q1⟩ := E1 x hx
  obtain ⟨ok2, u2, l2, q2⟩ := E2 x hx
  have lt := look_rows nd (x, t) (by simp)
  rw [l1] at lt
  cases lt
  rw [l1] at l2
  cases l2
  obtain ⟨c1, hc1, e1, _⟩ := q1 q 10 hq (by omega)
  obtain ⟨c2, hc2, e2, _⟩ := q2 q 10 hq (by omega)
  have nd' : (((S ++ [(x, t)]).map fun r => (r.1, r.2.D)).map (·.1)).Nodup := by rw [List.map_map]; exact nd
  refine ⟨fracD (ρ x q), c1 + 1, c2, ?_, by omega, ?_, by omega, okD_of ?_⟩
  · unfold gAll
    rw [pairsT_rows]
    have : ((S ++ [(x, t)]).map rowT).getLast? = some (.tuple [.str x, t.D]) := by simp [rowT]
    rw [this]
    dsimp only
    rw [if_pos nd']
    unfold gRow
    dsimp only
    rw [if_pos ⟨rfl, ok1⟩, l1]
    dsimp only
    rw [evT_le (by omega) e1]
    rfl
  · unfold gAllL
    rw [pairsT_rows]
    have : ((S ++ [(x, t)]).map rowT).getLast? = some (.tuple [.str x, t.D]) := by simp [rowT]
    rw [this]
    dsimp only
    rw [if_pos nd']
    exact evT_le (by omega) e2
  · exact alike_to 8 (fracD (ρ x q)) (lk_frac (n := 6))
end NW
namespace K18
open PySem PySem.Spec PyProof.Rows L2 NW
theorem place_to {f : Fl} (hf : FlOk f) : (m_L_place [] f).To fun d f' => ∃ q, d = fracD q ∧ FB 10 q ∧ FlOk f' := by
  unfold m_L_place
  rw [flow_to]
  unfold b_L_place
  simp [startL]
  refine (pick_to hf (by omega) (by omega)).mono ?_
  rintro _ f1 ⟨j, rfl, j0, j1, o1⟩
  refine ixl_to (p := fun x => ∃ m : Int, x = .int m ∧ 1 ≤ m ∧ m ≤ 999) j0 j1 (by simp) ?_
  rintro _ ⟨m, rfl, m1, m2⟩
  simp
  refine (any_fraction_to o1 (n := 10) m1 (by omega) (by omega) (by omega) (by omega)).mono ?_
  rintro _ f2 ⟨q, rfl, hq, o2⟩
  exact ⟨q, rfl, hq, o2⟩
theorem nm_ok {s : Str} (h : NmOk s) : PyData.strOk s = true := strOk_iff.mpr fun c hc => by
  have := h.az c hc
  omega
theorem rf_ok {r : Rf} {P : PyData → Fl → Prop} (h : r.To P) : ∃ d b f, r = .ok d b f ∧ P d f := by
  unfold Rf.To at h
  split at h
  · exact ⟨_, _, _, rfl, h⟩
  · exact h.elim
theorem hsem : ∀ ns : List Int, ns.length ≤ 63 → NW.Hs18 m_L_reckoningl m_L_place (m_L_alike 8) (gAll (opsP m_added m_taken m_multiplied) 45) (gAllL (opsL m_L_added m_L_product) 45) ns := by
  intro ns _
  obtain ⟨_, f1, e1, R, er, ea, eh, rfl, r1, r6, RW, rn, o1⟩ := reckoningl_to (most := 6) (fl0_ok ns) (by omega) (by omega)
  obtain ⟨_, f2, e2, S, es, eb, ei, rfl, s1, s6, SW, sn, o2⟩ := reckoningl_to (most := 6) o1 (by omega) (by omega)
  obtain ⟨_, b1, f3, e3, p, rfl, hp, o3⟩ := rf_ok (place_to o2)
  obtain ⟨_, b2, f4, e4, q, rfl, hq, o4⟩ := rf_ok (place_to o3)
  refine ⟨_, _, _, _, f1, f2, f3, f4, b1, b2, e1, e2, e3, e4, ?_⟩
  have z0 : (PyData.tuple [.int 0, .int 1]) = fracD 0 := rfl
  have z1 : (PyData.tuple [.int 1, .int 1]) = fracD 1 := rfl
  rintro xs hx r hr
  obtain ⟨u, rfl, hu⟩ : ∃ u, r = fracD u ∧ FB 10 u := by
    rcases hr with rfl | rfl | rfl | rfl
    · exact ⟨p, rfl, hp⟩
    · exact ⟨q, rfl, hq⟩
    · exact ⟨0, z0, FB.zero (by omega)⟩
    · exact ⟨1, z1, FB.one (by omega)⟩
  rcases hx with rfl | rfl
  · exact same_rows RW r1 r6 (fun r hr => nm_ok (rn r hr)) hu
  · exact same_rows SW s1 s6 (fun r hr => nm_ok (sn r hr)) hu
end K18
namespace K18
open PySem PySem.Spec PyProof.Rows L2 LiI NW
def topS (i : Nat) : Stmt := PySem.Challenge.pw_nestwright_k18_reckonings_valued.main.body.getD i (.Pass ⟨0, 0, 0, 0⟩)
abbrev s_common_part : Stmt := topS 1
theorem sc_common_part : FnScope [("one" : Str), ("other" : Str)] [("one" : Str), ("other" : Str)] (defScope s_common_part) := ⟨rfl, rfl, rfl, by decide +kernel, rfl, by decide +kernel, by decide +kernel⟩
theorem k_common_part {P : Program} {w : World} {K : PySem.W.Frag} {mg : Str → Option Value} {base : Heap} (hNT : base.NoSeer ∧ P.given.tree = none) (z_abs : mg "abs" = none) (D : DefIn K mg "common_part" s_common_part [("one" : Str), ("other" : Str)]) : Cal P w K mg base 33 "common_part" [("one" : Str), ("other" : Str)] (spP K 2 m_common_part) := by
  unfold m_common_part
  exact calP D sc_common_part (by decide) (fun f cdv A outer s H E hr => ⟨_, ((qss_cons (qs_while PassesOwn.never (qt_ne hr (q_var 1) q_int)
    (qss_one (qs_par 0 1 rfl sc_common_part.nd (qa_cons (q_var 1) (qa_cons (q_mod (q_var 0) (q_var 1)) qa_nil)))))
    (qss_one (qs_ret (q_abs z_abs (qa_cons (q_var 0) qa_nil))))))⟩)
abbrev s_fraction : Stmt := topS 2
theorem sc_fraction : FnScope [("top" : Str), ("bottom" : Str), ("part" : Str)] [("top" : Str), ("bottom" : Str)] (defScope s_fraction) := ⟨rfl, rfl, rfl, by decide +kernel, rfl, by decide +kernel, by decide +kernel⟩
theorem k_fraction {P : Program} {w : World} {K : PySem.W.Frag} {mg : Str → Option Value} {base : Heap} (hNT : base.NoSeer ∧ P.given.tree = none) (k_common_part : Cal P w K mg base 33 "common_part" [("one" : Str), ("other" : Str)] (spP K 2 m_common_part)) (D : DefIn K mg "fraction" s_fraction [("top" : Str), ("bottom" : Str)]) : Cal P w K mg base 34 "fraction" [("top" : Str), ("bottom" : Str)] (spP K 2 m_fraction) := by
  unfold m_fraction
  exact calP D sc_fraction (by decide) (fun f cdv A outer s H E hr => ⟨_, ((qss_cons (qs_set 2 sc_fraction.nd (q_calP k_common_part hr (by decide) (qa_cons (q_var 0) (qa_cons (q_var 1) qa_nil))))
    (qss_cons (qs_if (qt_lt (q_var 1) q_int)
    (qss_one (qs_set 2 sc_fraction.nd (q_sub q_int (q_var 2))))
    qss_nil)
    (qss_one (qs_ret (q_tup (qa_cons (q_div (seX hNT hr (by decide) ⟨_, _, rfl, rfl, rfl, rfl, rfl⟩) (q_var 0) (q_var 2)) (qa_cons (q_div (seX hNT hr (by decide) ⟨_, _, rfl, rfl, rfl, rfl, rfl⟩) (q_var 1) (q_var 2)) qa_nil))))))))⟩)
abbrev s_added : Stmt := topS 3
theorem sc_added : FnScope [("one" : Str), ("other" : Str)] [("one" : Str), ("other" : Str)] (defScope s_added) := ⟨rfl, rfl, rfl, by decide +kernel, rfl, by decide +kernel, by decide +kernel⟩
theorem k_added {P : Program} {w : World} {K : PySem.W.Frag} {mg : Str → Option Value} {base : Heap} (hNT : base.NoSeer ∧ P.given.tree = none) (k_fraction : Cal P w K mg base 34 "fraction" [("top" : Str), ("bottom" : Str)] (spP K 2 m_fraction)) (D : DefIn K mg "added" s_added [("one" : Str), ("other" : Str)]) : Cal P w K mg base 35 "added" [("one" : Str), ("other" : Str)] (spP K 2 m_added) := by
  unfold m_added
  exact calP D sc_added (by decide) (fun f cdv A outer s H E hr => ⟨_, ((qss_one (qs_ret (q_calP k_fraction hr (by decide) (qa_cons (q_addA (q_mulA (q_ix (q_var 0) q_int) (q_ix (q_var 1) q_int)) (q_mulA (q_ix (q_var 1) q_int) (q_ix (q_var 0) q_int))) (qa_cons (q_mulA (q_ix (q_var 0) q_int) (q_ix (q_var 1) q_int)) qa_nil))))))⟩)
abbrev s_taken : Stmt := topS 4
theorem sc_taken : FnScope [("one" : Str), ("other" : Str)] [("one" : Str), ("other" : Str)] (defScope s_taken) := ⟨rfl, rfl, rfl, by decide +kernel, rfl, by decide +kernel, by decide +kernel⟩
theorem k_taken {P : Program} {w : World} {K : PySem.W.Frag} {mg : Str → Option Value} {base : Heap} (hNT : base.NoSeer ∧ P.given.tree = none) (k_fraction : Cal P w K mg base 34 "fraction" [("top" : Str), ("bottom" : Str)] (spP K 2 m_fraction)) (D : DefIn K mg "taken" s_taken [("one" : Str), ("other" : Str)]) : Cal P w K mg base 35 "taken" [("one" : Str), ("other" : Str)] (spP K 2 m_taken) := by
  unfold m_taken
  exact calP D sc_taken (by decide) (fun f cdv A outer s H E hr => ⟨_, ((qss_one (qs_ret (q_calP k_fraction hr (by decide) (qa_cons (q_sub (q_mulA (q_ix (q_var 0) q_int) (q_ix (q_var 1) q_int)) (q_mulA (q_ix (q_var 1) q_int) (q_ix (q_var 0) q_int))) (qa_cons (q_mulA (q_ix (q_var 0) q_int) (q_ix (q_var 1) q_int)) qa_nil))))))⟩)
abbrev s_multiplied : Stmt := topS 5
theorem sc_multiplied : FnScope [("one" : Str), ("other" : Str)] [("one" : Str), ("other" : Str)] (defScope s_multiplied) := ⟨rfl, rfl, rfl, by decide +kernel, rfl, by decide +kernel, by decide +kernel⟩
theorem k_multiplied {P : Program} {w : World} {K : PySem.W.Frag} {mg : Str → Option Value} {base : Heap} (hNT : base.NoSeer ∧ P.given.tree = none) (k_fraction : Cal P w K mg base 34 "fraction" [("top" : Str), ("bottom" : Str)] (spP K 2 m_fraction)) (D : DefIn K mg "multiplied" s_multiplied [("one" : Str), ("other" : Str)]) : Cal P w K mg base 35 "multiplied" [("one" : Str), ("other" : Str)] (spP K 2 m_multiplied) := by
  unfold m_multiplied
  exact calP D sc_multiplied (by decide) (fun f cdv A outer s H E hr => ⟨_, ((qss_one (qs_ret (q_calP k_fraction hr (by decide) (qa_cons (q_mulA (q_ix (q_var 0) q_int) (q_ix (q_var 1) q_int)) (qa_cons (q_mulA (q_ix (q_var 0) q_int) (q_ix (q_var 1) q_int)) qa_nil))))))⟩)
abbrev s_valued : Stmt := topS 8
theorem sc_valued : FnScope [("reckoning" : Str), ("r" : Str)] [("reckoning" : Str), ("r" : Str)] (defScope s_valued) := ⟨rfl, rfl, rfl, by decide +kernel, rfl, by decide +kernel, by decide +kernel⟩
abbrev sV_init : Stmt := inClass (topS 7) 0
abbrev sV_row : Stmt := inClass (topS 7) 1
abbrev sV_term : Stmt := inClass (topS 7) 2
abbrev sV_both : Stmt := inClass (topS 7) 3
section
variable {P : Program} {w : World} {K : PySem.W.Frag} {mg : Str → Option Value} {base : Heap} {F : Ops}
theorem two {a b : V} : [a, b].length ≤ sizeLine := by rw [sizeLine_eq]; exact (by decide : 2 ≤ 16777216)
theorem u9 {u : Nat} (h : u + 64 < cLine) : u + 9 < cLine := by omega
theorem u1 {u : Nat} (h : u + 64 < cLine) : u + 1 < cLine := by omega
theorem scV_row : FnScope ["self", "name", "r"] ["self", "name", "r"] (defScope sV_row) := ⟨rfl, rfl, rfl, by decide +kernel, rfl, by decide +kernel, by decide +kernel⟩
theorem atN_put {kvs : NT} {k : NestedKey} {b : Addr} {v : V} : atN (putN kvs k b v) k = some v := by
  unfold putN
  by_cases h : (atN kvs k).isSome = true
  · rw [if_pos h]
    induction kvs with
    | nil => simp [atN] at h
    | cons y kvs ih =>
      by_cases e : y.1 = k
      · simp [atN, List.find?_cons, e]
      · have h' : (atN kvs k).isSome = true := by simpa [atN, List.find?_cons, e] using h
        have := ih h'
        simp [atN, List.find?_cons, e] at this ⊢
        exact this
  · rw [if_neg h]
    have hn : atN kvs k = none := by
      cases z : atN kvs k with
      | none => rfl
      | some _ => rw [z] at h; simp at h
    unfold atN at hn ⊢
    rw [Option.map_eq_none_iff] at hn
    rw [List.find?_append, hn]
    simp
theorem key_new {B : Addr → Prop} {H : Hp} {x : Str} {r : PyData} {vr : V} {a : Addr} (hO : NoTup H B) (ha : H a = none) (rr : RT K B H vr r) : RT K B (upd H a (.tup [.str x, vr])) (.ref a) (.tuple [.str x, r]) := by
  have k : Keep B H B (upd H a (.tup [.str x, vr])) := fun b o e n => ⟨by rw [upd_ne (ne_of_none e ha)]; exact e, n⟩
  exact .tup (.inl ⟨.inl upd_same, fun z => (hO _ z).1 ha⟩) (.cons (.str _) (.cons (RT.mono k _ _ rr) .nil))
theorem okV_row {f fT C : Addr} {fd fdT : FuncData} {n kk : Nat} (Fn : Fun K "row_at" "Valuing.row_at" sV_row f fd) (T : VlC K C) (MT : Meth K C "term_at" fT) (FT : FnOk P w K mg base CX0 kk fT fdT ["self", "term", "r"] (spV K P w F C 2 (gVal F n))) (bT : Binds K fdT ["self", "term", "r"] []) :
    FnOk P w K mg base CX0 (kk + 1) f fd ["self", "name", "r"] (spV K P w F C 2 (gRow F n)) := by
  refine Fn.ok scV_row (fun vs H Q E h => ?_) (fun cdv A outer s H vs Q E hr h => ?_)
  · obtain ⟨B, p, dx, pt, pf, tv, T, N, ws, ds, rfl, _, rw_, hl, _⟩ := h
    rw [List.length_cons, rw_.len, hl]; rfl
  · obtain ⟨B, p, dx, pt, pf, tv, TT, N, ws, ds, rfl, I, rw_, hl, d, c, e, hN, k⟩ := h
    unfold gRow at e
    split at e
    · rename_i x r
      cases rw_ with
      | cons r1 r2 =>
      cases r2 with
      | cons r2 r3 =>
      cases r3
      cases r1
      rename_i vr
      split at e
      · rename_i hf
        obtain ⟨hf, hx⟩ := hf
        cases eu : TT.lookup x with
        | none => rw [eu] at e; cases e
        | some u =>
          rw [eu] at e
          cases ev : evT F TT n u r with
          | none => simp only [ev] at e; cases e
          | some z =>
            simp only [ev, Option.map_some, Option.some.injEq, Prod.mk.injEq] at e
            obtain ⟨rfl, rfl⟩ := e
            refine ⟨_, pss_cons (ps_if (pt_cmpR (op_nnotin (u9 hr.units)) (pe_tup (pa_cons (pv 1) (pa_cons (pv 2) pa_nil))) (pe_fld (pv 0) rfl) (by rfl))
                (pss_one (ps_nput (u9 hr.units) (pe_fld (pv 0) rfl) (pe_tup (pa_cons (pv 1) (pa_cons (pv 2) pa_nil))) (pe_meth (pv 0) T.cl MT FT hr bT .nil pass0 (pa_cons (pe_dget (u1 hr.units) (pe_fld (pv 0) rfl) (pv 1) (fun _ _ => rfl)) (pa_cons (pv 2) pa_nil))) rfl)) pss_nil)
              (pss_one (ps_ret (pe_nget (u9 hr.units) (pe_fld (pv 0) rfl) (pe_tup (pa_cons (pv 1) (pa_cons (pv 2) pa_nil))) (fun _ _ => rfl)))), ?_⟩
            obtain ⟨n1, n2⟩ := I.ne
            refine ⟨_, rfl, _, rfl, two, fun a ha => ?_⟩
            have g1 : ∀ b o, H b = some o → upd H a (.tup [.str x, vr]) b = some o := fun b o e => by rw [upd_ne (ne_of_none e ha)]; exact e
            have I1 := I.grow g1
            have rk := key_new I.nB ha r2 (x := x)
            obtain ⟨kvs, hf1, vf1, hl1⟩ := I1.hf
            obtain ⟨key, ek, ka⟩ := keyOk_at (fr_key (x := x) hf) rk
            refine ⟨_, rfl, p, C, dx, _, _, rfl, I1.hp, T.cl, T.nf, vf_found, ?_⟩
            refine ⟨pf, a, kvs, key, rfl, rfl, ⟨hf1, vf1.keys⟩, ka, _, rfl, ?_⟩
            rw [if_pos rfl]
            cases eat : atN kvs key with
            | some v0 =>
              refine ifF (by rfl) ?_
              obtain ⟨u', d', n', c', rv, hu', he'⟩ := vf1.at eat ek
              rw [eu] at hu'
              cases hu'
              have := evT_det ev he'
              subst this
              refine ⟨_, rfl, p, C, dx, _, _, rfl, I1.hp, T.cl, T.nf, vf_found, ?_⟩
              refine ⟨_, rfl, _, rfl, two, fun a2 ha2 => ?_⟩
              have g2 : ∀ b o, upd H a (.tup [.str x, vr]) b = some o → upd (upd H a (.tup [.str x, vr])) a2 (.tup [.str x, vr]) b = some o := fun b o e => by rw [upd_ne (ne_of_none e ha2)]; exact e
              have I2 := I1.grow g2
              have k1 : Keep B H B (upd H a (.tup [.str x, vr])) := fun b o e n => ⟨g1 b o e, n⟩
              have k2 : Keep B (upd H a (.tup [.str x, vr])) B (upd (upd H a (.tup [.str x, vr])) a2 (.tup [.str x, vr])) := fun b o e n => ⟨g2 b o e, n⟩
              have rk2 := key_new I1.nB ha2 (RT.mono k1 _ _ r2) (x := x)
              obtain ⟨key2, ek2, ka2⟩ := keyOk_at (fr_key (x := x) hf) rk2
              rw [ek] at ek2
              cases ek2
              refine ⟨pf, a2, kvs, key, v0, rfl, rfl, ⟨g2 _ _ hf1, (vf1.mono k2).keys⟩, ka2, eat, ?_⟩
              exact k _ _ (fun b o _ e => g2 b o (g1 b o e)) (I2.le (by omega)) (RT.mono k2 _ _ rv)
            | none =>
              refine ifT (by rfl) ?_
              have k1 : Keep B H B (upd H a (.tup [.str x, vr])) := fun b o e n => ⟨g1 b o e, n⟩
              obtain ⟨vt, hvt, rvt⟩ := tv_at I1.tk I1.tr eu
              refine ⟨_, rfl, p, dx, _, rfl, I1.hp, vf_no (by decide +kernel) (by decide +kernel), ?_⟩
              refine ⟨_, rfl, p, C, dx, _, _, rfl, I1.hp, T.cl, T.nt, vf_terms, _, rfl, pt, vt, rfl, .inl ⟨tv, .inr x, .inl I1.ht, rfl, hvt.symm⟩, ?_⟩
              refine ⟨_, rfl, ?_⟩
              refine ⟨B, p, dx, pt, pf, tv, TT, N, _, [u, r], rfl, I1, .cons rvt (.cons (RT.mono k1 _ _ r2) .nil), rfl, z.1, z.2, ev, by omega, fun v H2 g2 I2 rv => ?_⟩
              have k2 := I1.keep g2
              refine ⟨_, rfl, p, C, dx, _, _, rfl, I2.hp, T.cl, T.nf, vf_found, ?_⟩
              refine ⟨_, rfl, _, rfl, two, fun a3 ha3 => ?_⟩
              have rr2 := RT.mono k2 _ _ (RT.mono k1 _ _ r2)
              have g3 : ∀ b o, H2 b = some o → upd H2 a3 (.tup [.str x, vr]) b = some o := fun b o e => by rw [upd_ne (ne_of_none e ha3)]; exact e
              have k3 : Keep B H2 B (upd H2 a3 (.tup [.str x, vr])) := fun b o e n => ⟨g3 b o e, n⟩
              have I3 := I2.grow g3
              have rk3 := key_new I2.nB ha3 rr2 (x := x)
              generalize upd H2 a3 (.tup [.str x, vr]) = H3 at g3 k3 I3 rk3
              obtain ⟨key3, ek3, ka3⟩ := keyOk_at (fr_key (x := x) hf) rk3
              rw [ek] at ek3
              cases ek3
              obtain ⟨kvs3, hf3, vf3, hl3⟩ := I3.hf
              refine ⟨pf, a3, kvs3, key, rfl, rfl, ⟨hf3, vf3.keys⟩, ka3, by rw [sizeLine_eq]; omega, ?_⟩
              obtain ⟨I4, g4, vf4⟩ := I3.put hf ek rk3 (RT.mono k3 _ _ rv) eu ev hf3 vf3 hl3
              have k4 := I3.keep g4
              refine ⟨_, rfl, p, C, dx, _, _, rfl, I4.hp, T.cl, T.nf, vf_found, ?_⟩
              refine ⟨_, rfl, _, rfl, two, fun a5 ha5 => ?_⟩
              have g5 : ∀ b o, upd H3 pf (NkO P w pf (putN kvs3 key a3 v)) b = some o → upd (upd H3 pf (NkO P w pf (putN kvs3 key a3 v))) a5 (.tup [.str x, vr]) b = some o := fun b o e => by rw [upd_ne (ne_of_none e ha5)]; exact e
              have k5 : Keep B (upd H3 pf (NkO P w pf (putN kvs3 key a3 v))) B (upd (upd H3 pf (NkO P w pf (putN kvs3 key a3 v))) a5 (.tup [.str x, vr])) := fun b o e n => ⟨g5 b o e, n⟩
              have I5 := I4.grow g5
              have rk5 := key_new I4.nB ha5 (RT.mono k4 _ _ (RT.mono k3 _ _ rr2)) (x := x)
              obtain ⟨key5, ek5, ka5⟩ := keyOk_at (fr_key (x := x) hf) rk5
              rw [ek] at ek5
              cases ek5
              refine ⟨pf, a5, _, key, v, rfl, rfl, ⟨g5 _ _ upd_same, (vf4.mono k5).keys⟩, ka5, atN_put, ?_⟩
              exact k _ _ (fun b o n e => g5 b o (g4 b o n (g3 b o (g2 b o n (g1 b o e))))) (I5.le (by omega)) (RT.mono k5 _ _ (RT.mono k4 _ _ (RT.mono k3 _ _ rv)))
      · cases e
    · cases e
theorem scV_both : FnScope ["self", "term", "r", "first", "found", "turn", "other"] ["self", "term", "r"] (defScope sV_both) := ⟨rfl, rfl, rfl, by decide +kernel, rfl, by decide +kernel, by decide +kernel⟩
theorem sq_keep {B : Addr → Prop} {H H' : Hp} {a : Addr} {xs : List V} (k : Keep B H B H') (h : SqTB K B H a xs) : SqTB K B H' a xs := by
  rcases h with ⟨h1 | ⟨u, h1⟩, h2⟩ | h
  · exact .inl ⟨.inl (k _ _ h1 h2).1, h2⟩
  · exact .inl ⟨.inr ⟨u, (k _ _ h1 h2).1⟩, h2⟩
  · exact .inr h
theorem okD_some {r : Rp} {d : PyData} (h : okD r = some d) : ∃ fr, r = .ok d fr := by
  unfold okD at h
  split at h
  · rename_i d' fr
    cases h
    exact ⟨fr, rfl⟩
  · cases h
theorem eqv_str {a b : Str} : PyData.eqv (.str a) (.str b) = decide (a = b) := by
  simp only [PyData.eqv]
  by_cases h : a = b
  · subst h; simp
  · rw [decide_eq_false h]
    simpa using h
theorem spV_term {F : Ops} {C p dx pt pf : Addr} {B : Addr → Prop} {tv : List (Key × V)} {TT : List (Str × PyData)} {N n : Nat} {H : Hp} {Q : VK} {E : XK} {va vr : V} {a r : PyData} {z : PyData × Nat} (I : VlI K P w F C TT B p dx pt pf tv N H) (ra : RT K B H va a) (rr : RT K B H vr r) (e : evT F TT n a r = some z) (hN : N + z.2 ≤ 1000000)
    (q : ∀ v H', Gro pf H H' → VlI K P w F C TT B p dx pt pf tv (N + z.2) H' → RT K B H' v z.1 → Q v H') : spV K P w F C 2 (gVal F n) [.ref p, va, vr] H Q E :=
  ⟨B, p, dx, pt, pf, tv, TT, N, _, [a, r], rfl, I, .cons ra (.cons rr .nil), rfl, z.1, z.2, e, hN, q⟩
theorem spP_two {m : List PyData → Rp} {C p dx pt pf : Addr} {F : Ops} {B : Addr → Prop} {tv : List (Key × V)} {TT : List (Str × PyData)} {N : Nat} {H : Hp} {Q : VK} {E : XK} {va vb : V} {a b d : PyData} (I : VlI K P w F C TT B p dx pt pf tv N H) (ra : RT K B H va a) (rb : RT K B H vb b) (e : okD (m [a, b]) = some d)
    (q : ∀ v H', (∀ b o, H b = some o → H' b = some o) → VlI K P w F C TT B p dx pt pf tv N H' → RT K B H' v d → Q v H') : spP K 2 m [va, vb] H Q E := by
  obtain ⟨fr, e'⟩ := okD_some e
  exact ⟨B, [a, b], d, fr, I.nB, .cons ra (.cons rb .nil), rfl, e', fun v H' g rv _ => q v H' g (I.grow g) rv⟩
theorem okV_both {f fT C : Addr} {fd fdT : FuncData} {n kk kA kS kM : Nat} {mA mS mM : List PyData → Rp} (z_range : mg "range" = none)
    (CA : Cal P w K mg base kA "added" ["one", "other"] (spP K 2 mA)) (CS : Cal P w K mg base kS "taken" ["one", "other"] (spP K 2 mS)) (CM : Cal P w K mg base kM "multiplied" ["one", "other"] (spP K 2 mM)) (hA : kA ≤ kk) (hS : kS ≤ kk) (hM : kM ≤ kk)
    (Fn : Fun K "both" "Valuing.both" sV_both f fd) (T : VlC K C) (MT : Meth K C "term_at" fT) (FT : FnOk P w K mg base CX0 kk fT fdT ["self", "term", "r"] (spV K P w (opsP mA mS mM) C 2 (gVal (opsP mA mS mM) n))) (bT : Binds K fdT ["self", "term", "r"] []) :
    FnOk P w K mg base CX0 (kk + 1) f fd ["self", "term", "r"] (spV K P w (opsP mA mS mM) C 2 (gBoth (opsP mA mS mM) n)) := by
  obtain ⟨gA, dA, FA, eA, qA, bA⟩ := CA.ex
  obtain ⟨gS, dS, FS, eS, qS, bS⟩ := CS.ex
  obtain ⟨gM, dM, FM, eM, qM, bM⟩ := CM.ex
  refine Fn.ok scV_both (fun vs H Q E h => ?_) (fun cdv A outer s H vs Q E hr h => ?_)
  · obtain ⟨B, p, dx, pt, pf, tv, T, N, ws, ds, rfl, _, rw_, hl, _⟩ := h
    rw [List.length_cons, rw_.len, hl]; rfl
  · obtain ⟨B, p, dx, pt, pf, tv, TT, N, ws, ds, rfl, I, rw_, hl, d, c, e, hN, k⟩ := h
    unfold gBoth at e
    split at e
    · rename_i so as r
      cases rw_ with
      | cons r1 r2 =>
      cases r2 with
      | cons r2 r3 =>
      cases r3
      rename_i vt vr
      split at e
      · rename_i hso
        cases r1 with
        | @tup pt1 xs1 _ hs1 ha1 =>
        refine ⟨_, pss_cons (ps_set (i := 3) scV_both.nd rfl (.inl rfl) (pe_meth (pv 0) T.cl MT FT hr bT .nil pass0 (pa_cons (pe_ix ix_tup (pv 1) pe_int (fun _ _ => rfl)) (pa_cons (pv 2) pa_nil))))
          (pss_cons (ps_if (pt_cmpR (op_eqD hr.units) (pe_ix ix_tup (pv 1) pe_int (fun _ _ => rfl)) pe_str (nomark _))
              (pss_cons (ps_set (i := 4) scV_both.nd rfl (.inl rfl) (pe_tup (pa_cons pe_int (pa_cons pe_int pa_nil))))
              (pss_cons (ps_for PassesOwn.never rfl (pi_range1 (by rfl) z_range (pa_cons (pe_ix ix_tup (pv 1) pe_int (fun _ _ => rfl)) pa_nil)) (pg_name (i := 5) scV_both.nd rfl (.inl rfl))
                (pss_one (ps_set (i := 4) scV_both.nd rfl (.inl rfl) (pe_call FM (hr.mono hM) (by rfl) eM qM bM .nil pass0 (pa_cons (pv 4) (pa_cons (pv 3) pa_nil))))))
              (pss_one (ps_ret (pv 4))))) pss_nil)
          (pss_cons (ps_set (i := 6) scV_both.nd rfl (.inl rfl) (pe_meth (pv 0) T.cl MT FT hr bT .nil pass0 (pa_cons (pe_ix ix_tup (pv 1) pe_int (fun _ _ => rfl)) (pa_cons (pv 2) pa_nil))))
          (pss_cons (ps_if (pt_cmpR (op_eqD hr.units) (pe_ix ix_tup (pv 1) pe_int (fun _ _ => rfl)) pe_str (nomark _)) (pss_one (ps_ret (pe_call FA (hr.mono hA) (by rfl) eA qA bA .nil pass0 (pa_cons (pv 3) (pa_cons (pv 6) pa_nil))))) pss_nil)
          (pss_cons (ps_if (pt_cmpR (op_eqD hr.units) (pe_ix ix_tup (pv 1) pe_int (fun _ _ => rfl)) pe_str (nomark _)) (pss_one (ps_ret (pe_call FS (hr.mono hS) (by rfl) eS qS bS .nil pass0 (pa_cons (pv 3) (pa_cons (pv 6) pa_nil))))) pss_nil)
          (pss_one (ps_ret (pe_call FM (hr.mono hM) (by rfl) eM qM bM .nil pass0 (pa_cons (pv 3) (pa_cons (pv 6) pa_nil))))))))), ?_⟩
        cases ha1 with
        | cons rs1 rest1 =>
        cases rs1
        rename_i ys
        have so0 : ∀ {H' : Hp} {R : VK}, True := fun {_ _} => trivial
        unfold evB at e
        by_cases hp1 : so = "power"
        · rw [if_pos hp1] at e
          split at e
          · rename_i a kn
            cases rest1 with
            | cons ra rest2 =>
            cases rest2 with
            | cons rk rest3 =>
            cases rest3
            cases rk
            rename_i va
            split at e
            · rename_i hk
              dsimp only at e
              cases ez : evT (opsP mA mS mM) TT n a r with
              | none => rw [ez] at e; cases e
              | some z =>
                rw [ez] at e
                simp only [Option.map_eq_some_iff, Prod.mk.injEq] at e
                obtain ⟨y, ey, rfl, rfl⟩ := e
                refine ⟨_, rfl, p, dx, _, rfl, I.hp, vf_no (by decide +kernel) (by decide +kernel), ?_⟩
                refine ⟨_, rfl, pt1, _, 1, va, rfl, rfl, hs1.q, rfl, _, rfl, ?_⟩
                refine spV_term (E := E0) I ra r2 ez hN fun v1 H1 g1 I1 rv1 => ?_
                have k1 := I.keep g1
                have hs2 : SqT K H1 pt1 [V.str so, va, V.int kn] := (sq_keep k1 hs1).q
                refine ⟨_, rfl, pt1, _, 0, _, rfl, rfl, hs2, rfl, ?_⟩
                refine ⟨.str so, .str "power", .str _, .str _, str_sh hso, str_sh (by decide +kernel), _, rfl, ?_⟩
                refine ifT (by rw [eqv_str]; exact decide_eq_true hp1) ?_
                refine ⟨two, fun a1 ha1 => ?_⟩
                have h2 : ∀ b o, H1 b = some o → upd H1 a1 (.tup [.int 1, .int 1]) b = some o := fun b o e => by rw [upd_ne (ne_of_none e ha1)]; exact e
                have I2 := I1.grow h2
                have k2 : Keep B H1 B (upd H1 a1 (.tup [.int 1, .int 1])) := fun b o e n => ⟨h2 b o e, n⟩
                have r1 : RT K B (upd H1 a1 (.tup [.int 1, .int 1])) (.ref a1) oneD := .tup (.inl ⟨.inl upd_same, fun z => (I1.nB _ z).1 ha1⟩) (.cons (.int _) (.cons (.int _) .nil))
                have hs3 := sq_keep k2 (sq_keep k1 hs1)
                refine ⟨_, rfl, pt1, _, 2, .int kn, rfl, rfl, hs3.q, rfl, kn, rfl, ?_⟩
                refine ⟨by omega, by omega, ?_⟩
                refine for_range (fun i σ H' => ∃ (acc : PyData) (vx : V) (v5 : Option V), Gro pf H H' ∧ VlI K P w (opsP mA mS mM) C TT B p dx pt pf tv (N + z.2) H' ∧ RT K B H' vx acc ∧ RT K B H' v1 z.1 ∧ evP (opsP mA mS mM).M z.1 (kn.toNat - i) acc = some y ∧ σ = [some (.ref p), some (.ref pt1), some vr, some v1, some vx, v5, none])
                  ⟨oneD, .ref a1, none, fun b o n e => h2 b o (g1 b o n e), I2, r1, RT.mono k2 _ _ rv1, ey, rfl⟩ ?_ ?_
                · rintro i σ H' hi ⟨acc, vx, v5, g', I', ra', rv', e', rfl⟩
                  obtain ⟨j, hj⟩ : ∃ j, kn.toNat - i = j + 1 := ⟨kn.toNat - i - 1, by omega⟩
                  rw [hj, evP] at e'
                  cases eb : (opsP mA mS mM).M acc z.1 with
                  | none => rw [eb] at e'; cases e'
                  | some b =>
                    rw [eb] at e'
                    refine ⟨_, rfl, _, rfl, ?_⟩
                    refine spP_two (E := E0) I' ra' rv' eb fun v H'' g'' I'' rv'' => ?_
                    have k'' : Keep B H' B H'' := fun b o e n => ⟨g'' b o e, n⟩
                    refine ⟨b, v, _, fun b o n e => g'' b o (g' b o n e), I'', rv'', RT.mono k'' _ _ rv', ?_, rfl⟩
                    rw [show kn.toNat - (i + 1) = j by omega]
                    exact e'
                · rintro σ H' ⟨acc, vx, v5, g', I', ra', rv', e', rfl⟩
                  have z0 : kn.toNat - (kn - 0).toNat = 0 := by omega
                  first | rw [z0, evP] at e' | (rw [Nat.sub_self, evP] at e')
                  cases e'
                  exact ⟨_, rfl, k _ _ g' I' ra'⟩
            · cases e
          · cases e
        · rw [if_neg hp1] at e
          split at e
          · rename_i a b
            cases rest1 with
            | cons ra rest2 =>
            cases rest2 with
            | cons rb rest3 =>
            cases rest3
            rename_i va vb
            dsimp only at e
            cases ez : evT (opsP mA mS mM) TT n a r with
            | none => rw [ez] at e; cases e
            | some z =>
              rw [ez] at e
              dsimp only at e
              cases ey : evT (opsP mA mS mM) TT n b r with
              | none => rw [ey] at e; cases e
              | some y =>
                rw [ey] at e
                dsimp only at e
                rw [Option.map_eq_some_iff] at e
                obtain ⟨x, ex, e2⟩ := e
                simp only [Prod.mk.injEq] at e2
                obtain ⟨rfl, rfl⟩ := e2
                refine ⟨_, rfl, p, dx, _, rfl, I.hp, vf_no (by decide +kernel) (by decide +kernel), ?_⟩
                refine ⟨_, rfl, pt1, _, 1, va, rfl, rfl, hs1.q, rfl, _, rfl, ?_⟩
                refine spV_term (E := E0) I ra r2 ez (by omega) fun v1 H1 g1 I1 rv1 => ?_
                have k1 := I.keep g1
                have hs2 := sq_keep k1 hs1
                refine ⟨_, rfl, pt1, _, 0, _, rfl, rfl, hs2.q, rfl, ?_⟩
                refine ⟨.str so, .str "power", .str _, .str _, str_sh hso, str_sh (by decide +kernel), _, rfl, ?_⟩
                refine ifF (by rw [eqv_str]; exact decide_eq_false hp1) ?_
                refine ⟨_, rfl, p, dx, _, rfl, I1.hp, vf_no (by decide +kernel) (by decide +kernel), ?_⟩
                refine ⟨_, rfl, pt1, _, 2, vb, rfl, rfl, hs2.q, rfl, _, rfl, ?_⟩
                refine spV_term (E := E0) I1 (RT.mono k1 _ _ rb) (RT.mono k1 _ _ r2) ey (by omega) fun v2 H2 g2 I2 rv2 => ?_
                have k2 := I1.keep g2
                have hs3 := sq_keep k2 hs2
                have rv1' := RT.mono k2 _ _ rv1
                have fin : ∀ (v : V) (H' : Hp), (∀ b o, H2 b = some o → H' b = some o) → VlI K P w (opsP mA mS mM) C TT B p dx pt pf tv (N + z.2 + y.2) H' → RT K B H' v x → Q v H' := fun v H' g' I' rv' => k v H' (fun b o n e => g' b o (g2 b o n (g1 b o n e))) (I'.le (by omega)) rv'
                refine ⟨_, rfl, pt1, _, 0, _, rfl, rfl, hs3.q, rfl, ?_⟩
                refine ⟨.str so, .str "plus", .str _, .str _, str_sh hso, str_sh (by decide +kernel), _, rfl, ?_⟩
                by_cases hp2 : so = "plus"
                · rw [if_pos hp2] at ex
                  refine ifT (by rw [eqv_str]; exact decide_eq_true hp2) ?_
                  refine ⟨_, rfl, _, rfl, ?_⟩
                  exact spP_two (E := E0) I2 rv1' rv2 ex fin
                rw [if_neg hp2] at ex
                refine ifF (by rw [eqv_str]; exact decide_eq_false hp2) ?_
                refine ⟨_, rfl, pt1, _, 0, _, rfl, rfl, hs3.q, rfl, ?_⟩
                refine ⟨.str so, .str "minus", .str _, .str _, str_sh hso, str_sh (by decide +kernel), _, rfl, ?_⟩
                by_cases hp3 : so = "minus"
                · rw [if_pos hp3] at ex
                  refine ifT (by rw [eqv_str]; exact decide_eq_true hp3) ?_
                  refine ⟨_, rfl, _, rfl, ?_⟩
                  exact spP_two (E := E0) I2 rv1' rv2 ex fin
                rw [if_neg hp3] at ex
                refine ifF (by rw [eqv_str]; exact decide_eq_false hp3) ?_
                by_cases hp4 : ¬ so = ("times" : Str)
                · rw [if_neg hp4] at ex; cases ex
                rw [if_pos (Classical.not_not.mp hp4)] at ex
                refine ⟨_, rfl, _, rfl, ?_⟩
                exact spP_two (E := E0) I2 rv1' rv2 ex fin
          · cases e
      · cases e
    · cases e
theorem evIt_ge {f : PyData → EvR} : ∀ (k : Nat) (r : PyData) (c : Nat) (z : PyData × Nat), evIt f k r c = some z → c ≤ z.2
  | 0, _, _, _, e => by cases e; exact Nat.le_refl _
  | k + 1, r, c, z, e => by
    unfold evIt at e
    cases e1 : f r with
    | none => rw [e1] at e; cases e
    | some y =>
      rw [e1] at e
      have := evIt_ge k _ _ _ e
      omega
theorem at0 {x : V} {ys : List V} : atI (x :: ys) 0 = some x := by
  unfold atI ixN
  simp
theorem scV_term : FnScope ["self", "term", "r", "turn"] ["self", "term", "r"] (defScope sV_term) := ⟨rfl, rfl, rfl, by decide +kernel, rfl, by decide +kernel, by decide +kernel⟩
theorem okV_term {f fR fB C : Addr} {fd fdR fdB : FuncData} {kk kA kS kM : Nat} {mA mS mM : List PyData → Rp} (z_range : mg "range" = none)
    (CA : Cal P w K mg base kA "added" ["one", "other"] (spP K 2 mA)) (CS : Cal P w K mg base kS "taken" ["one", "other"] (spP K 2 mS)) (CM : Cal P w K mg base kM "multiplied" ["one", "other"] (spP K 2 mM)) (hA : kA ≤ kk) (hS : kS ≤ kk) (hM : kM ≤ kk)
    (Fn : Fun K "term_at" "Valuing.term_at" sV_term f fd) (T : VlC K C) (MT : Meth K C "term_at" f) (bT : Binds K fd ["self", "term", "r"] [])
    (FnR : Fun K "row_at" "Valuing.row_at" sV_row fR fdR) (MR : Meth K C "row_at" fR) (bR : Binds K fdR ["self", "name", "r"] [])
    (FnB : Fun K "both" "Valuing.both" sV_both fB fdB) (MB : Meth K C "both" fB) (bB : Binds K fdB ["self", "term", "r"] []) :
    ∀ n, FnOk P w K mg base CX0 (kk + 2 * n) f fd ["self", "term", "r"] (spV K P w (opsP mA mS mM) C 2 (gVal (opsP mA mS mM) n))
  | 0 => by
    refine ⟨fun vs H Q E h => ?_, fun A outer s H args us vs Q E hr he hb hv h => ?_⟩
    · obtain ⟨B, p, dx, pt, pf, tv, TT, N, ws, ds, rfl, I, rw_, hl, d, c, e, _⟩ := h
      unfold gVal at e
      split at e <;> cases e
    · obtain ⟨B, p, dx, pt, pf, tv, TT, N, ws, ds, rfl, I, rw_, hl, d, c, e, _⟩ := h
      unfold gVal at e
      split at e <;> cases e
  | n + 1 => by
    have GT := okV_term z_range CA CS CM hA hS hM Fn T MT bT FnR MR bR FnB MB bB n
    have GR := okV_row (F := opsP mA mS mM) FnR T MT GT bT
    have GB := okV_both z_range CA CS CM (by omega) (by omega) (by omega) FnB T MT GT bT
    have lv : kk + 2 * (n + 1) = (kk + 2 * n + 1) + 1 := by omega
    rw [lv]
    refine Fn.ok scV_term (fun vs H Q E h => ?_) (fun cdv A outer s H vs Q E hr h => ?_)
    · obtain ⟨B, p, dx, pt, pf, tv, T, N, ws, ds, rfl, _, rw_, hl, _⟩ := h
      rw [List.length_cons, rw_.len, hl]; rfl
    · obtain ⟨B, p, dx, pt, pf, tv, TT, N, ws, ds, rfl, I, rw_, hl, d, c, e, hN, k⟩ := h
      have hrT := hr.mono (show kk + 2 * n ≤ kk + 2 * n + 1 by omega)
      unfold gVal at e
      split at e
      · rename_i tm r
        cases rw_ with
        | cons rt r2 =>
        cases r2 with
        | cons r2 r3 =>
        cases r3
        rename_i vt vr
        unfold evT at e
        split at e
        · rename_i so as
          split at e
          · rename_i hso
            cases rt with
            | @tup pt1 xs1 _ hs1 ha1 =>
            have ha1' := ha1
            cases ha1 with
            | cons rs1 rest1 =>
            cases rs1
            rename_i ys
            refine ⟨_, pss_cons (ps_if (pt_cmpR (op_eqD hr.units) (pe_ix ix_tup (pv 1) pe_int (fun _ _ => rfl)) pe_str (nomark _)) (pss_one (ps_ret (pv 2))) pss_nil)
              (pss_cons (ps_if (pt_cmpR (op_eqD hr.units) (pe_ix ix_tup (pv 1) pe_int (fun _ _ => rfl)) pe_str (nomark _)) (pss_one (ps_ret (pe_ix ix_tup (pv 1) pe_int (fun _ _ => rfl)))) pss_nil)
              (pss_cons (ps_if (pt_cmpR (op_eqD hr.units) (pe_ix ix_tup (pv 1) pe_int (fun _ _ => rfl)) pe_str (nomark _)) (pss_one (ps_ret (pe_meth (pv 0) T.cl MR GR hr bR .nil pass0 (pa_cons (pe_ix ix_tup (pv 1) pe_int (fun _ _ => rfl)) (pa_cons (pv 2) pa_nil))))) pss_nil)
              (pss_cons (ps_if (pt_cmpR (op_eqD hr.units) (pe_ix ix_tup (pv 1) pe_int (fun _ _ => rfl)) pe_str (nomark _)) (pss_one (ps_ret (pe_meth (pv 0) T.cl MT GT hrT bT .nil pass0 (pa_cons (pe_ix ix_tup (pv 1) pe_int (fun _ _ => rfl)) (pa_cons (pe_meth (pv 0) T.cl MT GT hrT bT .nil pass0 (pa_cons (pe_ix ix_tup (pv 1) pe_int (fun _ _ => rfl)) (pa_cons (pv 2) pa_nil))) pa_nil))))) pss_nil)
              (pss_cons (ps_if (pt_cmpR (op_eqD hr.units) (pe_ix ix_tup (pv 1) pe_int (fun _ _ => rfl)) pe_str (nomark _))
                (pss_cons (ps_for PassesOwn.never rfl (pi_range1 (by rfl) z_range (pa_cons (pe_ix ix_tup (pv 1) pe_int (fun _ _ => rfl)) pa_nil)) (pg_name (i := 3) scV_term.nd rfl (.inl rfl))
                  (pss_one (ps_set (i := 2) scV_term.nd rfl (.inl rfl) (pe_meth (pv 0) T.cl MT GT hrT bT .nil pass0 (pa_cons (pe_ix ix_tup (pv 1) pe_int (fun _ _ => rfl)) (pa_cons (pv 2) pa_nil))))))
                (pss_one (ps_ret (pv 2)))) pss_nil)
              (pss_one (ps_ret (pe_meth (pv 0) T.cl MB GB hr bB .nil pass0 (pa_cons (pv 1) (pa_cons (pv 2) pa_nil))))))))), ?_⟩
            have sort : ∀ (z : Str), PyData.strOk z = true → ∀ {Q' : VK}, Q' (.bl (decide (so = z))) H → tOp (rEqD K) (tOp (rIxT K) (tVar 1) (tC (.int 0))) (tC (.str z)) (L2.start ["self", "term", "r", "turn"] [.ref p, .ref pt1, vr]) H Q' := fun z hz Q' q => ⟨_, rfl, pt1, _, 0, _, rfl, rfl, hs1.q, at0, .str so, .str z, .str _, .str _, str_sh hso, str_sh hz, by rw [eqv_str]; exact q⟩
            unfold evS at e
            refine sort "x" (by decide +kernel) ⟨_, rfl, ?_⟩
            by_cases h1 : so = "x"
            · rw [if_pos h1] at e
              cases e
              exact ifT (decide_eq_true h1) ⟨_, rfl, k _ _ (fun b o _ e => e) I r2⟩
            rw [if_neg h1] at e
            refine ifF (decide_eq_false h1) ?_
            refine sort "number" (by decide +kernel) ⟨_, rfl, ?_⟩
            by_cases h2 : so = "number"
            · rw [if_pos h2] at e
              refine ifT (decide_eq_true h2) ?_
              split at e
              · rename_i q
                cases e
                cases rest1 with
                | cons rq rest2 =>
                cases rest2
                exact ⟨_, rfl, pt1, _, 1, _, rfl, rfl, hs1.q, rfl, k _ _ (fun b o _ e => e) I rq⟩
              · cases e
            rw [if_neg h2] at e
            refine ifF (decide_eq_false h2) ?_
            refine sort "name" (by decide +kernel) ⟨_, rfl, ?_⟩
            by_cases h3 : so = "name"
            · rw [if_pos h3] at e
              refine ifT (decide_eq_true h3) ?_
              split at e
              · rename_i x
                cases rest1 with
                | cons rx rest2 =>
                cases rest2
                cases rx
                refine ⟨_, rfl, p, dx, _, rfl, I.hp, vf_no (by decide +kernel) (by decide +kernel), ?_⟩
                refine ⟨_, rfl, pt1, _, 1, _, rfl, rfl, hs1.q, rfl, _, rfl, ?_⟩
                exact ⟨B, p, dx, pt, pf, tv, TT, N, _, [.str x, r], rfl, I, .cons (.str _) (.cons r2 .nil), rfl, d, c, e, hN, k⟩
              · cases e
            rw [if_neg h3] at e
            refine ifF (decide_eq_false h3) ?_
            refine sort "of" (by decide +kernel) ⟨_, rfl, ?_⟩
            by_cases h4 : so = "of"
            · rw [if_pos h4] at e
              refine ifT (decide_eq_true h4) ?_
              split at e
              · rename_i a b
                cases rest1 with
                | cons ra rest2 =>
                cases rest2 with
                | cons rb rest3 =>
                cases rest3
                rename_i va vb
                cases ez : evT (opsP mA mS mM) TT n b r with
                | none => rw [ez] at e; cases e
                | some z =>
                  rw [ez] at e
                  dsimp only at e
                  rw [Option.map_eq_some_iff] at e
                  obtain ⟨y, ey, e2⟩ := e
                  simp only [Prod.mk.injEq] at e2
                  obtain ⟨rfl, rfl⟩ := e2
                  refine ⟨_, rfl, p, dx, _, rfl, I.hp, vf_no (by decide +kernel) (by decide +kernel), ?_⟩
                  refine ⟨_, rfl, pt1, _, 1, va, rfl, rfl, hs1.q, rfl, ?_⟩
                  refine ⟨_, rfl, p, dx, _, rfl, I.hp, vf_no (by decide +kernel) (by decide +kernel), ?_⟩
                  refine ⟨_, rfl, pt1, _, 2, vb, rfl, rfl, hs1.q, rfl, _, rfl, ?_⟩
                  refine spV_term (E := E0) I rb r2 ez (by omega) fun v1 H1 g1 I1 rv1 => ?_
                  have k1 := I.keep g1
                  refine spV_term (E := E0) I1 (RT.mono k1 _ _ ra) rv1 ey (by omega) fun v2 H2 g2 I2 rv2 => ?_
                  exact k _ _ (g1.trans g2) (I2.le (by omega)) rv2
              · cases e
            rw [if_neg h4] at e
            refine ifF (decide_eq_false h4) ?_
            refine sort "again" (by decide +kernel) ⟨_, rfl, ?_⟩
            by_cases h5 : so = "again"
            · rw [if_pos h5] at e
              refine ifT (decide_eq_true h5) ?_
              split at e
              · rename_i a kn
                cases rest1 with
                | cons ra rest2 =>
                cases rest2 with
                | cons rk rest3 =>
                cases rest3
                cases rk
                rename_i va
                split at e
                · rename_i hk
                  refine ⟨_, rfl, pt1, _, 2, .int kn, rfl, rfl, hs1.q, rfl, kn, rfl, by omega, by omega, ?_⟩
                  refine for_range (fun i σ H' => ∃ (rc : PyData) (vx : V) (v3 : Option V) (ci : Nat), Gro pf H H' ∧ VlI K P w (opsP mA mS mM) C TT B p dx pt pf tv (N + ci) H' ∧ RT K B H' vx rc ∧ evIt (evT (opsP mA mS mM) TT n a) (kn.toNat - i) rc ci = some (d, c) ∧ σ = [some (.ref p), some (.ref pt1), some vx, v3])
                    ⟨r, vr, none, 0, fun b o n e => e, I, r2, e, rfl⟩ ?_ ?_
                  · rintro i σ H' hi ⟨rc, vx, v3, ci, g', I', ra', e', rfl⟩
                    obtain ⟨j, hj⟩ : ∃ j, kn.toNat - i = j + 1 := ⟨kn.toNat - i - 1, by omega⟩
                    rw [hj, evIt] at e'
                    cases ez : evT (opsP mA mS mM) TT n a rc with
                    | none => rw [ez] at e'; cases e'
                    | some z =>
                      rw [ez] at e'
                      have ge := evIt_ge _ _ _ _ e'
                      have k' := I.keep g'
                      refine ⟨_, rfl, p, dx, _, rfl, I'.hp, vf_no (by decide +kernel) (by decide +kernel), ?_⟩
                      refine ⟨_, rfl, pt1, _, 1, va, rfl, rfl, (sq_keep k' hs1).q, rfl, _, rfl, ?_⟩
                      refine spV_term (E := E0) I' (RT.mono k' _ _ ra) ra' ez (by omega) fun v1 H1 g1 I1 rv1 => ?_
                      refine ⟨z.1, v1, _, ci + z.2, g'.trans g1, by rw [← Nat.add_assoc]; exact I1, rv1, ?_, rfl⟩
                      rw [show kn.toNat - (i + 1) = j by omega]
                      exact e'
                  · rintro σ H' ⟨rc, vx, v3, ci, g', I', ra', e', rfl⟩
                    have z0 : kn.toNat - (kn - 0).toNat = 0 := by omega
                    first | rw [z0, evIt] at e' | (rw [Nat.sub_self, evIt] at e')
                    cases e'
                    exact ⟨_, rfl, k _ _ g' I' ra'⟩
                · cases e
              · cases e
            rw [if_neg h5] at e
            refine ifF (decide_eq_false h5) ?_
            refine ⟨_, rfl, p, dx, _, rfl, I.hp, vf_no (by decide +kernel) (by decide +kernel), ?_⟩
            refine ⟨_, rfl, _, rfl, ?_⟩
            exact ⟨B, p, dx, pt, pf, tv, TT, N, _, [.tuple (.str so :: as), r], rfl, I, .cons (.tup hs1 ha1') (.cons r2 .nil), rfl, d, c, by unfold gBoth; dsimp only; rw [if_pos hso]; exact e, hN, k⟩
          · cases e
        · cases e
      · cases e
theorem scV_init : FnScope ["self", "reckoning"] ["self", "reckoning"] (defScope sV_init) := ⟨rfl, rfl, rfl, by decide +kernel, rfl, by decide +kernel, by decide +kernel⟩
def spVI (K : PySem.W.Frag) (P : Program) (w : World) (C : Addr) : Sp := fun vs H Q _ => ∃ (p dx a : Addr) (o : Obj) (ps : List Addr) (kvs : List (Key × V)), vs = [.ref p, .ref a] ∧ H p = some (.ins C dx []) ∧ H a = some (.frz o (.tup (ps.map V.ref))) ∧ o.dict = none ∧ Paired (fun p kv => SqT K H p [kV kv.1, kv.2]) ps kvs ∧
  ∀ pt pf : Addr, H pt = none → pt ≠ p → upd (upd H pt (.dK (mergeK [] kvs))) p (.ins C dx (putF "terms" (.ref pt) [])) pf = none → Q .non (upd (upd (upd (upd H pt (.dK (mergeK [] kvs))) p (.ins C dx (putF "terms" (.ref pt) []))) pf (NkO P w pf [])) p (.ins C dx (vf pt pf)))
theorem okV_init {f C : Addr} {fd : FuncData} (z_dict : mg "dict" = none) (Fn : Fun K "__init__" "Valuing.__init__" sV_init f fd) (T : VlC K C) : FnOk P w K mg base CX0 1 f fd ["self", "reckoning"] (spVI K P w C) := by
  refine Fn.ok scV_init (fun vs H Q E h => ?_) (fun cdv A outer s H vs Q E hr h => ?_)
  · obtain ⟨p, dx, a, o, ps, kvs, rfl, _⟩ := h
    rfl
  · obtain ⟨p, dx, a, o, ps, kvs, rfl, hp, ha, ho, hps, k⟩ := h
    refine ⟨_, pss_cons (ps_fld (pv 0) (pe_callTy (call_dictT (by rfl)) (by rfl) z_dict (by decide +kernel) (pa_cons (pv 1) pa_nil) (by decide) (by decide) rfl rfl) rfl) (pss_one (ps_fld (pv 0) pe_nnew rfl)), ?_⟩
    refine ⟨_, rfl, a, o, ps, kvs, rfl, ha, ho, hps, fun pt hpt => ?_⟩
    have np : p ≠ pt := ne_of_none hp hpt
    refine ⟨_, rfl, p, C, dx, [], rfl, by rw [upd_ne np]; exact hp, T.cl, T.nt, by decide, ?_⟩
    intro pf hpf
    have npf : p ≠ pf := fun z => by rw [← z, upd_same] at hpf; cases hpf
    refine ⟨_, rfl, p, C, dx, _, rfl, by rw [upd_ne npf]; exact upd_same, T.cl, T.nf, (by show 1 < 1000; decide), ?_⟩
    exact k pt pf hpt (Ne.symm np) hpf
theorem pairsT_r {B : Addr → Prop} {H : Hp} : ∀ {ds : List PyData} {vs : List V} {TT : List (Str × PyData)}, RTs K B H vs ds → pairsT ds = some TT → ∃ (ps : List Addr) (kvs : List (Key × V)), vs = ps.map V.ref ∧ Paired (fun p kv => SqTB K B H p [kV kv.1, kv.2]) ps kvs ∧ kvs.map (·.1) = TT.map (fun e => (.inr e.1 : Key)) ∧ RTs K B H (kvs.map Prod.snd) (TT.map Prod.snd)
  | [], _, _, h, e => by
    cases h; cases e
    exact ⟨[], [], rfl, .nil, rfl, .nil⟩
  | d :: ds, _, TT, h, e => by
    cases h with
    | cons h1 h2 =>
    unfold pairsT at e
    split at e
    · rename_i heq
      cases heq
    · rename_i x t r heq
      cases heq
      rw [Option.map_eq_some_iff] at e
      obtain ⟨T2, e2, rfl⟩ := e
      obtain ⟨ps, kvs, rfl, h3, h4, h5⟩ := pairsT_r h2 e2
      cases h1 with
      | @tup a xs _ hs ha =>
      cases ha with
      | cons r1 r2 =>
      cases r2 with
      | cons r2 r3 =>
      cases r3
      cases r1
      rename_i vt
      exact ⟨a :: ps, (.inr x, vt) :: kvs, rfl, .cons hs h3, by simp [h4], .cons r2 h5⟩
    · cases e
def spVal (K : PySem.W.Frag) (F : Ops) (n : Nat) : Sp := fun vs H Q _ => ∃ (B : Addr → Prop) (a : Addr) (o : Obj) (xs : List V) (ds : List PyData) (vr : V) (r d : PyData) (c : Nat), vs = [.ref a, vr] ∧ NoTup H B ∧ H a = some (.frz o (.tup xs)) ∧ o.dict = none ∧ RTs K B H xs ds ∧ RT K B H vr r ∧ gAll F n ds r = some (d, c) ∧ c ≤ 1000000 ∧ ∀ v H', (∀ b o, H b = some o → H' b = some o) → RT K B H' v d → Q v H'
theorem nt_growV {O0 : Addr → Prop} {H H' : Hp} (h : NoTup H O0) (g : ∀ b o, H b = some o → H' b = some o) : NoTup H' O0 := fun a ha => by
  obtain ⟨h1, h2⟩ := h a ha
  cases e : H a with
  | none => exact absurd e h1
  | some o =>
    have e' := g a o e
    refine ⟨by rw [e']; simp, fun vs z => h2 vs ?_⟩
    rcases z with z | ⟨u, z⟩
    · rw [e'] at z; cases z; exact .inl e
    · rw [e'] at z; cases z; exact .inr ⟨u, e⟩
theorem atL {xs : List V} {y : V} (h : xs[xs.length - 1]? = some y) : atI xs (-1) = some y := by
  have hl : 0 < xs.length := by
    cases xs with
    | nil => simp at h
    | cons a b => simp
  unfold atI ixN
  rw [if_neg (by omega), if_pos (by omega)]
  have : ((-1 : Int) + xs.length).toNat = xs.length - 1 := by omega
  first | (rw [this]; exact h) | (simp only [Option.bind_some]; rw [this]; exact h)
theorem okV_valued {f C fI fR : Addr} {fd fdI fdR : FuncData} {F : Ops} {n kk : Nat} (Fn : Fun K "valued" "valued" s_valued f fd) (mC : mg "Valuing" = some (.ref C)) (T : VlC K C) (M : Mk K C fI) (GI : FnOk P w K mg base CX0 1 fI fdI ["self", "reckoning"] (spVI K P w C)) (bI : Binds K fdI ["self", "reckoning"] [])
    (MR : Meth K C "row_at" fR) (GR : FnOk P w K mg base CX0 (kk + 1) fR fdR ["self", "name", "r"] (spV K P w F C 2 (gRow F n))) (bR : Binds K fdR ["self", "name", "r"] []) (h1 : 1 ≤ kk) :
    FnOk P w K mg base CX0 (kk + 2) f fd ["reckoning", "r"] (spVal K F n) := by
  refine Fn.ok sc_valued (fun vs H Q E h => ?_) (fun cdv A outer s H vs Q E hr h => ?_)
  · obtain ⟨B, a, o, xs, ds, vr, r, d, c, rfl, _⟩ := h
    rfl
  · obtain ⟨B, a, o, xs, ds, vr, r, d, c, rfl, hB, ha, ho, rx, rr, e, hc, k⟩ := h
    refine ⟨_, pss_one (ps_ret (pe_meth (pe_make M GI (hr.mono (by omega)) (by rfl) mC bI .nil pass0 (pa_cons (pv 0) pa_nil)) T.cl MR GR hr bR .nil pass0 (pa_cons (pe_ix ix_tup (pe_ix ix_tup (pv 0) (q_neg 1).pe (fun _ _ => rfl)) pe_int (fun _ _ => rfl)) (pa_cons (pv 1) pa_nil)))), ?_⟩
    unfold gAll at e
    split at e
    · rename_i TT x tl hT hl
      split at e
      · rename_i hnd
        obtain ⟨ps, kvs, rfl, h3, h4, h5⟩ := pairsT_r rx hT
        refine ⟨_, rfl, fun p dx np ndx ne => ?_⟩
        have g1 : ∀ b o, H b = some o → upd (upd H dx (.own p)) p (.ins C dx []) b = some o := fun b o e => by rw [upd_ne (ne_of_none e np), upd_ne (ne_of_none e ndx)]; exact e
        have k1 : Keep B H B (upd (upd H dx (.own p)) p (.ins C dx [])) := fun b o e n => ⟨g1 b o e, n⟩
        refine ⟨p, dx, a, o, ps, kvs, rfl, upd_same, g1 _ _ ha, ho, Paired.mapP h3 (fun q kv z => (sq_keep k1 z).q), fun pt pf hpt hpp hpf => ⟨rfl, ?_⟩⟩
        have npt : H pt = none := by
          cases z : H pt with
          | none => rfl
          | some u => rw [g1 _ _ z] at hpt; cases hpt
        have npf : H pf = none := by
          cases z : H pf with
          | none => rfl
          | some u =>
            rw [upd_ne (ne_of_none z np), upd_ne (ne_of_none z npt), g1 _ _ z] at hpf
            cases hpf
        have ppf : pf ≠ p := fun z => by rw [z, upd_same] at hpf; cases hpf
        have ptf : pt ≠ pf := fun z => by rw [← z, upd_ne hpp, upd_same] at hpf; cases hpf
        have g2 : ∀ b o, H b = some o → upd (upd (upd (upd (upd (upd H dx (.own p)) p (.ins C dx [])) pt (.dK (mergeK [] kvs))) p (.ins C dx (putF "terms" (.ref pt) []))) pf (NkO P w pf [])) p (.ins C dx (vf pt pf)) b = some o := fun b o e => by
          rw [upd_ne (ne_of_none e np), upd_ne (ne_of_none e npf), upd_ne (ne_of_none e np), upd_ne (ne_of_none e npt)]
          exact g1 b o e
        obtain ⟨H2, hH2⟩ : ∃ H2, H2 = upd (upd (upd (upd (upd (upd H dx (.own p)) p (.ins C dx [])) pt (.dK (mergeK [] kvs))) p (.ins C dx (putF "terms" (.ref pt) []))) pf (NkO P w pf [])) p (.ins C dx (vf pt pf)) := ⟨_, rfl⟩
        rw [← hH2] at g2
        have hp2 : H2 p = some (.ins C dx (vf pt pf)) := by rw [hH2]; exact upd_same
        have hf2 : H2 pf = some (NkO P w pf []) := by rw [hH2, upd_ne ppf]; exact upd_same
        have ht2 : H2 pt = some (.dK kvs) := by
          rw [hH2, upd_ne hpp, upd_ne ptf, upd_ne hpp, upd_same]
          have nk : ((([] : List (Key × V)) ++ kvs).map (·.1)).Nodup := by
            rw [List.nil_append, h4]
            have : (TT.map fun e => (Sum.inr e.1 : Key)) = (TT.map (·.1)).map Sum.inr := by rw [List.map_map]; rfl
            rw [this]
            exact List.Pairwise.map (S := fun a b : Key => a ≠ b) Sum.inr (fun a b h z => h (Sum.inr.inj z)) hnd
          rw [mergeK_nodup kvs [] nk, List.nil_append]
        have k2 : Keep B H (fun b => B b ∨ b = pf) H2 := fun b o e n => ⟨g2 b o e, fun z => z.elim n fun z => by rw [z, npf] at e; cases e⟩
        have nB2 : NoTup H2 (fun b => B b ∨ b = pf) := fun b hb => by
          rcases hb with hb | rfl
          · exact (nt_growV hB g2) b hb
          · refine ⟨by rw [hf2]; simp, fun vs z => ?_⟩
            rcases z with z | ⟨u, z⟩ <;> rw [hf2] at z <;> cases z
        have I2 : VlI K P w F C TT (fun b => B b ∨ b = pf) p dx pt pf kvs 0 H2 := ⟨hp2, ht2, h4, RTs.mono k2 _ _ h5, ⟨[], hf2, (fun kv hk => nomatch hk), Nat.zero_le _⟩, nB2, .inr rfl⟩
        obtain ⟨y, hy⟩ : ∃ y, (ps.map V.ref)[(ps.map V.ref).length - 1]? = some y ∧ RT K B H y (.tuple (.str x :: tl)) := by
          have l1 : ds.length = (ps.map V.ref).length := rx.len.symm
          rw [List.getLast?_eq_getElem?, l1] at hl
          obtain ⟨y, e1, e2⟩ := RTs.get rx hl
          exact ⟨y, e1, e2⟩
        obtain ⟨hy, ry0⟩ := hy
        have ry := RT.mono k2 _ _ ry0
        have rx2 := g2 _ _ ha
        rw [← hH2]
        refine ⟨p, dx, _, rfl, hp2, vf_no (by decide +kernel) (by decide +kernel), ?_⟩
        cases ry with
        | @tup ay ys _ hsy hay =>
        cases hay with
        | cons hs0 _ =>
        cases hs0
        refine ⟨_, rfl, 1, rfl, a, _, _, _, rfl, rfl, .inl (.inr ⟨o, rx2⟩), atL hy, ay, _, 0, _, rfl, rfl, hsy.q, at0, _, rfl, ?_⟩
        refine ⟨fun b => B b ∨ b = pf, p, dx, pt, pf, kvs, TT, 0, _, [.str x, r], rfl, I2, .cons (.str _) (.cons (RT.mono k2 _ _ rr) .nil), rfl, d, c, e, by omega, fun v H' g' I' rv => ?_⟩
        exact k v H' (fun b o e => g' b o (fun z => by rw [z, npf] at e; cases e) (g2 b o e)) (RT.weak (fun a h => .inl h) _ _ rv)
      · cases e
    · cases e
structure ClsV (K : PySem.W.Frag) (mg : Str → Option Value) : Prop where
  ex : ∃ (C fI fR fT fB : Addr) (fdI fdR fdT fdB : FuncData), mg "Valuing" = some (.ref C) ∧ VlC K C ∧ Mk K C fI ∧ (Fun K "__init__" "Valuing.__init__" sV_init fI fdI ∧ Binds K fdI ["self", "reckoning"] []) ∧ (Fun K "row_at" "Valuing.row_at" sV_row fR fdR ∧ Binds K fdR ["self", "name", "r"] [] ∧ Meth K C "row_at" fR) ∧
    (Fun K "term_at" "Valuing.term_at" sV_term fT fdT ∧ Binds K fdT ["self", "term", "r"] [] ∧ Meth K C "term_at" fT) ∧ (Fun K "both" "Valuing.both" sV_both fB fdB ∧ Binds K fdB ["self", "term", "r"] [] ∧ Meth K C "both" fB)
theorem k_valued0 {kk kA kS kM : Nat} {mA mS mM : List PyData → Rp} (z_range : mg "range" = none) (z_dict : mg "dict" = none)
    (CA : Cal P w K mg base kA "added" ["one", "other"] (spP K 2 mA)) (CS : Cal P w K mg base kS "taken" ["one", "other"] (spP K 2 mS)) (CM : Cal P w K mg base kM "multiplied" ["one", "other"] (spP K 2 mM)) (CT : ClsV K mg) (hA : kA ≤ kk) (hS : kS ≤ kk) (hM : kM ≤ kk) (h1 : 1 ≤ kk)
    (D : DefIn K mg "valued" s_valued ["reckoning", "r"]) (n : Nat) : Cal P w K mg base (kk + 2 * n + 2) "valued" ["reckoning", "r"] (spVal K (opsP mA mS mM) n) := by
  obtain ⟨C, fI, fR, fT, fB, fdI, fdR, fdT, fdB, mC, T, M, ⟨FI, bI⟩, ⟨FR, bR, MR⟩, ⟨FT, bT, MT⟩, FB, bB, MB⟩ := CT.ex
  obtain ⟨f, fd, F, hm, hb⟩ := D.ex
  have GT := okV_term z_range CA CS CM hA hS hM FT T MT bT FR MR bR FB MB bB n
  have GR := okV_row (F := opsP mA mS mM) FR T MT GT bT
  exact ⟨f, fd, okV_valued F mC T M (okV_init z_dict FI T) bI MR GR bR (by omega), hm, F.kp, hb⟩
end
theorem k_valued {P : Program} {w : World} {K : PySem.W.Frag} {mg : Str → Option Value} {base : Heap} (hNT : base.NoSeer ∧ P.given.tree = none) (z_dict : mg "dict" = none) (z_range : mg "range" = none) (k_added : Cal P w K mg base 35 "added" [("one" : Str), ("other" : Str)] (spP K 2 m_added)) (k_taken : Cal P w K mg base 35 "taken" [("one" : Str), ("other" : Str)] (spP K 2 m_taken)) (k_multiplied : Cal P w K mg base 35 "multiplied" [("one" : Str), ("other" : Str)] (spP K 2 m_multiplied)) (CV : ClsV K mg) (D : DefIn K mg "valued" s_valued [("reckoning" : Str), ("r" : Str)]) : Cal P w K mg base 127 "valued" [("reckoning" : Str), ("r" : Str)] (spVal K (opsP m_added m_taken m_multiplied) 45) :=
  k_valued0 (kk := 35) z_range z_dict k_added k_taken k_multiplied CV (by decide) (by decide) (by decide) (by decide) D 45
abbrev s_L_flow : Stmt := topS 10
theorem sc_L_flow : FnScope [("_law_script" : Str)] [("_law_script" : Str)] (defScope s_L_flow) := ⟨rfl, rfl, rfl, by decide +kernel, rfl, by decide +kernel, by decide +kernel⟩
theorem k_L_flow {P : Program} {w : World} {K : PySem.W.Frag} {mg : Str → Option Value} {base : Heap} (hNT : base.NoSeer ∧ P.given.tree = none) (z_list : mg "list" = none) (D : DefIn K mg "_law_flow" s_L_flow [("_law_script" : Str)]) : Cal P w K mg base 33 "_law_flow" [("_law_script" : Str)] (spFl K) := by
  exact calFl (b := b_L_flow) D sc_L_flow rfl (by decide) (fun ns => rfl) (fun f cdv A outer s H E hr => ⟨_, ((qss_one (qs_ret (q_own (qn_disp (qa_cons (q_frz (qn_list z_list (qa_cons (q_var 0) qa_nil))) (qa_cons q_int (qa_cons q_int (qa_cons q_int (qa_cons q_int qa_nil))))))))))⟩)
abbrev s_L_pick : Stmt := topS 11
theorem sc_L_pick : FnScope [("_law_flow_here" : Str), ("_law_many" : Str), ("_law_cell" : Str), ("_law_digit" : Str)] [("_law_flow_here" : Str), ("_law_many" : Str)] (defScope s_L_pick) := ⟨rfl, rfl, rfl, by decide +kernel, rfl, by decide +kernel, by decide +kernel⟩
theorem k_L_pick {P : Program} {w : World} {K : PySem.W.Frag} {mg : Str → Option Value} {base : Heap} (hNT : base.NoSeer ∧ P.given.tree = none) (z_len : mg "len" = none) (D : DefIn K mg "_law_pick" s_L_pick [("_law_flow_here" : Str), ("_law_many" : Str)]) : Cal P w K mg base 33 "_law_pick" [("_law_flow_here" : Str), ("_law_many" : Str)] (spF K 2 m_L_pick) := by
  unfold m_L_pick
  exact calF D sc_L_pick (by decide) (fun f cdv A outer s H E hr => ⟨_, ((qss_cons (qs_if (qt_w (qw_and (qt_eq hr (q_ix (q_var 0) q_int) q_int) (qw_and1 (qt_lt (q_ix (q_var 0) q_int) (q_len z_len (qa_cons (q_ix (q_var 0) q_int) qa_nil))))))
    (qss_cons (qs_set 2 sc_L_pick.nd (q_ix (q_ix (q_var 0) q_int) (q_ix (q_var 0) q_int)))
    (qss_cons (qs_asg (q_addA (q_ix (q_var 0) q_int) q_int) (qg_sub (q_var 0) q_int))
    (qss_one (qs_if (qt_ge (q_var 2) (q_pow q_int q_int))
    (qss_one (qs_asg (q_var 2) (qg_sub (q_var 0) q_int)))
    (qss_one (qs_asg (q_mod (q_addA (q_addA (q_mulA (q_ix (q_var 0) q_int) q_int) (q_mod (q_var 2) q_int)) q_int) q_int) (qg_sub (q_var 0) q_int)))))))
    qss_nil)
    (qss_cons (qs_if (qt_gt (q_ix (q_var 0) q_int) q_int)
    (qss_cons (qs_set 3 sc_L_pick.nd (q_mod (q_ix (q_var 0) q_int) (q_var 1)))
    (qss_cons (qs_asg (q_div (seX hNT hr (by decide) ⟨_, _, rfl, rfl, rfl, rfl, rfl⟩) (q_ix (q_var 0) q_int) (q_var 1)) (qg_sub (q_var 0) q_int))
    (qss_one (qs_ret (q_var 3)))))
    qss_nil)
    (qss_cons (qs_asg (q_addA (q_ix (q_var 0) q_int) q_int) (qg_sub (q_var 0) q_int))
    (qss_cons (qs_asg (q_mod (q_addA (q_addA (q_mulA (q_ix (q_var 0) q_int) q_int) q_int) (q_ix (q_var 0) q_int)) q_int) (qg_sub (q_var 0) q_int))
    (qss_one (qs_ret (q_mod (q_div (seX hNT hr (by decide) ⟨_, _, rfl, rfl, rfl, rfl, rfl⟩) (q_mod (q_mulA (q_addA (q_mod (q_ix (q_var 0) q_int) q_int) q_int) (q_addA (q_div (seX hNT hr (by decide) ⟨_, _, rfl, rfl, rfl, rfl, rfl⟩) (q_ix (q_var 0) q_int) q_int) q_int)) q_int) q_int) (q_var 1)))))))))⟩)
abbrev s_L_alike : Stmt := topS 12
theorem sc_L_alike : FnScope [("_law_found" : Str), ("_law_due" : Str), ("_law_k" : Str)] [("_law_found" : Str), ("_law_due" : Str)] (defScope s_L_alike) := ⟨rfl, rfl, rfl, by decide +kernel, rfl, by decide +kernel, by decide +kernel⟩
theorem k_L_alike {P : Program} {w : World} {K : PySem.W.Frag} {mg : Str → Option Value} {base : Heap} (hNT : base.NoSeer ∧ P.given.tree = none) (z_all : mg "all" = none) (z_bool : mg "bool" = none) (z_isinstance : mg "isinstance" = none) (z_len : mg "len" = none) (z_list : mg "list" = none) (z_range : mg "range" = none) (z_tuple : mg "tuple" = none) (D : DefIn K mg "_law_alike" s_L_alike [("_law_found" : Str), ("_law_due" : Str)]) : ∀ n, Cal P w K mg base (33 + n) "_law_alike" [("_law_found" : Str), ("_law_due" : Str)] (spP K 2 (m_L_alike n))
  | 0 => by
    rw [NW.z_L_alike]
    exact calP0 D sc_L_alike
  | n + 1 => by
    have k_L_alike := k_L_alike (P := P) (w := w) (base := base) hNT z_all z_bool z_isinstance z_len z_list z_range z_tuple D n
    rw [NW.s_L_alike]
    exact calP (k := 33 + n) D sc_L_alike (by decide) (fun f cdv A outer s H E hr => ⟨_, ((qss_cons (qs_if (qt_tru (q_isiT z_isinstance (q_var 1) (qty_cons z_list boot_list (qty_cons z_tuple boot_tuple qty_nil))))
    (qss_cons (qs_if (qt_ne hr (q_isi z_isinstance z_list boot_list (q_var 0)) (q_isi z_isinstance z_list boot_list (q_var 1)))
    (qss_one (qs_ret q_bl))
    qss_nil)
    (qss_cons (qs_if (qt_ne hr (q_isi z_isinstance z_tuple boot_tuple (q_var 0)) (q_isi z_isinstance z_tuple boot_tuple (q_var 1)))
    (qss_one (qs_ret q_bl))
    qss_nil)
    (qss_one (qs_ret (q_and (q_eq hr (q_len z_len (qa_cons (q_var 0) qa_nil)) (q_len z_len (qa_cons (q_var 1) qa_nil))) (q_one (q_all rfl z_all (qa_cons (q_frz (qn_lc (g := (gName 2)) (tt := tYes) (te := (tCall (spP K 2 (m_L_alike n)) [] E0 (tCons (tOp (rIx K) (tVar 0) (tVar 2)) (tCons (tOp (rIx K) (tVar 1) (tVar 2)) tNil)))) (gm := (gNameM 2)) (cm := bYes) (em := (eCallP 2 (m_L_alike n) (aCons (eOp fIx (eVar 0) (eVar 2)) (aCons (eOp fIx (eVar 1) (eVar 2)) aNil)))) (ws := [2]) [(("_law_k" : Str), 2)] rfl sc_L_alike.nd (qi_r1 z_range (qa_cons (q_len z_len (qa_cons (q_var 1) qa_nil)) qa_nil)) rfl rfl (by kernel_rfl) (fun _ _ _ _ _ => (qg_name 2 sc_L_alike.nd)) (fun _ _ _ _ _ => qts_nil) (fun _ _ _ _ _ => (q_calP k_L_alike hr (by omega) (qa_cons (q_ix (q_var 0) (q_var 2)) (qa_cons (q_ix (q_var 1) (q_var 2)) qa_nil)))) (by decide))) qa_nil))))))))
    qss_nil)
    (qss_one (qs_ret (q_and (q_eq hr (q_isi z_isinstance z_bool boot_bool (q_var 0)) (q_isi z_isinstance z_bool boot_bool (q_var 1))) (q_one (q_eq hr (q_var 0) (q_var 1))))))))⟩)
abbrev s_L_common : Stmt := topS 13
theorem sc_L_common : FnScope [("_law_a" : Str), ("_law_b" : Str)] [("_law_a" : Str), ("_law_b" : Str)] (defScope s_L_common) := ⟨rfl, rfl, rfl, by decide +kernel, rfl, by decide +kernel, by decide +kernel⟩
theorem k_L_common {P : Program} {w : World} {K : PySem.W.Frag} {mg : Str → Option Value} {base : Heap} (hNT : base.NoSeer ∧ P.given.tree = none) (z_abs : mg "abs" = none) (D : DefIn K mg "_law_common" s_L_common [("_law_a" : Str), ("_law_b" : Str)]) : Cal P w K mg base 33 "_law_common" [("_law_a" : Str), ("_law_b" : Str)] (spP K 2 m_L_common) := by
  unfold m_L_common
  exact calP D sc_L_common (by decide) (fun f cdv A outer s H E hr => ⟨_, ((qss_cons (qs_while PassesOwn.never (qt_ne hr (q_var 1) q_int)
    (qss_one (qs_par 0 1 rfl sc_L_common.nd (qa_cons (q_var 1) (qa_cons (q_mod (q_var 0) (q_var 1)) qa_nil)))))
    (qss_one (qs_ret (q_abs z_abs (qa_cons (q_var 0) qa_nil))))))⟩)
abbrev s_L_fraction : Stmt := topS 14
theorem sc_L_fraction : FnScope [("_law_top" : Str), ("_law_bottom" : Str), ("_law_part" : Str)] [("_law_top" : Str), ("_law_bottom" : Str)] (defScope s_L_fraction) := ⟨rfl, rfl, rfl, by decide +kernel, rfl, by decide +kernel, by decide +kernel⟩
theorem k_L_fraction {P : Program} {w : World} {K : PySem.W.Frag} {mg : Str → Option Value} {base : Heap} (hNT : base.NoSeer ∧ P.given.tree = none) (k_L_common : Cal P w K mg base 33 "_law_common" [("_law_a" : Str), ("_law_b" : Str)] (spP K 2 m_L_common)) (D : DefIn K mg "_law_fraction" s_L_fraction [("_law_top" : Str), ("_law_bottom" : Str)]) : Cal P w K mg base 34 "_law_fraction" [("_law_top" : Str), ("_law_bottom" : Str)] (spP K 2 m_L_fraction) := by
  unfold m_L_fraction
  exact calP D sc_L_fraction (by decide) (fun f cdv A outer s H E hr => ⟨_, ((qss_cons (qs_set 2 sc_L_fraction.nd (q_calP k_L_common hr (by decide) (qa_cons (q_var 0) (qa_cons (q_var 1) qa_nil))))
    (qss_cons (qs_if (qt_lt (q_var 1) q_int)
    (qss_one (qs_set 2 sc_L_fraction.nd (q_sub q_int (q_var 2))))
    qss_nil)
    (qss_one (qs_ret (q_tup (qa_cons (q_div (seX hNT hr (by decide) ⟨_, _, rfl, rfl, rfl, rfl, rfl⟩) (q_var 0) (q_var 2)) (qa_cons (q_div (seX hNT hr (by decide) ⟨_, _, rfl, rfl, rfl, rfl, rfl⟩) (q_var 1) (q_var 2)) qa_nil))))))))⟩)
abbrev s_L_added : Stmt := topS 15
theorem sc_L_added : FnScope [("_law_one" : Str), ("_law_other" : Str)] [("_law_one" : Str), ("_law_other" : Str)] (defScope s_L_added) := ⟨rfl, rfl, rfl, by decide +kernel, rfl, by decide +kernel, by decide +kernel⟩
theorem k_L_added {P : Program} {w : World} {K : PySem.W.Frag} {mg : Str → Option Value} {base : Heap} (hNT : base.NoSeer ∧ P.given.tree = none) (k_L_fraction : Cal P w K mg base 34 "_law_fraction" [("_law_top" : Str), ("_law_bottom" : Str)] (spP K 2 m_L_fraction)) (D : DefIn K mg "_law_added" s_L_added [("_law_one" : Str), ("_law_other" : Str)]) : Cal P w K mg base 35 "_law_added" [("_law_one" : Str), ("_law_other" : Str)] (spP K 2 m_L_added) := by
  unfold m_L_added
  exact calP D sc_L_added (by decide) (fun f cdv A outer s H E hr => ⟨_, ((qss_one (qs_ret (q_calP k_L_fraction hr (by decide) (qa_cons (q_addA (q_mulA (q_ix (q_var 0) q_int) (q_ix (q_var 1) q_int)) (q_mulA (q_ix (q_var 1) q_int) (q_ix (q_var 0) q_int))) (qa_cons (q_mulA (q_ix (q_var 0) q_int) (q_ix (q_var 1) q_int)) qa_nil))))))⟩)
abbrev s_L_product : Stmt := topS 16
theorem sc_L_product : FnScope [("_law_one" : Str), ("_law_other" : Str)] [("_law_one" : Str), ("_law_other" : Str)] (defScope s_L_product) := ⟨rfl, rfl, rfl, by decide +kernel, rfl, by decide +kernel, by decide +kernel⟩
theorem k_L_product {P : Program} {w : World} {K : PySem.W.Frag} {mg : Str → Option Value} {base : Heap} (hNT : base.NoSeer ∧ P.given.tree = none) (k_L_fraction : Cal P w K mg base 34 "_law_fraction" [("_law_top" : Str), ("_law_bottom" : Str)] (spP K 2 m_L_fraction)) (D : DefIn K mg "_law_product" s_L_product [("_law_one" : Str), ("_law_other" : Str)]) : Cal P w K mg base 35 "_law_product" [("_law_one" : Str), ("_law_other" : Str)] (spP K 2 m_L_product) := by
  unfold m_L_product
  exact calP D sc_L_product (by decide) (fun f cdv A outer s H E hr => ⟨_, ((qss_one (qs_ret (q_calP k_L_fraction hr (by decide) (qa_cons (q_mulA (q_ix (q_var 0) q_int) (q_ix (q_var 1) q_int)) (qa_cons (q_mulA (q_ix (q_var 0) q_int) (q_ix (q_var 1) q_int)) qa_nil))))))⟩)
abbrev s_L_number : Stmt := topS 17
theorem sc_L_number : FnScope [("_law_flow_here" : Str), ("_law_most" : Str)] [("_law_flow_here" : Str), ("_law_most" : Str)] (defScope s_L_number) := ⟨rfl, rfl, rfl, by decide +kernel, rfl, by decide +kernel, by decide +kernel⟩
theorem k_L_number {P : Program} {w : World} {K : PySem.W.Frag} {mg : Str → Option Value} {base : Heap} (hNT : base.NoSeer ∧ P.given.tree = none) (k_L_pick : Cal P w K mg base 33 "_law_pick" [("_law_flow_here" : Str), ("_law_many" : Str)] (spF K 2 m_L_pick)) (D : DefIn K mg "_law_number" s_L_number [("_law_flow_here" : Str), ("_law_most" : Str)]) : Cal P w K mg base 34 "_law_number" [("_law_flow_here" : Str), ("_law_most" : Str)] (spF K 2 m_L_number) := by
  unfold m_L_number
  exact calF D sc_L_number (by decide) (fun f cdv A outer s H E hr => ⟨_, ((qss_one (qs_ret (q_sub (q_calF k_L_pick hr (by decide) (qa_cons (q_var 0) (qa_cons (q_addA (q_mulA q_int (q_var 1)) q_int) qa_nil))) (q_var 1)))))⟩)
abbrev s_L_any_fraction : Stmt := topS 18
theorem sc_L_any_fraction : FnScope [("_law_flow_here" : Str), ("_law_most" : Str)] [("_law_flow_here" : Str), ("_law_most" : Str)] (defScope s_L_any_fraction) := ⟨rfl, rfl, rfl, by decide +kernel, rfl, by decide +kernel, by decide +kernel⟩
theorem k_L_any_fraction {P : Program} {w : World} {K : PySem.W.Frag} {mg : Str → Option Value} {base : Heap} (hNT : base.NoSeer ∧ P.given.tree = none) (k_L_fraction : Cal P w K mg base 34 "_law_fraction" [("_law_top" : Str), ("_law_bottom" : Str)] (spP K 2 m_L_fraction)) (k_L_pick : Cal P w K mg base 33 "_law_pick" [("_law_flow_here" : Str), ("_law_many" : Str)] (spF K 2 m_L_pick)) (k_L_number : Cal P w K mg base 34 "_law_number" [("_law_flow_here" : Str), ("_law_most" : Str)] (spF K 2 m_L_number)) (D : DefIn K mg "_law_any_fraction" s_L_any_fraction [("_law_flow_here" : Str), ("_law_most" : Str)]) : Cal P w K mg base 35 "_law_any_fraction" [("_law_flow_here" : Str), ("_law_most" : Str)] (spF K 2 m_L_any_fraction) := by
  unfold m_L_any_fraction
  exact calF D sc_L_any_fraction (by decide) (fun f cdv A outer s H E hr => ⟨_, ((qss_one (qs_ret (q_calP k_L_fraction hr (by decide) (qa_cons (q_calF k_L_number hr (by decide) (qa_cons (q_var 0) (qa_cons (q_var 1) qa_nil))) (qa_cons (q_addA q_int (q_calF k_L_pick hr (by decide) (qa_cons (q_var 0) (qa_cons (q_ix (q_frz (qn_disp (qa_cons q_int (qa_cons q_int (qa_cons q_int (qa_cons (q_var 1) qa_nil)))))) (q_calF k_L_pick hr (by decide) (qa_cons (q_var 0) (qa_cons q_int qa_nil)))) qa_nil)))) qa_nil))))))⟩)
abbrev s_L_word : Stmt := topS 19
theorem sc_L_word : FnScope [("_law_flow_here" : Str), ("_law_letters" : Str), ("_law_word_here" : Str), ("_law_k" : Str)] [("_law_flow_here" : Str)] (defScope s_L_word) := ⟨rfl, rfl, rfl, by decide +kernel, rfl, by decide +kernel, by decide +kernel⟩
theorem k_L_word {P : Program} {w : World} {K : PySem.W.Frag} {mg : Str → Option Value} {base : Heap} (hNT : base.NoSeer ∧ P.given.tree = none) (z_int : mg "int" = none) (z_range : mg "range" = none) (k_L_pick : Cal P w K mg base 33 "_law_pick" [("_law_flow_here" : Str), ("_law_many" : Str)] (spF K 2 m_L_pick)) (D : DefIn K mg "_law_word" s_L_word [("_law_flow_here" : Str)]) : Cal P w K mg base 34 "_law_word" [("_law_flow_here" : Str)] (spF K 1 m_L_word) := by
  unfold m_L_word
  exact calF D sc_L_word (by decide) (fun f cdv A outer s H E hr => ⟨_, ((qss_cons (qs_set 1 sc_L_word.nd q_str)
    (qss_cons (qs_set 2 sc_L_word.nd (q_join q_str (q_frz (qn_lc (g := (gName 3)) (tt := tYes) (te := (tOp (rIx K) (tVar 1) (tCall (spF K 2 m_L_pick) [] E0 (tCons (tVar 0) (tCons (tC (.int 26)) tNil))))) (gm := (gNameM 3)) (cm := bYes) (em := (eOp fIx (eVar 1) (eCallF 2 m_L_pick (aCons (eVar 0) (aCons (eC (.int 26)) aNil))))) (ws := [3]) [(("_law_k" : Str), 3)] rfl sc_L_word.nd (qi_r1 z_range (qa_cons (q_addA q_int (q_calF k_L_pick hr (by decide) (qa_cons (q_var 0) (qa_cons q_int qa_nil)))) qa_nil)) rfl rfl (by kernel_rfl) (fun _ _ _ _ _ => (qg_name 3 sc_L_word.nd)) (fun _ _ _ _ _ => qts_nil) (fun _ _ _ _ _ => (q_ix (q_var 1) (q_calF k_L_pick hr (by decide) (qa_cons (q_var 0) (qa_cons q_int qa_nil))))) (by decide)))))
    (qss_cons (qs_if (qt_eq hr (q_calF k_L_pick hr (by decide) (qa_cons (q_var 0) (qa_cons q_int qa_nil))) q_int)
    (qss_one (qs_set 2 sc_L_word.nd (q_ix (q_frz (qn_disp (qa_cons q_str (qa_cons q_str (qa_cons q_str (qa_cons q_str (qa_cons q_str (qa_cons (q_slA q_str (qo_some q_int) qo_none) (qa_cons q_str (qa_cons q_str qa_nil)))))))))) (q_calF k_L_pick hr (by decide) (qa_cons (q_var 0) (qa_cons q_int qa_nil))))))
    qss_nil)
    (qss_one (qs_ret (q_addA (q_var 2) (q_mulS q_str (q_intc z_int (qa_cons (q_in (q_var 2) (q_tup (qa_cons q_str (qa_cons q_str (qa_cons q_str qa_nil))))) qa_nil))))))))))⟩)
abbrev s_L_words : Stmt := topS 20
theorem sc_L_words : FnScope [("_law_flow_here" : Str), ("_law_many" : Str), ("_law_letters" : Str), ("_law_near" : Str), ("_law_core" : Str), ("_law_at" : Str), ("_law_turn" : Str), ("_law_found" : Str), ("_law_k" : Str), ("_law_word_here" : Str), ("_law_spare" : Str)] [("_law_flow_here" : Str), ("_law_many" : Str)] (defScope s_L_words) := ⟨rfl, rfl, rfl, by decide +kernel, rfl, by decide +kernel, by decide +kernel⟩
theorem k_L_words {P : Program} {w : World} {K : PySem.W.Frag} {mg : Str → Option Value} {base : Heap} (hNT : base.NoSeer ∧ P.given.tree = none) (z_len : mg "len" = none) (z_range : mg "range" = none) (k_L_word : Cal P w K mg base 34 "_law_word" [("_law_flow_here" : Str)] (spF K 1 m_L_word)) (k_L_pick : Cal P w K mg base 33 "_law_pick" [("_law_flow_here" : Str), ("_law_many" : Str)] (spF K 2 m_L_pick)) (D : DefIn K mg "_law_words" s_L_words [("_law_flow_here" : Str), ("_law_many" : Str)]) : Cal P w K mg base 35 "_law_words" [("_law_flow_here" : Str), ("_law_many" : Str)] (spF K 2 m_L_words) := by
  unfold m_L_words
  exact calF D sc_L_words (by decide) (fun f cdv A outer s H E hr => ⟨_, ((qss_cons (qs_set 2 sc_L_words.nd q_str)
    (qss_cons (qs_set 3 sc_L_words.nd (q_eq hr (q_calF k_L_pick hr (by decide) (qa_cons (q_var 0) (qa_cons q_int qa_nil))) q_int))
    (qss_cons (qs_set 4 sc_L_words.nd (q_calF k_L_word hr (by decide) (qa_cons (q_var 0) qa_nil)))
    (qss_cons (qs_set 5 sc_L_words.nd (q_calF k_L_pick hr (by decide) (qa_cons (q_var 0) (qa_cons (q_len z_len (qa_cons (q_var 4) qa_nil)) qa_nil))))
    (qss_cons (qs_set 6 sc_L_words.nd (q_calF k_L_pick hr (by decide) (qa_cons (q_var 0) (qa_cons q_int qa_nil))))
    (qss_cons (qs_set 7 sc_L_words.nd (q_own (qn_disp qa_nil)))
    (qss_cons (qs_for PassesOwn.never rfl (qi_r1 z_range (qa_cons (q_var 1) qa_nil)) (qg_name 8 sc_L_words.nd)
    (qss_cons (qs_set 9 sc_L_words.nd (q_calF k_L_word hr (by decide) (qa_cons (q_var 0) qa_nil)))
    (qss_cons (qs_if (qt_tru (q_var 3))
    (qss_one (qs_set 9 sc_L_words.nd (q_addA (q_addA (q_slA (q_var 4) qo_none (qo_some (q_var 5))) (q_ix (q_var 2) (q_mod (q_addA (q_var 6) (q_var 8)) q_int))) (q_slA (q_var 4) (qo_some (q_addA (q_var 5) q_int)) qo_none))))
    qss_nil)
    (qss_cons (qs_set 10 sc_L_words.nd q_int)
    (qss_cons (qs_while PassesOwn.never (qt_w (qw_or (qt_in (q_var 9) (q_var 7)) (qw_or1 (qt_in (q_var 9) (q_tup (qa_cons q_str (qa_cons q_str (qa_cons q_str qa_nil))))))))
    (qss_cons (qs_set 9 sc_L_words.nd (q_mulS (q_ix (q_var 2) (q_mod (q_var 10) q_int)) (q_addA q_int (q_div (seX hNT hr (by decide) ⟨_, _, rfl, rfl, rfl, rfl, rfl⟩) (q_var 10) q_int))))
    (qss_one (qs_set 10 sc_L_words.nd (q_addA (q_var 10) q_int)))))
    (qss_one (qs_expr (q_append (q_var 7) (qa_cons (q_var 9) qa_nil)))))))))
    (qss_one (qs_ret (q_var 7)))))))))))⟩)
abbrev s_L_leaf : Stmt := topS 21
theorem sc_L_leaf : FnScope [("_law_flow_here" : Str), ("_law_names" : Str), ("_law_form" : Str), ("_law_top" : Str)] [("_law_flow_here" : Str), ("_law_names" : Str)] (defScope s_L_leaf) := ⟨rfl, rfl, rfl, by decide +kernel, rfl, by decide +kernel, by decide +kernel⟩
theorem k_L_leaf {P : Program} {w : World} {K : PySem.W.Frag} {mg : Str → Option Value} {base : Heap} (hNT : base.NoSeer ∧ P.given.tree = none) (z_len : mg "len" = none) (k_L_fraction : Cal P w K mg base 34 "_law_fraction" [("_law_top" : Str), ("_law_bottom" : Str)] (spP K 2 m_L_fraction)) (k_L_pick : Cal P w K mg base 33 "_law_pick" [("_law_flow_here" : Str), ("_law_many" : Str)] (spF K 2 m_L_pick)) (k_L_number : Cal P w K mg base 34 "_law_number" [("_law_flow_here" : Str), ("_law_most" : Str)] (spF K 2 m_L_number)) (D : DefIn K mg "_law_leaf" s_L_leaf [("_law_flow_here" : Str), ("_law_names" : Str)]) : Cal P w K mg base 35 "_law_leaf" [("_law_flow_here" : Str), ("_law_names" : Str)] (spF K 2 m_L_leaf) := by
  unfold m_L_leaf
  exact calF D sc_L_leaf (by decide) (fun f cdv A outer s H E hr => ⟨_, ((qss_cons (qs_set 2 sc_L_leaf.nd (q_calF k_L_pick hr (by decide) (qa_cons (q_var 0) (qa_cons q_int qa_nil))))
    (qss_cons (qs_if (qt_lt (q_var 2) q_int)
    (qss_one (qs_ret (q_tup (qa_cons q_str qa_nil))))
    qss_nil)
    (qss_cons (qs_if (qt_w (qw_and (qt_lt (q_var 2) q_int) (qw_and1 (qt_gt (q_len z_len (qa_cons (q_var 1) qa_nil)) q_int))))
    (qss_one (qs_ret (q_tup (qa_cons q_str (qa_cons (q_ix (q_var 1) (q_calF k_L_pick hr (by decide) (qa_cons (q_var 0) (qa_cons (q_len z_len (qa_cons (q_var 1) qa_nil)) qa_nil)))) qa_nil)))))
    qss_nil)
    (qss_cons (qs_set 3 sc_L_leaf.nd (q_calF k_L_number hr (by decide) (qa_cons (q_var 0) (qa_cons (q_ix (q_frz (qn_disp (qa_cons q_int (qa_cons q_int (qa_cons q_int (qa_cons q_int qa_nil)))))) (q_calF k_L_pick hr (by decide) (qa_cons (q_var 0) (qa_cons q_int qa_nil)))) qa_nil))))
    (qss_one (qs_ret (q_tup (qa_cons q_str (qa_cons (q_calP k_L_fraction hr (by decide) (qa_cons (q_var 3) (qa_cons (q_addA q_int (q_calF k_L_pick hr (by decide) (qa_cons (q_var 0) (qa_cons (q_ix (q_frz (qn_disp (qa_cons q_int (qa_cons q_int (qa_cons q_int (qa_cons q_int qa_nil)))))) (q_calF k_L_pick hr (by decide) (qa_cons (q_var 0) (qa_cons q_int qa_nil)))) qa_nil)))) qa_nil))) qa_nil))))))))))⟩)
abbrev s_L_term : Stmt := topS 22
theorem sc_L_term : FnScope [("_law_flow_here" : Str), ("_law_names" : Str), ("_law_room" : Str), ("_law_down" : Str), ("_law_form" : Str), ("_law_left" : Str), ("_law_first" : Str), ("_law_other" : Str)] [("_law_flow_here" : Str), ("_law_names" : Str), ("_law_room" : Str), ("_law_down" : Str)] (defScope s_L_term) := ⟨rfl, rfl, rfl, by decide +kernel, rfl, by decide +kernel, by decide +kernel⟩
theorem k_L_term {P : Program} {w : World} {K : PySem.W.Frag} {mg : Str → Option Value} {base : Heap} (hNT : base.NoSeer ∧ P.given.tree = none) (k_L_pick : Cal P w K mg base 33 "_law_pick" [("_law_flow_here" : Str), ("_law_many" : Str)] (spF K 2 m_L_pick)) (k_L_leaf : Cal P w K mg base 35 "_law_leaf" [("_law_flow_here" : Str), ("_law_names" : Str)] (spF K 2 m_L_leaf)) (D : DefIn K mg "_law_term" s_L_term [("_law_flow_here" : Str), ("_law_names" : Str), ("_law_room" : Str), ("_law_down" : Str)]) : ∀ n, Cal P w K mg base (36 + n) "_law_term" [("_law_flow_here" : Str), ("_law_names" : Str), ("_law_room" : Str), ("_law_down" : Str)] (spF K 4 (m_L_term n))
  | 0 => by
    rw [NW.z_L_term]
    exact calF0 D sc_L_term
  | n + 1 => by
    have k_L_term := k_L_term (P := P) (w := w) (base := base) hNT k_L_pick k_L_leaf D n
    rw [NW.s_L_term]
    exact calF (k := 36 + n) D sc_L_term (by decide) (fun f cdv A outer s H E hr => ⟨_, ((qss_cons (qs_set 4 sc_L_term.nd (q_calF k_L_pick hr (by omega) (qa_cons (q_var 0) (qa_cons q_int qa_nil))))
    (qss_cons (qs_if (qt_w (qw_or (qt_lt (q_var 2) q_int) (qw_or (qt_eq hr (q_var 3) q_int) (qw_or (qt_lt (q_var 4) q_int) (qw_or1 (qt_w (qw_and (qt_lt (q_var 2) q_int) (qw_and1 (qt_gt (q_var 4) q_int)))))))))
    (qss_one (qs_ret (q_calF k_L_leaf hr (by omega) (qa_cons (q_var 0) (qa_cons (q_var 1) qa_nil)))))
    qss_nil)
    (qss_cons (qs_if (qt_lt (q_var 4) q_int)
    (qss_one (qs_ret (q_tup (qa_cons (q_ix (q_frz (qn_disp (qa_cons q_str (qa_cons q_str qa_nil)))) (q_sub (q_var 4) q_int)) (qa_cons (q_calF k_L_term hr (by omega) (qa_cons (q_var 0) (qa_cons (q_var 1) (qa_cons (q_sub (q_var 2) q_int) (qa_cons (q_sub (q_var 3) q_int) qa_nil))))) (qa_cons (q_calF k_L_pick hr (by omega) (qa_cons (q_var 0) (qa_cons q_int qa_nil))) qa_nil))))))
    qss_nil)
    (qss_cons (qs_set 5 sc_L_term.nd (q_addA q_int (q_calF k_L_pick hr (by omega) (qa_cons (q_var 0) (qa_cons (q_sub (q_var 2) q_int) qa_nil)))))
    (qss_cons (qs_set 6 sc_L_term.nd (q_calF k_L_term hr (by omega) (qa_cons (q_var 0) (qa_cons (q_var 1) (qa_cons (q_var 5) (qa_cons (q_sub (q_var 3) q_int) qa_nil))))))
    (qss_cons (qs_set 7 sc_L_term.nd (q_calF k_L_term hr (by omega) (qa_cons (q_var 0) (qa_cons (q_var 1) (qa_cons (q_sub (q_sub (q_var 2) q_int) (q_var 5)) (qa_cons (q_sub (q_var 3) q_int) qa_nil))))))
    (qss_one (qs_ret (q_tup (qa_cons (q_ix (q_frz (qn_disp (qa_cons q_str (qa_cons q_str (qa_cons q_str (qa_cons q_str (qa_cons q_str (qa_cons q_str qa_nil)))))))) (q_sub (q_var 4) q_int)) (qa_cons (q_var 6) (qa_cons (q_var 7) qa_nil)))))))))))))⟩)
abbrev s_L_inner : Stmt := topS 23
theorem sc_L_inner : FnScope [("_law_term_here" : Str)] [("_law_term_here" : Str)] (defScope s_L_inner) := ⟨rfl, rfl, rfl, by decide +kernel, rfl, by decide +kernel, by decide +kernel⟩
theorem k_L_inner {P : Program} {w : World} {K : PySem.W.Frag} {mg : Str → Option Value} {base : Heap} (hNT : base.NoSeer ∧ P.given.tree = none) (D : DefIn K mg "_law_inner" s_L_inner [("_law_term_here" : Str)]) : Cal P w K mg base 33 "_law_inner" [("_law_term_here" : Str)] (spP K 1 m_L_inner) := by
  unfold m_L_inner
  exact calP D sc_L_inner (by decide) (fun f cdv A outer s H E hr => ⟨_, ((qss_cons (qs_if (qt_in (q_ix (q_var 0) q_int) (q_tup (qa_cons q_str (qa_cons q_str (qa_cons q_str qa_nil)))))
    (qss_one (qs_ret (q_frz (qn_disp qa_nil))))
    qss_nil)
    (qss_cons (qs_if (qt_in (q_ix (q_var 0) q_int) (q_tup (qa_cons q_str (qa_cons q_str qa_nil))))
    (qss_one (qs_ret (q_frz (qn_disp (qa_cons (q_ix (q_var 0) q_int) qa_nil)))))
    qss_nil)
    (qss_one (qs_ret (q_frz (qn_disp (qa_cons (q_ix (q_var 0) q_int) (qa_cons (q_ix (q_var 0) q_int) qa_nil)))))))))⟩)
abbrev s_L_parts : Stmt := topS 24
theorem sc_L_parts : FnScope [("_law_term_here" : Str), ("_law_found" : Str), ("_law_one" : Str)] [("_law_term_here" : Str)] (defScope s_L_parts) := ⟨rfl, rfl, rfl, by decide +kernel, rfl, by decide +kernel, by decide +kernel⟩
theorem k_L_parts {P : Program} {w : World} {K : PySem.W.Frag} {mg : Str → Option Value} {base : Heap} (hNT : base.NoSeer ∧ P.given.tree = none) (k_L_inner : Cal P w K mg base 33 "_law_inner" [("_law_term_here" : Str)] (spP K 1 m_L_inner)) (D : DefIn K mg "_law_parts" s_L_parts [("_law_term_here" : Str)]) : ∀ n, Cal P w K mg base (34 + n) "_law_parts" [("_law_term_here" : Str)] (spP K 1 (m_L_parts n))
  | 0 => by
    rw [NW.z_L_parts]
    exact calP0 D sc_L_parts
  | n + 1 => by
    have k_L_parts := k_L_parts (P := P) (w := w) (base := base) hNT k_L_inner D n
    rw [NW.s_L_parts]
    exact calP (k := 34 + n) D sc_L_parts (by decide) (fun f cdv A outer s H E hr => ⟨_, ((qss_cons (qs_set 1 sc_L_parts.nd (q_own (qn_disp (qa_cons (q_var 0) qa_nil))))
    (qss_cons (qs_for PassesOwn.never rfl (qi_any (q_calP k_L_inner hr (by omega) (qa_cons (q_var 0) qa_nil))) (qg_name 2 sc_L_parts.nd)
    (qss_one (qs_expr (q_extend (q_var 1) (qa_cons (q_calP k_L_parts hr (by omega) (qa_cons (q_var 2) qa_nil)) qa_nil)))))
    (qss_one (qs_ret (q_var 1))))))⟩)
abbrev s_L_multiplied : Stmt := topS 25
theorem sc_L_multiplied : FnScope [("_law_one" : Str), ("_law_many" : Str), ("_law_found" : Str), ("_law_turn" : Str)] [("_law_one" : Str), ("_law_many" : Str)] (defScope s_L_multiplied) := ⟨rfl, rfl, rfl, by decide +kernel, rfl, by decide +kernel, by decide +kernel⟩
theorem k_L_multiplied {P : Program} {w : World} {K : PySem.W.Frag} {mg : Str → Option Value} {base : Heap} (hNT : base.NoSeer ∧ P.given.tree = none) (z_range : mg "range" = none) (D : DefIn K mg "_law_multiplied" s_L_multiplied [("_law_one" : Str), ("_law_many" : Str)]) : Cal P w K mg base 33 "_law_multiplied" [("_law_one" : Str), ("_law_many" : Str)] (spP K 2 m_L_multiplied) := by
  unfold m_L_multiplied
  exact calP D sc_L_multiplied (by decide) (fun f cdv A outer s H E hr => ⟨_, ((qss_cons (qs_set 2 sc_L_multiplied.nd q_int)
    (qss_cons (qs_for PassesOwn.never rfl (qi_r1 z_range (qa_cons (q_var 1) qa_nil)) (qg_name 3 sc_L_multiplied.nd)
    (qss_one (qs_set 2 sc_L_multiplied.nd (q_mulA (q_var 2) (q_var 0)))))
    (qss_one (qs_ret (q_var 2))))))⟩)
abbrev s_L_reach : Stmt := topS 26
theorem sc_L_reach : FnScope [("_law_term_here" : Str), ("_law_known" : Str), ("_law_some" : Str), ("_law_one" : Str)] [("_law_term_here" : Str), ("_law_known" : Str)] (defScope s_L_reach) := ⟨rfl, rfl, rfl, by decide +kernel, rfl, by decide +kernel, by decide +kernel⟩
theorem k_L_reach {P : Program} {w : World} {K : PySem.W.Frag} {mg : Str → Option Value} {base : Heap} (hNT : base.NoSeer ∧ P.given.tree = none) (z_int : mg "int" = none) (z_max : mg "max" = none) (k_L_multiplied : Cal P w K mg base 33 "_law_multiplied" [("_law_one" : Str), ("_law_many" : Str)] (spP K 2 m_L_multiplied)) (k_L_inner : Cal P w K mg base 33 "_law_inner" [("_law_term_here" : Str)] (spP K 1 m_L_inner)) (D : DefIn K mg "_law_reach" s_L_reach [("_law_term_here" : Str), ("_law_known" : Str)]) : ∀ n, Cal P w K mg base (34 + n) "_law_reach" [("_law_term_here" : Str), ("_law_known" : Str)] (spU K 2 (m_L_reach_2 n))
  | 0 => by
    rw [NW.z_L_reach_2]
    exact calU0 D sc_L_reach
  | n + 1 => by
    have k_L_reach := k_L_reach (P := P) (w := w) (base := base) hNT z_int z_max k_L_multiplied k_L_inner D n
    rw [NW.s_L_reach_2]
    exact calU (k := 34 + n) D sc_L_reach (by decide) (fun f cdv A outer s H E hr => ⟨_, ((qss_cons (qs_if (qt_eq hr (q_ix (q_var 0) q_int) q_str)
    (qss_one (qs_ret (q_dget hr (q_var 1) (q_ix (q_var 0) q_int))))
    qss_nil)
    (qss_cons (qs_setLc (g := (gName 3)) (tt := tYes) (te := (tCall (spU K 2 (m_L_reach_2 n)) [] E0 (tCons (tVar 3) (tCons (tVar 1) tNil)))) (gm := (gNameM 3)) (cm := bYes) (em := (eCallU 2 (m_L_reach_2 n) (aCons (eVar 3) (aCons (eVar 1) aNil)))) (ws := [3]) 2 [(("_law_one" : Str), 3)] true rfl sc_L_reach.nd (sw_true rfl rfl rfl (by decide +kernel)) (qi_any (q_calP k_L_inner hr (by omega) (qa_cons (q_var 0) qa_nil))) rfl rfl (by kernel_rfl) (fun _ _ _ _ _ => (qg_name 3 sc_L_reach.nd)) (fun _ _ _ _ _ => qts_nil) (fun _ _ _ _ _ => (q_calU k_L_reach hr (by omega) (qa_cons (q_var 3) (qa_cons (q_var 1) qa_nil)))) (by decide))
    (qss_cons (qs_if (qt_eq hr (q_ix (q_var 0) q_int) q_str)
    (qss_one (qs_ret (q_mulA (q_ix (q_var 2) q_int) (q_max2 rfl z_max (qa_cons q_int (qa_cons (q_ix (q_var 0) q_int) qa_nil))))))
    qss_nil)
    (qss_cons (qs_if (qt_eq hr (q_ix (q_var 0) q_int) q_str)
    (qss_one (qs_ret (q_ix (q_frz (qn_disp (qa_cons q_int (qa_cons (q_max2 rfl z_max (qa_cons (q_ix (q_var 0) q_int) (qa_cons (q_calP k_L_multiplied hr (by omega) (qa_cons (q_ix (q_var 2) q_int) (qa_cons (q_ix (q_var 0) q_int) qa_nil))) qa_nil))) qa_nil)))) (q_intc z_int (qa_cons (q_gt (q_ix (q_var 0) q_int) q_int) qa_nil)))))
    qss_nil)
    (qss_cons (qs_if (qt_eq hr (q_ix (q_var 0) q_int) q_str)
    (qss_one (qs_ret (q_addA (q_ix (q_var 2) q_int) (q_ix (q_var 2) q_int))))
    qss_nil)
    (qss_cons (qs_if (qt_eq hr (q_ix (q_var 0) q_int) q_str)
    (qss_one (qs_ret (q_mulA (q_ix (q_var 2) q_int) (q_ix (q_var 2) q_int))))
    qss_nil)
    (qss_one (qs_ret (q_maxL rfl z_max (qa_cons (q_addA (q_var 2) (q_frz (qn_disp (qa_cons q_int qa_nil)))) qa_nil)))))))))))⟩)
abbrev s_L_asks : Stmt := topS 27
theorem sc_L_asks : FnScope [("_law_term_here" : Str), ("_law_known" : Str), ("_law_some" : Str), ("_law_one" : Str)] [("_law_term_here" : Str), ("_law_known" : Str)] (defScope s_L_asks) := ⟨rfl, rfl, rfl, by decide +kernel, rfl, by decide +kernel, by decide +kernel⟩
theorem k_L_asks {P : Program} {w : World} {K : PySem.W.Frag} {mg : Str → Option Value} {base : Heap} (hNT : base.NoSeer ∧ P.given.tree = none) (z_sum : mg "sum" = none) (k_L_inner : Cal P w K mg base 33 "_law_inner" [("_law_term_here" : Str)] (spP K 1 m_L_inner)) (D : DefIn K mg "_law_asks" s_L_asks [("_law_term_here" : Str), ("_law_known" : Str)]) : ∀ n, Cal P w K mg base (34 + n) "_law_asks" [("_law_term_here" : Str), ("_law_known" : Str)] (spU K 2 (m_L_asks n))
  | 0 => by
    rw [NW.z_L_asks]
    exact calU0 D sc_L_asks
  | n + 1 => by
    have k_L_asks := k_L_asks (P := P) (w := w) (base := base) hNT z_sum k_L_inner D n
    rw [NW.s_L_asks]
    exact calU (k := 34 + n) D sc_L_asks (by decide) (fun f cdv A outer s H E hr => ⟨_, ((qss_cons (qs_if (qt_eq hr (q_ix (q_var 0) q_int) q_str)
    (qss_one (qs_ret (q_addA q_int (q_dget hr (q_var 1) (q_ix (q_var 0) q_int)))))
    qss_nil)
    (qss_cons (qs_setLc (g := (gName 3)) (tt := tYes) (te := (tCall (spU K 2 (m_L_asks n)) [] E0 (tCons (tVar 3) (tCons (tVar 1) tNil)))) (gm := (gNameM 3)) (cm := bYes) (em := (eCallU 2 (m_L_asks n) (aCons (eVar 3) (aCons (eVar 1) aNil)))) (ws := [3]) 2 [(("_law_one" : Str), 3)] true rfl sc_L_asks.nd (sw_true rfl rfl rfl (by decide +kernel)) (qi_any (q_calP k_L_inner hr (by omega) (qa_cons (q_var 0) qa_nil))) rfl rfl (by kernel_rfl) (fun _ _ _ _ _ => (qg_name 3 sc_L_asks.nd)) (fun _ _ _ _ _ => qts_nil) (fun _ _ _ _ _ => (q_calU k_L_asks hr (by omega) (qa_cons (q_var 3) (qa_cons (q_var 1) qa_nil)))) (by decide))
    (qss_cons (qs_if (qt_eq hr (q_ix (q_var 0) q_int) q_str)
    (qss_one (qs_ret (q_addA q_int (q_mulA (q_ix (q_var 2) q_int) (q_ix (q_var 0) q_int)))))
    qss_nil)
    (qss_one (qs_ret (q_addA q_int (q_sumA rfl z_sum (qa_cons (q_var 2) qa_nil)))))))))⟩)
abbrev s_L_heft : Stmt := topS 28
theorem sc_L_heft : FnScope [("_law_term_here" : Str), ("_law_known" : Str), ("_law_some" : Str), ("_law_many" : Str), ("_law_more" : Str), ("_law_found" : Str), ("_law_turn" : Str), ("_law_one" : Str)] [("_law_term_here" : Str), ("_law_known" : Str)] (defScope s_L_heft) := ⟨rfl, rfl, rfl, by decide +kernel, rfl, by decide +kernel, by decide +kernel⟩
theorem k_L_heft {P : Program} {w : World} {K : PySem.W.Frag} {mg : Str → Option Value} {base : Heap} (hNT : base.NoSeer ∧ P.given.tree = none) (z_max : mg "max" = none) (z_range : mg "range" = none) (k_L_inner : Cal P w K mg base 33 "_law_inner" [("_law_term_here" : Str)] (spP K 1 m_L_inner)) (D : DefIn K mg "_law_heft" s_L_heft [("_law_term_here" : Str), ("_law_known" : Str)]) : ∀ n, Cal P w K mg base (34 + n) "_law_heft" [("_law_term_here" : Str), ("_law_known" : Str)] (spU K 2 (m_L_heft_2 n))
  | 0 => by
    rw [NW.z_L_heft_2]
    exact calU0 D sc_L_heft
  | n + 1 => by
    have k_L_heft := k_L_heft (P := P) (w := w) (base := base) hNT z_max z_range k_L_inner D n
    rw [NW.s_L_heft_2]
    exact calU (k := 34 + n) D sc_L_heft (by decide) (fun f cdv A outer s H E hr => ⟨_, ((qss_cons (qs_if (qt_eq hr (q_ix (q_var 0) q_int) q_str)
    (qss_one (qs_ret (q_tup (qa_cons q_int (qa_cons q_int qa_nil)))))
    qss_nil)
    (qss_cons (qs_if (qt_eq hr (q_ix (q_var 0) q_int) q_str)
    (qss_one (qs_ret (q_tup (qa_cons q_int (qa_cons q_int qa_nil)))))
    qss_nil)
    (qss_cons (qs_if (qt_eq hr (q_ix (q_var 0) q_int) q_str)
    (qss_one (qs_ret (q_dget hr (q_var 1) (q_ix (q_var 0) q_int))))
    qss_nil)
    (qss_cons (qs_setLc (g := (gName 7)) (tt := tYes) (te := (tCall (spU K 2 (m_L_heft_2 n)) [] E0 (tCons (tVar 7) (tCons (tVar 1) tNil)))) (gm := (gNameM 7)) (cm := bYes) (em := (eCallU 2 (m_L_heft_2 n) (aCons (eVar 7) (aCons (eVar 1) aNil)))) (ws := [7]) 2 [(("_law_one" : Str), 7)] true rfl sc_L_heft.nd (sw_true rfl rfl rfl (by decide +kernel)) (qi_any (q_calP k_L_inner hr (by omega) (qa_cons (q_var 0) qa_nil))) rfl rfl (by kernel_rfl) (fun _ _ _ _ _ => (qg_name 7 sc_L_heft.nd)) (fun _ _ _ _ _ => qts_nil) (fun _ _ _ _ _ => (q_calU k_L_heft hr (by omega) (qa_cons (q_var 7) (qa_cons (q_var 1) qa_nil)))) (by decide))
    (qss_cons (qs_asg (q_ix (q_var 2) q_int) (qg_tup rfl (qgs_cons (qg_name 3 sc_L_heft.nd) (gName_noEx 3) (qgs_cons (qg_name 4 sc_L_heft.nd) (gName_noEx 4) qgs_nil))))
    (qss_cons (qs_if (qt_eq hr (q_ix (q_var 0) q_int) q_str)
    (qss_one (qs_ret (q_tup (qa_cons (q_addA (q_mulA (q_var 3) (q_max2 rfl z_max (qa_cons q_int (qa_cons (q_ix (q_var 0) q_int) qa_nil)))) q_int) (qa_cons (q_mulA (q_var 4) (q_max2 rfl z_max (qa_cons q_int (qa_cons (q_ix (q_var 0) q_int) qa_nil)))) qa_nil)))))
    qss_nil)
    (qss_cons (qs_if (qt_eq hr (q_ix (q_var 0) q_int) q_str)
    (qss_one (qs_ret (q_tup (qa_cons (q_max2 rfl z_max (qa_cons (q_addA (q_var 3) (q_mulA (q_var 4) (q_ix (q_ix (q_var 2) q_int) q_int))) (qa_cons (q_ix (q_ix (q_var 2) q_int) q_int) qa_nil))) (qa_cons (q_max2 rfl z_max (qa_cons (q_mulA (q_var 4) (q_ix (q_ix (q_var 2) q_int) q_int)) (qa_cons (q_ix (q_ix (q_var 2) q_int) q_int) qa_nil))) qa_nil)))))
    qss_nil)
    (qss_cons (qs_if (qt_eq hr (q_ix (q_var 0) q_int) q_str)
    (qss_cons (qs_set 5 sc_L_heft.nd (q_tup (qa_cons q_int (qa_cons q_int qa_nil))))
    (qss_cons (qs_for PassesOwn.never rfl (qi_r1 z_range (qa_cons (q_ix (q_var 0) q_int) qa_nil)) (qg_name 6 sc_L_heft.nd)
    (qss_one (qs_set 5 sc_L_heft.nd (q_tup (qa_cons (q_addA (q_var 3) (q_mulA (q_var 4) (q_ix (q_var 5) q_int))) (qa_cons (q_mulA (q_var 4) (q_ix (q_var 5) q_int)) qa_nil))))))
    (qss_one (qs_ret (q_var 5)))))
    qss_nil)
    (qss_one (qs_ret (q_tup (qa_cons (q_addA (q_addA (q_var 3) (q_ix (q_ix (q_var 2) q_int) q_int)) q_int) (qa_cons (q_addA (q_var 4) (q_ix (q_ix (q_var 2) q_int) q_int)) qa_nil))))))))))))))⟩)
abbrev s_L_is_light : Stmt := topS 29
theorem sc_L_is_light : FnScope [("_law_term_here" : Str), ("_law_reaches_known" : Str), ("_law_hefts" : Str), ("_law_asked" : Str), ("_law_one" : Str), ("_law_many" : Str), ("_law_more" : Str)] [("_law_term_here" : Str), ("_law_reaches_known" : Str), ("_law_hefts" : Str), ("_law_asked" : Str)] (defScope s_L_is_light) := ⟨rfl, rfl, rfl, by decide +kernel, rfl, by decide +kernel, by decide +kernel⟩
theorem k_L_is_light {P : Program} {w : World} {K : PySem.W.Frag} {mg : Str → Option Value} {base : Heap} (hNT : base.NoSeer ∧ P.given.tree = none) (k_L_parts : Cal P w K mg base 44 "_law_parts" [("_law_term_here" : Str)] (spP K 1 (m_L_parts 10))) (k_L_reach : Cal P w K mg base 44 "_law_reach" [("_law_term_here" : Str), ("_law_known" : Str)] (spU K 2 (m_L_reach_2 10))) (k_L_heft : Cal P w K mg base 44 "_law_heft" [("_law_term_here" : Str), ("_law_known" : Str)] (spU K 2 (m_L_heft_2 10))) (k_L_asks : Cal P w K mg base 44 "_law_asks" [("_law_term_here" : Str), ("_law_known" : Str)] (spU K 2 (m_L_asks 10))) (D : DefIn K mg "_law_is_light" s_L_is_light [("_law_term_here" : Str), ("_law_reaches_known" : Str), ("_law_hefts" : Str), ("_law_asked" : Str)]) : Cal P w K mg base 45 "_law_is_light" [("_law_term_here" : Str), ("_law_reaches_known" : Str), ("_law_hefts" : Str), ("_law_asked" : Str)] (spU K 4 m_L_is_light_2) := by
  unfold m_L_is_light_2
  exact calU D sc_L_is_light (by decide) (fun f cdv A outer s H E hr => ⟨_, ((qss_cons (qs_if (qt_gt (q_calU k_L_asks hr (by decide) (qa_cons (q_var 0) (qa_cons (q_var 3) qa_nil))) q_int)
    (qss_one (qs_ret q_bl))
    qss_nil)
    (qss_cons (qs_for PassesOwn.never rfl (qi_any (q_calP k_L_parts hr (by decide) (qa_cons (q_var 0) qa_nil))) (qg_name 4 sc_L_is_light.nd)
    (qss_cons (qs_asg (q_calU k_L_heft hr (by decide) (qa_cons (q_var 4) (qa_cons (q_var 2) qa_nil))) (qg_tup rfl (qgs_cons (qg_name 5 sc_L_is_light.nd) (gName_noEx 5) (qgs_cons (qg_name 6 sc_L_is_light.nd) (gName_noEx 6) qgs_nil))))
    (qss_one (qs_if (qt_w (qw_or (qt_gt (q_calU k_L_reach hr (by decide) (qa_cons (q_var 4) (qa_cons (q_var 1) qa_nil))) q_int) (qw_or1 (qt_gt (q_addA (q_var 5) (q_mulA q_int (q_var 6))) q_int))))
    (qss_one (qs_ret q_bl))
    qss_nil))))
    (qss_one (qs_ret q_bl)))))⟩)
abbrev s_L_reckoning : Stmt := topS 30
theorem sc_L_reckoning : FnScope [("_law_flow_here" : Str), ("_law_most" : Str), ("_law_names" : Str), ("_law_known" : Str), ("_law_hefts" : Str), ("_law_asked" : Str), ("_law_rows" : Str), ("_law_k" : Str), ("_law_name" : Str), ("_law_term_here" : Str)] [("_law_flow_here" : Str), ("_law_most" : Str)] (defScope s_L_reckoning) := ⟨rfl, rfl, rfl, by decide +kernel, rfl, by decide +kernel, by decide +kernel⟩
theorem k_L_reckoning {P : Program} {w : World} {K : PySem.W.Frag} {mg : Str → Option Value} {base : Heap} (hNT : base.NoSeer ∧ P.given.tree = none) (z_enumerate : mg "enumerate" = none) (z_tuple : mg "tuple" = none) (k_L_asks : Cal P w K mg base 44 "_law_asks" [("_law_term_here" : Str), ("_law_known" : Str)] (spU K 2 (m_L_asks 10))) (k_L_heft : Cal P w K mg base 44 "_law_heft" [("_law_term_here" : Str), ("_law_known" : Str)] (spU K 2 (m_L_heft_2 10))) (k_L_reach : Cal P w K mg base 44 "_law_reach" [("_law_term_here" : Str), ("_law_known" : Str)] (spU K 2 (m_L_reach_2 10))) (k_L_is_light : Cal P w K mg base 45 "_law_is_light" [("_law_term_here" : Str), ("_law_reaches_known" : Str), ("_law_hefts" : Str), ("_law_asked" : Str)] (spU K 4 m_L_is_light_2)) (k_L_pick : Cal P w K mg base 33 "_law_pick" [("_law_flow_here" : Str), ("_law_many" : Str)] (spF K 2 m_L_pick)) (k_L_leaf : Cal P w K mg base 35 "_law_leaf" [("_law_flow_here" : Str), ("_law_names" : Str)] (spF K 2 m_L_leaf)) (k_L_term : Cal P w K mg base 46 "_law_term" [("_law_flow_here" : Str), ("_law_names" : Str), ("_law_room" : Str), ("_law_down" : Str)] (spF K 4 (m_L_term 10))) (k_L_words : Cal P w K mg base 35 "_law_words" [("_law_flow_here" : Str), ("_law_many" : Str)] (spF K 2 m_L_words)) (D : DefIn K mg "_law_reckoning" s_L_reckoning [("_law_flow_here" : Str), ("_law_most" : Str)]) : Cal P w K mg base 47 "_law_reckoning" [("_law_flow_here" : Str), ("_law_most" : Str)] (spFL K 2 m_L_reckoningl) := by
  unfold m_L_reckoningl
  exact calFL (i := 6) (init := (defBody s_L_reckoning).take 6) (last := (defBody s_L_reckoning).getD 6 (.Pass ⟨0, 0, 0, 0⟩)) D sc_L_reckoning (by decide) rfl (fun f cdv A outer s H E hr => ⟨⟨_, ((qss_cons (qs_set 2 sc_L_reckoning.nd (q_calF k_L_words hr (by decide) (qa_cons (q_var 0) (qa_cons (q_addA q_int (q_calF k_L_pick hr (by decide) (qa_cons (q_var 0) (qa_cons (q_var 1) qa_nil)))) qa_nil))))
    (qss_cons (qs_set 3 sc_L_reckoning.nd q_newD)
    (qss_cons (qs_set 4 sc_L_reckoning.nd q_newD)
    (qss_cons (qs_set 5 sc_L_reckoning.nd q_newD)
    (qss_cons (qs_set 6 sc_L_reckoning.nd (q_own (qn_disp qa_nil)))
    (qss_one (qs_for PassesOwn.never rfl (qi_enum z_enumerate (qa_cons (q_var 2) qa_nil)) (qg_tup rfl (qgs_cons (qg_name 7 sc_L_reckoning.nd) (gName_noEx 7) (qgs_cons (qg_name 8 sc_L_reckoning.nd) (gName_noEx 8) qgs_nil)))
    (qss_cons (qs_set 9 sc_L_reckoning.nd (q_calF k_L_term hr (by decide) (qa_cons (q_var 0) (qa_cons (q_slA (q_var 2) qo_none (qo_some (q_var 7))) (qa_cons (q_ix (q_frz (qn_disp (qa_cons q_int (qa_cons q_int (qa_cons q_int (qa_cons q_int qa_nil)))))) (q_calF k_L_pick hr (by decide) (qa_cons (q_var 0) (qa_cons q_int qa_nil)))) (qa_cons q_int qa_nil))))))
    (qss_cons (qs_if (qt_not (qt_tru (q_with 3 (q_with 4 (q_with 5 (q_calU k_L_is_light hr (by decide) (qa_cons (q_var 9) (qa_cons (q_var 3) (qa_cons (q_var 4) (qa_cons (q_var 5) qa_nil))))))))))
    (qss_one (qs_set 9 sc_L_reckoning.nd (q_tup (qa_cons q_str (qa_cons (q_calF k_L_leaf hr (by decide) (qa_cons (q_var 0) (qa_cons (q_frz (qn_disp qa_nil)) qa_nil))) (qa_cons (q_ix (q_frz (qn_disp (qa_cons (q_tup (qa_cons q_str qa_nil)) (qa_cons (q_tup (qa_cons q_str (qa_cons (q_tup (qa_cons q_str qa_nil)) (qa_cons (q_tup (qa_cons q_str qa_nil)) qa_nil)))) qa_nil)))) (q_calF k_L_pick hr (by decide) (qa_cons (q_var 0) (qa_cons q_int qa_nil)))) qa_nil))))))
    qss_nil)
    (qss_cons (qs_expr (q_append (q_var 6) (qa_cons (q_tup (qa_cons (q_var 8) (qa_cons (q_var 9) qa_nil))) qa_nil)))
    (qss_cons (qs_dput hr (q_var 3) (q_var 8) (q_with 3 (q_calU k_L_reach hr (by decide) (qa_cons (q_var 9) (qa_cons (q_var 3) qa_nil)))))
    (qss_cons (qs_dput hr (q_var 4) (q_var 8) (q_with 4 (q_calU k_L_heft hr (by decide) (qa_cons (q_var 9) (qa_cons (q_var 4) qa_nil)))))
    (qss_one (qs_dput hr (q_var 5) (q_var 8) (q_with 5 (q_calU k_L_asks hr (by decide) (qa_cons (q_var 9) (qa_cons (q_var 5) qa_nil)))))))))))))))))))⟩, ps_ret (pe_tupF (by rfl) z_tuple (pv 6))⟩)
abbrev s_L_valued_at : Stmt := topS 31
section
variable {P : Program} {w : World} {K : PySem.W.Frag} {mg : Str → Option Value} {base : Heap} {F : Ops}
abbrev s_vat : Stmt := topS 31
abbrev NL : List Str := ["_law_term_here", "_law_r", "_law_rows", "_law_kept", "_law_turn", "_law_some", "_law_found", "_law_one"]
abbrev PL : List Str := ["_law_term_here", "_law_r", "_law_rows", "_law_kept"]
theorem sc_vat : FnScope NL PL (defScope s_vat) := ⟨rfl, rfl, rfl, by decide +kernel, rfl, by decide +kernel, by decide +kernel⟩
def cst (rs : List (PyData × Nat)) : Nat := (rs.map Prod.snd).sum
theorem cst_take {rs : List (PyData × Nat)} {i : Nat} {z : PyData × Nat} (h : rs[i]? = some z) : cst (rs.take (i + 1)) = cst (rs.take i) + z.2 := by
  unfold cst
  rw [List.take_succ, h]
  simp
theorem cst_le {rs : List (PyData × Nat)} : ∀ i, cst (rs.take i) ≤ cst rs := fun i => by
  have : rs = rs.take i ++ rs.drop i := (List.take_append_drop i rs).symm
  have e : cst rs = cst (rs.take i) + cst (rs.drop i) := by
    have h2 : cst (rs.take i ++ rs.drop i) = cst (rs.take i) + cst (rs.drop i) := by
      unfold cst
      rw [List.map_append, List.sum_append]
    rw [List.take_append_drop] at h2
    exact h2
  omega
theorem spJ_term {pt pf : Addr} {B : Addr → Prop} {tv : List (Key × V)} {TT : List (Str × PyData)} {N n : Nat} {H : Hp} {Q : VK} {E : XK} {va vr : V} {a r : PyData} {z : PyData × Nat} (I : VlJ K P w F TT B pt pf tv N H) (ra : RT K B H va a) (rr : RT K B H vr r) (e : evT F TT n a r = some z) (hN : N + z.2 ≤ 1000000)
    (q : ∀ v H', Gro pf H H' → VlJ K P w F TT B pt pf tv (N + z.2) H' → RT K B H' v z.1 → Q v H') : spJ K P w F n [va, vr, .ref pt, .ref pf] H Q E :=
  ⟨B, pt, pf, tv, TT, N, va, vr, a, r, rfl, I, ra, rr, z.1, z.2, e, hN, q⟩
theorem spP_twoJ {m : List PyData → Rp} {pt pf : Addr} {F : Ops} {B : Addr → Prop} {tv : List (Key × V)} {TT : List (Str × PyData)} {N : Nat} {H : Hp} {Q : VK} {E : XK} {va vb : V} {a b d : PyData} (I : VlJ K P w F TT B pt pf tv N H) (ra : RT K B H va a) (rb : RT K B H vb b) (e : okD (m [a, b]) = some d)
    (q : ∀ v H', (∀ b o, H b = some o → H' b = some o) → VlJ K P w F TT B pt pf tv N H' → RT K B H' v d → Q v H') : spP K 2 m [va, vb] H Q E := by
  obtain ⟨fr, e'⟩ := okD_some e
  exact ⟨B, [a, b], d, fr, I.nB, .cons ra (.cons rb .nil), rfl, e', fun v H' g rv _ => q v H' g (I.grow g) rv⟩
theorem lc_vals {pt pf a1 D : Addr} {B : Addr → Prop} {tv : List (Key × V)} {TT : List (Str × PyData)} {N n : Nat} {H1 : Hp} {xs : List V} {ts : List PyData} {vt vr : V} {r : PyData} {rs : List (PyData × Nat)} {Qd : Hp → Prop}
    (I : VlJ K P w F TT B pt pf tv N H1) (ha : SqLB K B H1 a1 xs) (rx : RTs K B H1 xs ts) (rr : RT K B H1 vr r) (hl : ts.length = rs.length) (hev : ∀ (i : Nat) (t : PyData) (z : PyData × Nat), ts[i]? = some t → rs[i]? = some z → evT F TT n t r = some z) (hN : N + cst rs ≤ 1000000) (hsz : rs.length < 1000) (hD : H1 D = none)
    (q : ∀ H' zs, Gro pf H1 H' → VlJ K P w F TT B pt pf tv (N + cst rs) H' → H' D = some (.lst zs) → RTs K B H' zs (rs.map (·.1)) → Qd H') :
    ∃ W : Nat → Nat → Hp → Prop, (∃ m, W 0 m (upd H1 D (.lst []))) ∧ ∀ i m H, W i m H →
      ((Itl K a1).stop i H ∧ Qd H) ∨ ((Itl K a1).go i H ∧ ∃ Nx : Hp → Prop, (∀ H', Nx H' → ∃ m', m' < m ∧ W (i + 1) m' H') ∧ ∀ x H', (Itl K a1).yld i H x H' → gName 7 x (wipe [some vt, some vr, some (.ref pt), some (.ref pf), none, none, none, none] [7]) H' fun σ2 H2 => wipe σ2 [7] = wipe [some vt, some vr, some (.ref pt), some (.ref pf), none, none, none, none] [7] ∧ tYes σ2 H2 fun b H3 =>
        if b = true then tCall (spJ K P w F n) [] E0 (tCons (tVar 7) (tCons (tVar 1) (tCons (tVar 2) (tCons (tVar 3) tNil)))) σ2 H3 fun y H4 => ∃ acc, H4 D = some (.lst acc) ∧ acc.length < sizeLine ∧ Nx (upd H4 D (.lst (acc ++ [y]))) else Nx H3) := by
  obtain ⟨kvs0, hf0, _⟩ := I.hf
  have nDpt : pt ≠ D := ne_of_none I.ht hD
  have nDpf : pf ≠ D := ne_of_none hf0 hD
  have nDa : a1 ≠ D := ne_of_none ha.1 hD
  have nBD : ¬ B D := fun z => (I.nB D z).1 hD
  have I0 : VlJ K P w F TT (fun b => B b ∨ b = D) pt pf tv N (upd H1 D (.lst [])) := I.ban hD
  have k0 : Keep B H1 (fun b => B b ∨ b = D) (upd H1 D (.lst [])) := fun b o e n => ⟨by rw [upd_ne (ne_of_none e hD)]; exact e, fun z => z.elim n fun z => by rw [z, hD] at e; cases e⟩
  have g0 : Gro pf H1 (upd H1 D (.lst [])) := fun b o _ e => by rw [upd_ne (ne_of_none e hD)]; exact e
  have rx0 := RTs.mono k0 _ _ rx
  have rr0 := RT.mono k0 _ _ rr
  have naf : a1 ≠ pf := fun z => ha.2 (z ▸ I.bf)
  refine lc_list (xs := xs) (fun i H' => ∃ zs : List V, i ≤ xs.length ∧ H' D = some (.lst zs) ∧ zs.length = i ∧ Gro pf H1 H' ∧ VlJ K P w F TT (fun b => B b ∨ b = D) pt pf tv (N + cst (rs.take i)) H' ∧ Keep (fun b => B b ∨ b = D) (upd H1 D (.lst [])) (fun b => B b ∨ b = D) H' ∧ RTs K (fun b => B b ∨ b = D) H' zs ((rs.take i).map (·.1)))
    ⟨[], Nat.zero_le _, upd_same, rfl, g0, by simpa [cst] using I0, fun b o e n => ⟨e, n⟩, by simpa using RTs.nil⟩ ?_ ?_ ?_
  · rintro i H' hi ⟨zs, _, h1, h2, h3, h4, h5, h6⟩
    exact .inl (.inl (h3 _ _ naf ha.1))
  · rintro i x H' hx ⟨zs, hi, h1, h2, h3, h4, h5, h6⟩
    have hi2 : i < rs.length := by
      rw [← hl, ← rx.len]
      exact (List.getElem?_eq_some_iff.mp hx).1
    obtain ⟨z, hz⟩ : ∃ z, rs[i]? = some z := ⟨_, List.getElem?_eq_getElem hi2⟩
    obtain ⟨t, ht⟩ : ∃ t, ts[i]? = some t := ⟨_, List.getElem?_eq_getElem (by rw [hl]; exact hi2)⟩
    have rt0 : RT K (fun b => B b ∨ b = D) (upd H1 D (.lst [])) x t := by
      obtain ⟨v, e1, e2⟩ := rx0.get ht
      rw [hx] at e1
      cases e1
      exact e2
    have rt := RT.mono h5 _ _ rt0
    have rr' := RT.mono h5 _ _ rr0
    refine ⟨rfl, ?_⟩
    unfold tYes
    dsimp only
    rw [if_pos rfl]
    refine ⟨_, rfl, _, rfl, _, rfl, _, rfl, ?_⟩
    have hc := cst_take hz
    have hcl := cst_le (rs := rs) (i + 1)
    refine spJ_term (E := E0) h4 rt rr' (hev i t z ht hz) (by omega) fun v H2 g2 I2 rv => ?_
    have hD2 : H2 D = some (.lst zs) := g2 _ _ (Ne.symm nDpf) h1
    refine ⟨zs, hD2, by rw [h2, sizeLine_eq]; omega, zs ++ [v], ?_, upd_same, by simp [h2], ?_, ?_, ?_, ?_⟩
    · have := rx.len; omega
    · intro b o n e
      have e2 := g2 _ _ n (h3 _ _ n e)
      rw [upd_ne (ne_of_none e hD)]
      exact e2
    · rw [hc, ← Nat.add_assoc]
      exact I2.chg (.inr rfl) nDpt nDpf
    · intro b o e n
      refine ⟨?_, n⟩
      rw [upd_ne (fun z => n (.inr z))]
      exact g2 _ _ (fun z => n (.inl (z ▸ I.bf))) (h5 _ _ e n).1
    · have kk : Keep (fun b => B b ∨ b = D) H2 (fun b => B b ∨ b = D) (upd H2 D (.lst (zs ++ [v]))) := fun b o e n => ⟨by rw [upd_ne (fun z => n (.inr z))]; exact e, n⟩
      rw [List.take_succ, hz]
      simp only [Option.toList, List.map_append, List.map_cons, List.map_nil]
      exact RTs.snoc (RTs.mono kk _ _ (RTs.mono (h4.keep g2) _ _ h6)) (RT.mono kk _ _ rv)
  · rintro H' ⟨zs, _, h1, h2, h3, h4, h5, h6⟩
    have e : rs.take xs.length = rs := by rw [rx.len, hl]; exact List.take_length
    rw [e] at h4 h6
    exact q H' zs h3 (h4.weak (fun a h => .inl h) I.bf) h1 (RTs.weak (fun a h => .inl h) _ _ h6)
theorem comp_read {n : Nat} {pt1 pt pf : Addr} {B : Addr → Prop} {tv : List (Key × V)} {TT : List (Str × PyData)} {N : Nat} {H : Hp} {xs0 : List V} {ds0 ts : List PyData} {vr : V} {r : PyData} {rs : List (PyData × Nat)} {mI : List PyData → Rp} {rest : TS} {D0 : Ends}
    (I : VlJ K P w F TT B pt pf tv N H) (hs1 : SqTB K B H pt1 xs0) (ha1 : RTs K B H xs0 ds0) (rr : RT K B H vr r) (hm : okD (mI [.tuple ds0]) = some (.list ts)) (hl : ts.length = rs.length) (hev : ∀ (i : Nat) (t : PyData) (z : PyData × Nat), ts[i]? = some t → rs[i]? = some z → evT F TT n t r = some z) (hN : N + cst rs ≤ 1000000) (hsz : rs.length < 1000)
    (q : ∀ H2 D zs, Gro pf H H2 → VlJ K P w F TT B pt pf tv (N + cst rs) H2 → H2 D = some (.lst zs) → RTs K B H2 zs (rs.map (·.1)) → rest D0 [some (.ref pt1), some vr, some (.ref pt), some (.ref pf), none, some (.ref D), none, none] H2) :
    tSeq (tAsg (tLc (iList K (tCall (spP K 1 mI) [] E0 (tCons (tVar 0) tNil))) (gName 7) tYes (tCall (spJ K P w F n) [] E0 (tCons (tVar 7) (tCons (tVar 1) (tCons (tVar 2) (tCons (tVar 3) tNil))))) [7]) (gName 5)) rest D0 [some (.ref pt1), some vr, some (.ref pt), some (.ref pf), none, none, none, none] H := by
  obtain ⟨fr, em⟩ := okD_some hm
  refine ⟨_, rfl, B, [.tuple ds0], .list ts, fr, I.nB, .cons (.tup hs1 ha1) .nil, rfl, em, fun v H1 g rv _ => ?_⟩
  cases rv with
  | @lst a1 xs1 _ hsl hal =>
  refine ⟨a1, rfl, ⟨_, hsl.q⟩, fun D hD => ?_⟩
  have k1 : Keep B H B H1 := fun b o e n => ⟨g b o e, n⟩
  refine lc_vals (I.grow g) hsl hal (RT.mono k1 _ _ rr) hl hev hN hsz hD fun H2 zs g2 I2 hD2 rz => ?_
  exact q H2 D zs (fun b o n e => g2 b o n (g b o e)) I2 hD2 rz
end
section
variable {P : Program} {w : World} {K : PySem.W.Frag} {mg : Str → Option Value} {base : Heap} {F : Ops}
theorem okJ {f : Addr} {fd : FuncData} {kk kA kM kI : Nat} {mA mM mI : List PyData → Rp} (z_range : mg "range" = none) (z_int : mg "int" = none)
    (CA : Cal P w K mg base kA "_law_added" ["_law_one", "_law_other"] (spP K 2 mA)) (CM : Cal P w K mg base kM "_law_product" ["_law_one", "_law_other"] (spP K 2 mM)) (CI : Cal P w K mg base kI "_law_inner" ["_law_term_here"] (spP K 1 mI)) (hA : kA ≤ kk) (hM : kM ≤ kk) (hI : kI ≤ kk)
    (hI1 : ∀ (a : PyData) (k : Int), okD (mI [.tuple [.str "power", a, .int k]]) = some (.list [a])) (hI2 : ∀ (s : Str) (a b : PyData), (s = "plus" ∨ s = "minus" ∨ s = "times") → okD (mI [.tuple [.str s, a, b]]) = some (.list [a, b]))
    (Fn : Fun K "_law_valued_at" "_law_valued_at" s_vat f fd) (mf : mg "_law_valued_at" = some (.ref f)) (bf : Binds K fd PL []) :
    ∀ n, FnOk P w K mg base CX0 (kk + n) f fd PL (spJ K P w (opsL mA mM) n)
  | 0 => by
    refine ⟨fun vs H Q E h => ?_, fun A outer s H args us vs Q E hr he hb hv h => ?_⟩
    · obtain ⟨B, pt, pf, tv, TT, N, vt, vr, t, r, rfl, I, rt, rr, d, c, e, _⟩ := h
      cases e
    · obtain ⟨B, pt, pf, tv, TT, N, vt, vr, t, r, rfl, I, rt, rr, d, c, e, _⟩ := h
      cases e
  | n + 1 => by
    have GT := okJ z_range z_int CA CM CI hA hM hI hI1 hI2 Fn mf bf n
    obtain ⟨gA, dA, FA, eA, qA, bA⟩ := CA.ex
    obtain ⟨gM, dM, FM, eM, qM, bM⟩ := CM.ex
    obtain ⟨gI, dI, FI, eI, qI, bI⟩ := CI.ex
    refine Fn.ok sc_vat (fun vs H Q E h => ?_) (fun cdv A outer s H vs Q E hr h => ?_)
    · obtain ⟨B, pt, pf, tv, TT, N, vt, vr, t, r, rfl, _⟩ := h
      rfl
    · obtain ⟨B, pt, pf, tv, TT, N, vt, vr, t, r, rfl, I, rt, rr, d, c, e, hN, k⟩ := h
      unfold evT at e
      split at e
      · rename_i so as
        split at e
        · rename_i hso
          cases rt with
          | @tup pt1 xs1 _ hs1 ha1 =>
          have ha1' := ha1
          cases ha1 with
          | cons rs1 rest1 =>
          cases rs1
          rename_i ys
          have hi0 : kk ≤ kk + n := Nat.le_add_right _ _
          refine ⟨_, pss_cons (ps_if (pt_cmpR (op_eqD hr.units) (pe_ix ix_tup (pv 0) pe_int (fun _ _ => rfl)) pe_str (nomark _)) (pss_one (ps_ret (pv 1))) pss_nil)
            (pss_cons (ps_if (pt_cmpR (op_eqD hr.units) (pe_ix ix_tup (pv 0) pe_int (fun _ _ => rfl)) pe_str (nomark _)) (pss_one (ps_ret (pe_ix ix_tup (pv 0) pe_int (fun _ _ => rfl)))) pss_nil)
            (pss_cons (ps_if (pt_cmpR (op_eqD hr.units) (pe_ix ix_tup (pv 0) pe_int (fun _ _ => rfl)) pe_str (nomark _))
              (pss_cons (ps_if (pt_cmpR (op_nnotin (u9 hr.units)) (pe_tup (pa_cons (pe_ix ix_tup (pv 0) pe_int (fun _ _ => rfl)) (pa_cons (pv 1) pa_nil))) (pv 3) (by rfl))
                (pss_one (ps_nput (u9 hr.units) (pv 3) (pe_tup (pa_cons (pe_ix ix_tup (pv 0) pe_int (fun _ _ => rfl)) (pa_cons (pv 1) pa_nil)))
                  (pe_call GT hr (by rfl) mf Fn.kp bf .nil pass0 (pa_cons (pe_dget (u1 hr.units) (pv 2) (pe_ix ix_tup (pv 0) pe_int (fun _ _ => rfl)) (fun _ _ => rfl)) (pa_cons (pv 1) (pa_cons (pv 2) (pa_cons (pv 3) pa_nil))))) rfl)) pss_nil)
              (pss_one (ps_ret (pe_nget (u9 hr.units) (pv 3) (pe_tup (pa_cons (pe_ix ix_tup (pv 0) pe_int (fun _ _ => rfl)) (pa_cons (pv 1) pa_nil))) (fun _ _ => rfl))))) pss_nil)
            (pss_cons (ps_if (pt_cmpR (op_eqD hr.units) (pe_ix ix_tup (pv 0) pe_int (fun _ _ => rfl)) pe_str (nomark _))
              (pss_one (ps_ret (pe_call GT hr (by rfl) mf Fn.kp bf .nil pass0 (pa_cons (pe_ix ix_tup (pv 0) pe_int (fun _ _ => rfl)) (pa_cons (pe_call GT hr (by rfl) mf Fn.kp bf .nil pass0 (pa_cons (pe_ix ix_tup (pv 0) pe_int (fun _ _ => rfl)) (pa_cons (pv 1) (pa_cons (pv 2) (pa_cons (pv 3) pa_nil))))) (pa_cons (pv 2) (pa_cons (pv 3) pa_nil))))))) pss_nil)
            (pss_cons (ps_if (pt_cmpR (op_eqD hr.units) (pe_ix ix_tup (pv 0) pe_int (fun _ _ => rfl)) pe_str (nomark _))
              (pss_cons (ps_for PassesOwn.never rfl (pi_range1 (by rfl) z_range (pa_cons (pe_ix ix_tup (pv 0) pe_int (fun _ _ => rfl)) pa_nil)) (pg_name (i := 4) sc_vat.nd rfl (.inl rfl))
                (pss_one (ps_set (i := 1) sc_vat.nd rfl (.inr rfl) (pe_call GT hr (by rfl) mf Fn.kp bf .nil pass0 (pa_cons (pe_ix ix_tup (pv 0) pe_int (fun _ _ => rfl)) (pa_cons (pv 1) (pa_cons (pv 2) (pa_cons (pv 3) pa_nil))))))))
              (pss_one (ps_ret (pv 1)))) pss_nil)
            (pss_cons (ps_setLc (i := 5) (own := [("_law_one", 7)]) (g := gName 7) (tt := tYes) (te := tCall (spJ K P w (opsL mA mM) n) [] E0 (tCons (tVar 7) (tCons (tVar 1) (tCons (tVar 2) (tCons (tVar 3) tNil))))) rfl sc_vat.nd rfl rfl (sw_true rfl rfl rfl (by decide +kernel)) (pi_list (pe_call FI (hr.mono (Nat.le_trans hI hi0)) (by rfl) eI qI bI .nil pass0 (pa_cons (pv 0) pa_nil))) (blkOk_by (by kernel_rfl))
                (fun _ _ _ _ _ => pg_name sc_vat.nd rfl (.inl rfl)) (fun _ _ _ _ _ => pts_nil) (fun _ _ _ _ _ => pe_call GT hr (by rfl) mf Fn.kp bf .nil pass0 (pa_cons (pv 7) (pa_cons (pv 1) (pa_cons (pv 2) (pa_cons (pv 3) pa_nil))))))
            (pss_cons (ps_if (pt_cmpR (op_eqD hr.units) (pe_ix ix_tup (pv 0) pe_int (fun _ _ => rfl)) pe_str (nomark _))
              (pss_cons (ps_set (i := 6) sc_vat.nd rfl (.inl rfl) (pe_tup (pa_cons pe_int (pa_cons pe_int pa_nil))))
              (pss_cons (ps_for PassesOwn.never rfl (pi_range1 (by rfl) z_range (pa_cons (pe_ix ix_tup (pv 0) pe_int (fun _ _ => rfl)) pa_nil)) (pg_name (i := 4) sc_vat.nd rfl (.inl rfl))
                (pss_one (ps_set (i := 6) sc_vat.nd rfl (.inl rfl) (pe_call FM (hr.mono (Nat.le_trans hM hi0)) (by rfl) eM qM bM .nil pass0 (pa_cons (pv 6) (pa_cons (pe_ix ix_list (pv 5) pe_int (fun _ _ => rfl)) pa_nil))))))
              (pss_one (ps_ret (pv 6))))) pss_nil)
            (pss_cons (ps_if (pt_cmpR (op_eqD hr.units) (pe_ix ix_tup (pv 0) pe_int (fun _ _ => rfl)) pe_str (nomark _))
              (pss_one (ps_ret (pe_call FM (hr.mono (Nat.le_trans hM hi0)) (by rfl) eM qM bM .nil pass0 (pa_cons (pe_ix ix_list (pv 5) pe_int (fun _ _ => rfl)) (pa_cons (pe_ix ix_list (pv 5) pe_int (fun _ _ => rfl)) pa_nil))))) pss_nil)
            (pss_one (ps_ret (pe_call FA (hr.mono (Nat.le_trans hA hi0)) (by rfl) eA qA bA .nil pass0 (pa_cons (pe_ix ix_list (pv 5) pe_int (fun _ _ => rfl)) (pa_cons (pe_tup (pa_cons (pe_op op_mulW (pe_ix ix_tup (pe_ix ix_list (pv 5) pe_int (fun _ _ => rfl)) pe_int (fun _ _ => rfl)) (pe_ix ix_list (pe_lst (pa_cons (pe_op op_sub pe_int pe_int) (pa_cons pe_int pa_nil)))
                (pe_callTy call_int1 (by rfl) z_int boot_int (pa_cons (pe_cmpR (op_eqD hr.units) (pe_ix ix_tup (pv 0) pe_int (fun _ _ => rfl)) pe_str (nomark _)) pa_nil) (by decide) (by decide) rfl rfl) (fun _ _ => rfl))) (pa_cons (pe_ix ix_tup (pe_ix ix_list (pv 5) pe_int (fun _ _ => rfl)) pe_int (fun _ _ => rfl)) pa_nil))) pa_nil)))))))))))), ?_⟩
          have npf : pt ≠ pf := I.ne
          have sort : ∀ (z : Str), PyData.strOk z = true → ∀ {σ : List (Option V)} {H' : Hp} {Q' : VK}, σ[0]? = some (some (.ref pt1)) → SqT K H' pt1 (V.str so :: ys) → Q' (.bl (decide (so = z))) H' → tOp (rEqD K) (tOp (rIxT K) (tVar 0) (tC (.int 0))) (tC (.str z)) σ H' Q' := fun z hz {σ H' Q'} h0 hs q => ⟨_, h0, pt1, _, 0, _, rfl, rfl, hs, at0, .str so, .str z, .str _, .str _, str_sh hso, str_sh hz, by rw [eqv_str]; exact q⟩
          unfold evS at e
          refine sort "x" (by decide +kernel) rfl hs1.q ⟨_, rfl, ?_⟩
          by_cases h1 : so = "x"
          · rw [if_pos h1] at e
            cases e
            exact ifT (decide_eq_true h1) ⟨_, rfl, k _ _ (fun b o _ e => e) I rr⟩
          rw [if_neg h1] at e
          refine ifF (decide_eq_false h1) ?_
          refine sort "number" (by decide +kernel) rfl hs1.q ⟨_, rfl, ?_⟩
          by_cases h2 : so = "number"
          · rw [if_pos h2] at e
            refine ifT (decide_eq_true h2) ?_
            split at e
            · rename_i q
              cases e
              cases rest1 with
              | cons rq rest2 =>
              cases rest2
              exact ⟨_, rfl, pt1, _, 1, _, rfl, rfl, hs1.q, rfl, k _ _ (fun b o _ e => e) I rq⟩
            · cases e
          rw [if_neg h2] at e
          refine ifF (decide_eq_false h2) ?_
          refine sort "name" (by decide +kernel) rfl hs1.q ⟨_, rfl, ?_⟩
          by_cases h3 : so = "name"
          · rw [if_pos h3] at e
            refine ifT (decide_eq_true h3) ?_
            split at e
            · rename_i x
              cases rest1 with
              | cons rx rest2 =>
              cases rest2
              cases rx
              split at e
              · rename_i hf
                obtain ⟨hf, hx⟩ := hf
                cases eu : TT.lookup x with
                | none => rw [eu] at e; cases e
                | some u =>
                  rw [eu] at e
                  cases ev : evT (opsL mA mM) TT n u r with
                  | none => simp only [ev] at e; cases e
                  | some z =>
                    simp only [ev, Option.map_some, Option.some.injEq, Prod.mk.injEq] at e
                    obtain ⟨rfl, rfl⟩ := e
                    refine ⟨_, rfl, pt1, _, 1, _, rfl, rfl, hs1.q, rfl, _, rfl, two, fun a ha => ?_⟩
                    have g1 : ∀ b o, H b = some o → upd H a (.tup [.str x, vr]) b = some o := fun b o e => by rw [upd_ne (ne_of_none e ha)]; exact e
                    have I1 := I.grow g1
                    have rk := key_new I.nB ha rr (x := x)
                    have k1 : Keep B H B (upd H a (.tup [.str x, vr])) := fun b o e n => ⟨g1 b o e, n⟩
                    have hs2 := sq_keep k1 hs1
                    obtain ⟨kvs, hf1, vf1, hl1⟩ := I1.hf
                    obtain ⟨key, ek, ka⟩ := keyOk_at (fr_key (x := x) hf) rk
                    refine ⟨_, rfl, pf, a, kvs, key, rfl, rfl, ⟨hf1, vf1.keys⟩, ka, _, rfl, ?_⟩
                    rw [if_pos rfl]
                    cases eat : atN kvs key with
                    | some v0 =>
                      refine ifF (by rfl) ?_
                      obtain ⟨u', d', n', c', rv, hu', he'⟩ := vf1.at eat ek
                      rw [eu] at hu'
                      cases hu'
                      have := evT_det ev he'
                      subst this
                      refine ⟨_, rfl, _, rfl, pt1, _, 1, _, rfl, rfl, hs2.q, rfl, _, rfl, two, fun a2 ha2 => ?_⟩
                      have g2 : ∀ b o, upd H a (.tup [.str x, vr]) b = some o → upd (upd H a (.tup [.str x, vr])) a2 (.tup [.str x, vr]) b = some o := fun b o e => by rw [upd_ne (ne_of_none e ha2)]; exact e
                      have I2 := I1.grow g2
                      have k2 : Keep B (upd H a (.tup [.str x, vr])) B (upd (upd H a (.tup [.str x, vr])) a2 (.tup [.str x, vr])) := fun b o e n => ⟨g2 b o e, n⟩
                      have rk2 := key_new I1.nB ha2 (RT.mono k1 _ _ rr) (x := x)
                      obtain ⟨key2, ek2, ka2⟩ := keyOk_at (fr_key (x := x) hf) rk2
                      rw [ek] at ek2
                      cases ek2
                      refine ⟨pf, a2, kvs, key, v0, rfl, rfl, ⟨g2 _ _ hf1, (vf1.mono k2).keys⟩, ka2, eat, ?_⟩
                      exact k _ _ (fun b o _ e => g2 b o (g1 b o e)) (I2.le (by omega)) (RT.mono k2 _ _ rv)
                    | none =>
                      refine ifT (by rfl) ?_
                      obtain ⟨vt, hvt, rvt⟩ := tv_at I1.tk I1.tr eu
                      refine ⟨_, rfl, _, rfl, pt1, _, 1, _, rfl, rfl, hs2.q, rfl, pt, vt, rfl, .inl ⟨tv, .inr x, .inl I1.ht, rfl, hvt.symm⟩, _, rfl, _, rfl, _, rfl, ?_⟩
                      refine spJ_term (E := E0) I1 rvt (RT.mono k1 _ _ rr) ev (by omega) fun v H2 g2 I2 rv => ?_
                      have k2 := I1.keep g2
                      have hs3 := sq_keep k2 hs2
                      refine ⟨_, rfl, _, rfl, pt1, _, 1, _, rfl, rfl, hs3.q, rfl, _, rfl, two, fun a3 ha3 => ?_⟩
                      have rr2 := RT.mono k2 _ _ (RT.mono k1 _ _ rr)
                      have g3 : ∀ b o, H2 b = some o → upd H2 a3 (.tup [.str x, vr]) b = some o := fun b o e => by rw [upd_ne (ne_of_none e ha3)]; exact e
                      have k3 : Keep B H2 B (upd H2 a3 (.tup [.str x, vr])) := fun b o e n => ⟨g3 b o e, n⟩
                      have I3 := I2.grow g3
                      have rk3 := key_new I2.nB ha3 rr2 (x := x)
                      have hs4 := sq_keep k3 hs3
                      generalize upd H2 a3 (.tup [.str x, vr]) = H3 at g3 k3 I3 rk3 hs4
                      obtain ⟨key3, ek3, ka3⟩ := keyOk_at (fr_key (x := x) hf) rk3
                      rw [ek] at ek3
                      cases ek3
                      obtain ⟨kvs3, hf3, vf3, hl3⟩ := I3.hf
                      refine ⟨pf, a3, kvs3, key, rfl, rfl, ⟨hf3, vf3.keys⟩, ka3, by rw [sizeLine_eq]; omega, ?_⟩
                      obtain ⟨I4, g4, vf4⟩ := I3.put hf ek rk3 (RT.mono k3 _ _ rv) eu ev hf3 vf3 hl3
                      have k4 := I3.keep g4
                      have hs5 := sq_keep k4 hs4
                      refine ⟨_, rfl, _, rfl, pt1, _, 1, _, rfl, rfl, hs5.q, rfl, _, rfl, two, fun a5 ha5 => ?_⟩
                      have g5 : ∀ b o, upd H3 pf (NkO P w pf (putN kvs3 key a3 v)) b = some o → upd (upd H3 pf (NkO P w pf (putN kvs3 key a3 v))) a5 (.tup [.str x, vr]) b = some o := fun b o e => by rw [upd_ne (ne_of_none e ha5)]; exact e
                      have k5 : Keep B (upd H3 pf (NkO P w pf (putN kvs3 key a3 v))) B (upd (upd H3 pf (NkO P w pf (putN kvs3 key a3 v))) a5 (.tup [.str x, vr])) := fun b o e n => ⟨g5 b o e, n⟩
                      have I5 := I4.grow g5
                      have rk5 := key_new I4.nB ha5 (RT.mono k4 _ _ (RT.mono k3 _ _ rr2)) (x := x)
                      obtain ⟨key5, ek5, ka5⟩ := keyOk_at (fr_key (x := x) hf) rk5
                      rw [ek] at ek5
                      cases ek5
                      refine ⟨pf, a5, _, key, v, rfl, rfl, ⟨g5 _ _ upd_same, (vf4.mono k5).keys⟩, ka5, atN_put, ?_⟩
                      exact k _ _ (fun b o n e => g5 b o (g4 b o n (g3 b o (g2 b o n (g1 b o e))))) (I5.le (by omega)) (RT.mono k5 _ _ (RT.mono k4 _ _ (RT.mono k3 _ _ rv)))
              · cases e
            · cases e
          rw [if_neg h3] at e
          refine ifF (decide_eq_false h3) ?_
          refine sort "of" (by decide +kernel) rfl hs1.q ⟨_, rfl, ?_⟩
          by_cases h4 : so = "of"
          · rw [if_pos h4] at e
            refine ifT (decide_eq_true h4) ?_
            split at e
            · rename_i a b
              cases rest1 with
              | cons ra rest2 =>
              cases rest2 with
              | cons rb rest3 =>
              cases rest3
              rename_i va vb
              cases ez : evT (opsL mA mM) TT n b r with
              | none => rw [ez] at e; cases e
              | some z =>
                rw [ez] at e
                dsimp only at e
                rw [Option.map_eq_some_iff] at e
                obtain ⟨y, ey, e2⟩ := e
                simp only [Prod.mk.injEq] at e2
                obtain ⟨rfl, rfl⟩ := e2
                refine ⟨_, rfl, pt1, _, 1, va, rfl, rfl, hs1.q, rfl, _, rfl, pt1, _, 2, vb, rfl, rfl, hs1.q, rfl, _, rfl, _, rfl, _, rfl, ?_⟩
                refine spJ_term (E := E0) I rb rr ez (by omega) fun v1 H1 g1 I1 rv1 => ?_
                have k1 := I.keep g1
                refine ⟨_, rfl, _, rfl, ?_⟩
                refine spJ_term (E := E0) I1 (RT.mono k1 _ _ ra) rv1 ey (by omega) fun v2 H2 g2 I2 rv2 => ?_
                exact k _ _ (g1.trans g2) (I2.le (by omega)) rv2
            · cases e
          rw [if_neg h4] at e
          refine ifF (decide_eq_false h4) ?_
          refine sort "again" (by decide +kernel) rfl hs1.q ⟨_, rfl, ?_⟩
          by_cases h5 : so = "again"
          · rw [if_pos h5] at e
            refine ifT (decide_eq_true h5) ?_
            split at e
            · rename_i a kn
              cases rest1 with
              | cons ra rest2 =>
              cases rest2 with
              | cons rk rest3 =>
              cases rest3
              cases rk
              rename_i va
              split at e
              · rename_i hk
                refine ⟨_, rfl, pt1, _, 2, .int kn, rfl, rfl, hs1.q, rfl, kn, rfl, by omega, by omega, ?_⟩
                refine for_range (fun i σ H' => ∃ (rc : PyData) (vx : V) (v3 : Option V) (ci : Nat), Gro pf H H' ∧ VlJ K P w (opsL mA mM) TT B pt pf tv (N + ci) H' ∧ RT K B H' vx rc ∧ evIt (evT (opsL mA mM) TT n a) (kn.toNat - i) rc ci = some (d, c) ∧ σ = [some (.ref pt1), some vx, some (.ref pt), some (.ref pf), v3, none, none, none])
                  ⟨r, vr, none, 0, fun b o n e => e, I, rr, e, rfl⟩ ?_ ?_
                · rintro i σ H' hi ⟨rc, vx, v3, ci, g', I', ra', e', rfl⟩
                  obtain ⟨j, hj⟩ : ∃ j, kn.toNat - i = j + 1 := ⟨kn.toNat - i - 1, by omega⟩
                  rw [hj, evIt] at e'
                  cases ez : evT (opsL mA mM) TT n a rc with
                  | none => rw [ez] at e'; cases e'
                  | some z =>
                    rw [ez] at e'
                    have ge := evIt_ge _ _ _ _ e'
                    have k' := I.keep g'
                    refine ⟨_, rfl, pt1, _, 1, va, rfl, rfl, (sq_keep k' hs1).q, rfl, _, rfl, _, rfl, _, rfl, ?_⟩
                    refine spJ_term (E := E0) I' (RT.mono k' _ _ ra) ra' ez (by omega) fun v1 H1 g1 I1 rv1 => ?_
                    refine ⟨z.1, v1, _, ci + z.2, g'.trans g1, by rw [← Nat.add_assoc]; exact I1, rv1, ?_, rfl⟩
                    rw [show kn.toNat - (i + 1) = j by omega]
                    exact e'
                · rintro σ H' ⟨rc, vx, v3, ci, g', I', ra', e', rfl⟩
                  have z0 : kn.toNat - (kn - 0).toNat = 0 := by omega
                  first | rw [z0, evIt] at e' | (rw [Nat.sub_self, evIt] at e')
                  cases e'
                  exact ⟨_, rfl, k _ _ g' I' ra'⟩
              · cases e
            · cases e
          rw [if_neg h5] at e
          refine ifF (decide_eq_false h5) ?_
          unfold evB at e
          by_cases hp1 : so = "power"
          · rw [if_pos hp1] at e
            split at e
            · rename_i a kn
              have rest1' := rest1
              cases rest1 with
              | cons ra rest2 =>
              cases rest2 with
              | cons rk rest3 =>
              cases rest3
              cases rk
              rename_i va
              split at e
              · rename_i hk
                dsimp only at e
                cases ez : evT (opsL mA mM) TT n a r with
                | none => rw [ez] at e; cases e
                | some z =>
                  rw [ez] at e
                  simp only [Option.map_eq_some_iff, Prod.mk.injEq] at e
                  obtain ⟨y, ey, rfl, rfl⟩ := e
                  have cz : cst [z] = z.2 := by simp [cst]
                  refine comp_read (ts := [a]) (rs := [z]) I hs1 ha1' rr (by rw [hp1]; exact hI1 a kn) rfl (fun i t z' h1 h2 => ?_) (by rw [cz]; exact hN) (by simp) fun H2 D zs g2 I2 hD rz => ?_
                  · cases i with
                    | zero => simp at h1 h2; rw [← h1, ← h2]; exact ez
                    | succ i => simp at h1
                  rw [cz] at I2
                  have k2 := I.keep g2
                  have hs2 := sq_keep k2 hs1
                  cases rz with
                  | cons rv1 rz2 =>
                  cases rz2
                  rename_i v1
                  refine sort "power" (by decide +kernel) rfl hs2.q ⟨_, rfl, ?_⟩
                  refine ifT (decide_eq_true hp1) ?_
                  refine ⟨two, fun a1 ha1 => ?_⟩
                  have h3 : ∀ b o, H2 b = some o → upd H2 a1 (.tup [.int 1, .int 1]) b = some o := fun b o e => by rw [upd_ne (ne_of_none e ha1)]; exact e
                  have I3 := I2.grow h3
                  have k3 : Keep B H2 B (upd H2 a1 (.tup [.int 1, .int 1])) := fun b o e n => ⟨h3 b o e, n⟩
                  have r1 : RT K B (upd H2 a1 (.tup [.int 1, .int 1])) (.ref a1) oneD := .tup (.inl ⟨.inl upd_same, fun z => (I2.nB _ z).1 ha1⟩) (.cons (.int _) (.cons (.int _) .nil))
                  have hs3 := sq_keep k3 hs2
                  refine ⟨_, rfl, pt1, _, 2, .int kn, rfl, rfl, hs3.q, rfl, kn, rfl, ?_⟩
                  refine ⟨by omega, by omega, ?_⟩
                  refine for_range (fun i σ H' => ∃ (acc : PyData) (vx : V) (v5 : Option V), (∀ b o, H2 b = some o → H' b = some o) ∧ VlJ K P w (opsL mA mM) TT B pt pf tv (N + z.2) H' ∧ RT K B H' vx acc ∧ RT K B H' v1 z.1 ∧ evP (opsL mA mM).M z.1 (kn.toNat - i) acc = some y ∧ σ = [some (.ref pt1), some vr, some (.ref pt), some (.ref pf), v5, some (.ref D), some vx, none])
                    ⟨oneD, .ref a1, none, h3, I3, r1, RT.mono k3 _ _ rv1, ey, rfl⟩ ?_ ?_
                  · rintro i σ H' hi ⟨acc, vx, v5, g', I', ra', rv', e', rfl⟩
                    obtain ⟨j, hj⟩ : ∃ j, kn.toNat - i = j + 1 := ⟨kn.toNat - i - 1, by omega⟩
                    rw [hj, evP] at e'
                    cases eb : (opsL mA mM).M acc z.1 with
                    | none => rw [eb] at e'; cases e'
                    | some b =>
                      rw [eb] at e'
                      refine ⟨_, rfl, _, rfl, D, _, 0, v1, rfl, rfl, .inl (.inl (g' _ _ hD)), rfl, ?_⟩
                      refine spP_twoJ (E := E0) I' ra' rv' eb fun v H'' g'' I'' rv'' => ?_
                      have k'' : Keep B H' B H'' := fun b o e n => ⟨g'' b o e, n⟩
                      refine ⟨b, v, _, fun b o e => g'' b o (g' b o e), I'', rv'', RT.mono k'' _ _ rv', ?_, rfl⟩
                      rw [show kn.toNat - (i + 1) = j by omega]
                      exact e'
                  · rintro σ H' ⟨acc, vx, v5, g', I', ra', rv', e', rfl⟩
                    have z0 : kn.toNat - (kn - 0).toNat = 0 := by omega
                    first | rw [z0, evP] at e' | (rw [Nat.sub_self, evP] at e')
                    cases e'
                    exact ⟨_, rfl, k _ _ (fun b o n e => g' b o (g2 b o n e)) I' ra'⟩
              · cases e
            · cases e
          rw [if_neg hp1] at e
          split at e
          · rename_i a b
            have rest1' := rest1
            cases rest1 with
            | cons ra rest2 =>
            cases rest2 with
            | cons rb rest3 =>
            cases rest3
            rename_i va vb
            dsimp only at e
            cases ez : evT (opsL mA mM) TT n a r with
            | none => rw [ez] at e; cases e
            | some z =>
              rw [ez] at e
              dsimp only at e
              cases ey : evT (opsL mA mM) TT n b r with
              | none => rw [ey] at e; cases e
              | some y =>
                rw [ey] at e
                dsimp only at e
                rw [Option.map_eq_some_iff] at e
                obtain ⟨x, ex, e2⟩ := e
                simp only [Prod.mk.injEq] at e2
                obtain ⟨rfl, rfl⟩ := e2
                have hs3 : so = "plus" ∨ so = "minus" ∨ so = "times" := by
                  by_cases q1 : so = "plus"
                  · exact .inl q1
                  rw [if_neg q1] at ex
                  by_cases q2 : so = "minus"
                  · exact .inr (.inl q2)
                  rw [if_neg q2] at ex
                  by_cases q3 : so = "times"
                  · exact .inr (.inr q3)
                  rw [if_neg q3] at ex
                  cases ex
                have cz : cst [z, y] = z.2 + y.2 := by simp [cst]
                refine comp_read (ts := [a, b]) (rs := [z, y]) I hs1 ha1' rr (hI2 so a b hs3) rfl (fun i t z' h1 h2 => ?_) (by rw [cz]; exact hN) (by simp) fun H2 D zs g2 I2 hD rz => ?_
                · cases i with
                  | zero => simp at h1 h2; rw [← h1, ← h2]; exact ez
                  | succ i =>
                    cases i with
                    | zero => simp at h1 h2; rw [← h1, ← h2]; exact ey
                    | succ i => simp at h1
                rw [cz] at I2
                have k2 := I.keep g2
                have hs2 := sq_keep k2 hs1
                cases rz with
                | cons rv1 rz2 =>
                cases rz2 with
                | cons rv2 rz3 =>
                cases rz3
                rename_i v1 v2
                have fin : ∀ (v : V) (H' : Hp), (∀ b o, H2 b = some o → H' b = some o) → VlJ K P w (opsL mA mM) TT B pt pf tv (N + (z.2 + y.2)) H' → RT K B H' v x → Q v H' := fun v H' g' I' rv' => k v H' (fun b o n e => g' b o (g2 b o n e)) I' rv'
                refine sort "power" (by decide +kernel) rfl hs2.q ⟨_, rfl, ?_⟩
                refine ifF (decide_eq_false hp1) ?_
                refine sort "times" (by decide +kernel) rfl hs2.q ⟨_, rfl, ?_⟩
                by_cases hp4 : so = "times"
                · refine ifT (decide_eq_true hp4) ?_
                  rw [if_neg (by rw [hp4]; decide +kernel), if_neg (by rw [hp4]; decide +kernel), if_pos hp4] at ex
                  refine ⟨_, rfl, D, _, 0, v1, rfl, rfl, .inl (.inl hD), rfl, _, rfl, D, _, 1, v2, rfl, rfl, .inl (.inl hD), rfl, ?_⟩
                  exact spP_twoJ (E := E0) I2 rv1 rv2 ex fin
                refine ifF (decide_eq_false hp4) ?_
                obtain ⟨a0, b0, ey1, hlg, ex2⟩ : ∃ a0 b0 : Int, y.1 = .tuple [.int a0, .int b0] ∧ a0.natAbs.log2 < 999000 ∧ okD (mA [z.1, .tuple [.int (a0 * (if decide (so = "plus") = true then 1 else 0 - 1)), .int b0]]) = some x := by
                  by_cases q1 : so = "plus"
                  · rw [if_pos q1] at ex
                    rw [if_pos (decide_eq_true q1)]
                    simp only [opsL] at ex
                    split at ex
                    · rename_i a0 b0 e3
                      split at ex
                      · rename_i hl
                        exact ⟨a0, b0, e3, hl, ex⟩
                      · cases ex
                    · cases ex
                  · rw [if_neg q1] at ex
                    have q2 : so = "minus" := by
                      rcases hs3 with q | q | q
                      · exact absurd q q1
                      · exact q
                      · exact absurd q hp4
                    rw [if_pos q2] at ex
                    rw [if_neg (by rw [decide_eq_false q1]; decide)]
                    simp only [opsL] at ex
                    split at ex
                    · rename_i a0 b0 e3
                      split at ex
                      · rename_i hl
                        exact ⟨a0, b0, e3, hl, ex⟩
                      · cases ex
                    · cases ex
                dsimp only at rv1 rv2
                rw [ey1] at rv2
                cases rv2 with
                | @tup ay xsy _ hsy hay =>
                cases hay with
                | cons i1 i2 =>
                cases i2 with
                | cons i2 i3 =>
                cases i3
                cases i1
                cases i2
                refine ⟨_, rfl, D, _, 0, v1, rfl, rfl, .inl (.inl hD), rfl, _, rfl, D, _, 1, _, rfl, rfl, .inl (.inl hD), rfl, ay, _, 0, _, rfl, rfl, hsy.q, rfl, ?_⟩
                refine ⟨0, 1, rfl, rfl, two, fun l hl => ?_⟩
                have g3 : ∀ b o, H2 b = some o → upd H2 l (.lst [.int (0 - 1), .int 1]) b = some o := fun b o e => by rw [upd_ne (ne_of_none e hl)]; exact e
                have I3 := I2.grow g3
                have k3 : Keep B H2 B (upd H2 l (.lst [.int (0 - 1), .int 1])) := fun b o e n => ⟨g3 b o e, n⟩
                have hs4 := sq_keep k3 hs2
                have hsy3 := sq_keep k3 hsy
                refine sort "plus" (by decide +kernel) rfl hs4.q (.inr ⟨_, rfl, ?_⟩)
                refine ⟨l, _, _, .int (if decide (so = "plus") = true then 1 else 0 - 1), rfl, rfl, .inl (.inl upd_same), ?_, ?_⟩
                · by_cases q1 : so = "plus"
                  · simp only [decide_eq_true q1, if_true]
                    decide
                  · simp only [decide_eq_false q1]
                    decide
                refine ⟨a0, _, rfl, rfl, ?_, ?_⟩
                · have : (if decide (so = "plus") = true then (1 : Int) else 0 - 1).natAbs.log2 = 0 := by
                    by_cases q1 : so = "plus"
                    · rw [if_pos (decide_eq_true q1)]; rfl
                    · rw [if_neg (by rw [decide_eq_false q1]; decide)]; rfl
                  unfold CMulW
                  rw [this]
                  omega
                refine ⟨_, rfl, D, _, 1, _, rfl, rfl, .inl (.inl (g3 _ _ hD)), rfl, ay, _, 1, _, rfl, rfl, hsy3.q, rfl, two, fun l2 hl2 => ?_⟩
                have g4 : ∀ b o, upd H2 l (.lst [.int (0 - 1), .int 1]) b = some o → upd (upd H2 l (.lst [.int (0 - 1), .int 1])) l2 (.tup [.int (a0 * (if decide (so = "plus") = true then 1 else 0 - 1)), .int b0]) b = some o := fun b o e => by rw [upd_ne (ne_of_none e hl2)]; exact e
                have k4 : Keep B (upd H2 l (.lst [.int (0 - 1), .int 1])) B (upd (upd H2 l (.lst [.int (0 - 1), .int 1])) l2 (.tup [.int (a0 * (if decide (so = "plus") = true then 1 else 0 - 1)), .int b0])) := fun b o e n => ⟨g4 b o e, n⟩
                have I4 := I3.grow g4
                refine spP_twoJ (E := E0) I4 (RT.mono k4 _ _ (RT.mono k3 _ _ rv1)) (.tup (.inl ⟨.inl upd_same, fun z => (I3.nB _ z).1 hl2⟩) (.cons (.int _) (.cons (.int _) .nil))) ex2 fun v H' g' I' rv' => ?_
                exact fin v H' (fun b o e => g' b o (g4 b o (g3 b o e))) I' rv'
          · cases e
        · cases e
      · cases e
theorem k_vat0 {kk kA kM kI : Nat} {mA mM mI : List PyData → Rp} (z_range : mg "range" = none) (z_int : mg "int" = none)
    (CA : Cal P w K mg base kA "_law_added" ["_law_one", "_law_other"] (spP K 2 mA)) (CM : Cal P w K mg base kM "_law_product" ["_law_one", "_law_other"] (spP K 2 mM)) (CI : Cal P w K mg base kI "_law_inner" ["_law_term_here"] (spP K 1 mI)) (hA : kA ≤ kk) (hM : kM ≤ kk) (hI : kI ≤ kk)
    (hI1 : ∀ (a : PyData) (k : Int), okD (mI [.tuple [.str "power", a, .int k]]) = some (.list [a])) (hI2 : ∀ (s : Str) (a b : PyData), (s = "plus" ∨ s = "minus" ∨ s = "times") → okD (mI [.tuple [.str s, a, b]]) = some (.list [a, b]))
    (D : DefIn K mg "_law_valued_at" s_vat PL) (n : Nat) : Cal P w K mg base (kk + n) "_law_valued_at" PL (spJ K P w (opsL mA mM) n) := by
  obtain ⟨f, fd, F, hm, hb⟩ := D.ex
  exact ⟨f, fd, okJ z_range z_int CA CM CI hA hM hI hI1 hI2 F hm hb n, hm, F.kp, hb⟩
end
theorem in_1 (a : PyData) (k : Int) : okD (m_L_inner [.tuple [.str "power", a, .int k]]) = some (.list [a]) := by unfold m_L_inner; rfl
theorem in_2 (s : Str) (a b : PyData) (h : s = "plus" ∨ s = "minus" ∨ s = "times") : okD (m_L_inner [.tuple [.str s, a, b]]) = some (.list [a, b]) := by rcases h with rfl | rfl | rfl <;> unfold m_L_inner <;> rfl
theorem k_L_valued_at {P : Program} {w : World} {K : PySem.W.Frag} {mg : Str → Option Value} {base : Heap} (hNT : base.NoSeer ∧ P.given.tree = none) (z_int : mg "int" = none) (z_range : mg "range" = none) (k_L_inner : Cal P w K mg base 33 "_law_inner" [("_law_term_here" : Str)] (spP K 1 m_L_inner)) (k_L_added : Cal P w K mg base 35 "_law_added" [("_law_one" : Str), ("_law_other" : Str)] (spP K 2 m_L_added)) (k_L_product : Cal P w K mg base 35 "_law_product" [("_law_one" : Str), ("_law_other" : Str)] (spP K 2 m_L_product)) (D : DefIn K mg "_law_valued_at" s_vat [("_law_term_here" : Str), ("_law_r" : Str), ("_law_rows" : Str), ("_law_kept" : Str)]) (n : Nat) : Cal P w K mg base (36 + n) "_law_valued_at" [("_law_term_here" : Str), ("_law_r" : Str), ("_law_rows" : Str), ("_law_kept" : Str)] (spJ K P w (opsL m_L_added m_L_product) n) :=
  k_vat0 z_range z_int k_L_added k_L_product k_L_inner (by decide) (by decide) (by decide) in_1 in_2 D n
abbrev s_L_valued : Stmt := topS 32
section
variable {P : Program} {w : World} {K : PySem.W.Frag} {mg : Str → Option Value} {base : Heap} {F : Ops}
abbrev s_lval : Stmt := topS 32
theorem sc_lval : FnScope ["_law_rows", "_law_r"] ["_law_rows", "_law_r"] (defScope s_lval) := ⟨rfl, rfl, rfl, by decide +kernel, rfl, by decide +kernel, by decide +kernel⟩
def spVal2 (K : PySem.W.Frag) (g : List PyData → PyData → EvR) : Sp := fun vs H Q _ => ∃ (B : Addr → Prop) (a : Addr) (o : Obj) (xs : List V) (ds : List PyData) (vr : V) (r d : PyData) (c : Nat), vs = [.ref a, vr] ∧ NoTup H B ∧ H a = some (.frz o (.tup xs)) ∧ o.dict = none ∧ RTs K B H xs ds ∧ RT K B H vr r ∧ g ds r = some (d, c) ∧ c ≤ 1000000 ∧ ∀ v H', (∀ b o, H b = some o → H' b = some o) → RT K B H' v d → Q v H'
theorem k_lval0 {F : Ops} {n kk : Nat} (z_dict : mg "dict" = none) (CJ : Cal P w K mg base kk "_law_valued_at" PL (spJ K P w F n)) (D : DefIn K mg "_law_valued" s_lval ["_law_rows", "_law_r"]) : Cal P w K mg base (kk + 1) "_law_valued" ["_law_rows", "_law_r"] (spVal2 K (gAllL F n)) := by
  obtain ⟨fJ, fdJ, GJ, mJ, kJ, bJ⟩ := CJ.ex
  obtain ⟨f, fd, Fn, hm, hb⟩ := D.ex
  refine ⟨f, fd, ?_, hm, Fn.kp, hb⟩
  refine Fn.ok sc_lval (fun vs H Q E h => ?_) (fun cdv A outer s H vs Q E hr h => ?_)
  · obtain ⟨B, a, o, xs, ds, vr, r, d, c, rfl, _⟩ := h
    rfl
  · obtain ⟨B, a, o, xs, ds, vr, r, d, c, rfl, hB, ha, ho, rx, rr, e, hc, k⟩ := h
    refine ⟨_, pss_one (ps_ret (pe_call GJ hr (by rfl) mJ kJ bJ .nil pass0 (pa_cons (pe_ix ix_tup (pe_ix ix_tup (pv 0) (q_neg 1).pe (fun _ _ => rfl)) pe_int (fun _ _ => rfl)) (pa_cons (pv 1) (pa_cons (pe_callTy (call_dictT (by rfl)) (by rfl) z_dict (by decide +kernel) (pa_cons (pv 0) pa_nil) (by decide) (by decide) rfl rfl) (pa_cons pe_nnew pa_nil)))))), ?_⟩
    unfold gAllL at e
    split at e
    · rename_i TT x t hT hl
      split at e
      · rename_i hnd
        obtain ⟨ps, kvs, rfl, h3, h4, h5⟩ := pairsT_r rx hT
        obtain ⟨y, hy⟩ : ∃ y, (ps.map V.ref)[(ps.map V.ref).length - 1]? = some y ∧ RT K B H y (.tuple [.str x, t]) := by
          have l1 : ds.length = (ps.map V.ref).length := rx.len.symm
          rw [List.getLast?_eq_getElem?, l1] at hl
          obtain ⟨y, e1, e2⟩ := RTs.get rx hl
          exact ⟨y, e1, e2⟩
        obtain ⟨hy, ry⟩ := hy
        cases ry with
        | @tup ay ys _ hsy hay =>
        cases hay with
        | cons hs0 hay2 =>
        cases hay2 with
        | cons rt0 hay3 =>
        cases hay3
        cases hs0
        rename_i vt
        refine ⟨_, rfl, 1, rfl, a, _, _, _, rfl, rfl, .inl (.inr ⟨o, ha⟩), atL hy, ay, _, 1, vt, rfl, rfl, hsy.q, rfl, _, rfl, _, rfl, a, o, ps, kvs, rfl, ha, ho, Paired.mapP h3 (fun q kv z => z.q), fun pt hpt => ?_⟩
        intro pf hpf
        have nk : ((([] : List (Key × V)) ++ kvs).map (·.1)).Nodup := by
          rw [List.nil_append, h4]
          have : (TT.map fun e => (Sum.inr e.1 : Key)) = (TT.map (·.1)).map Sum.inr := by rw [List.map_map]; rfl
          rw [this]
          exact List.Pairwise.map (S := fun a b : Key => a ≠ b) Sum.inr (fun a b h z => h (Sum.inr.inj z)) hnd
        rw [mergeK_nodup kvs [] nk, List.nil_append] at hpf ⊢
        have npf : H pf = none := by
          cases z : H pf with
          | none => rfl
          | some u => rw [upd_ne (ne_of_none z hpt), z] at hpf; cases hpf
        have ptf : pt ≠ pf := fun z => by rw [← z, upd_same] at hpf; cases hpf
        have g2 : ∀ b o, H b = some o → upd (upd H pt (.dK kvs)) pf (NkO P w pf []) b = some o := fun b o e => by rw [upd_ne (ne_of_none e npf), upd_ne (ne_of_none e hpt)]; exact e
        obtain ⟨H2, hH2⟩ : ∃ H2, H2 = upd (upd H pt (.dK kvs)) pf (NkO P w pf []) := ⟨_, rfl⟩
        rw [← hH2] at g2
        have hf2 : H2 pf = some (NkO P w pf []) := by rw [hH2]; exact upd_same
        have ht2 : H2 pt = some (.dK kvs) := by rw [hH2, upd_ne ptf]; exact upd_same
        have k2 : Keep B H (fun b => B b ∨ b = pf) H2 := fun b o e n => ⟨g2 b o e, fun z => z.elim n fun z => by rw [z, npf] at e; cases e⟩
        have nB2 : NoTup H2 (fun b => B b ∨ b = pf) := fun b hb => by
          rcases hb with hb | rfl
          · exact (nt_growV hB g2) b hb
          · refine ⟨by rw [hf2]; simp, fun vs z => ?_⟩
            rcases z with z | ⟨u, z⟩ <;> rw [hf2] at z <;> cases z
        have I2 : VlJ K P w F TT (fun b => B b ∨ b = pf) pt pf kvs 0 H2 := ⟨ht2, h4, RTs.mono k2 _ _ h5, ⟨[], hf2, (fun kv hk => nomatch hk), Nat.zero_le _⟩, nB2, .inr rfl⟩
        subst hH2
        refine spJ_term (E := E0) (z := (d, c)) I2 (RT.mono k2 _ _ rt0) (RT.mono k2 _ _ rr) e (by omega) fun v H' g' I' rv => ?_
        exact k v H' (fun b o e => g' b o (fun z => by rw [z, npf] at e; cases e) (g2 b o e)) (RT.weak (fun a h => .inl h) _ _ rv)
      · cases e
    · cases e
end
theorem k_L_valued {P : Program} {w : World} {K : PySem.W.Frag} {mg : Str → Option Value} {base : Heap} (hNT : base.NoSeer ∧ P.given.tree = none) (z_dict : mg "dict" = none) (k_L_valued_at : Cal P w K mg base 81 "_law_valued_at" [("_law_term_here" : Str), ("_law_r" : Str), ("_law_rows" : Str), ("_law_kept" : Str)] (spJ K P w (opsL m_L_added m_L_product) 45)) (D : DefIn K mg "_law_valued" s_lval [("_law_rows" : Str), ("_law_r" : Str)]) : Cal P w K mg base 82 "_law_valued" [("_law_rows" : Str), ("_law_r" : Str)] (spVal2 K (gAllL (opsL m_L_added m_L_product) 45)) :=
  k_lval0 z_dict k_L_valued_at D
abbrev s_L_place : Stmt := topS 33
theorem sc_L_place : FnScope [("_law_flow_here" : Str)] [("_law_flow_here" : Str)] (defScope s_L_place) := ⟨rfl, rfl, rfl, by decide +kernel, rfl, by decide +kernel, by decide +kernel⟩
theorem k_L_place {P : Program} {w : World} {K : PySem.W.Frag} {mg : Str → Option Value} {base : Heap} (hNT : base.NoSeer ∧ P.given.tree = none) (k_L_any_fraction : Cal P w K mg base 35 "_law_any_fraction" [("_law_flow_here" : Str), ("_law_most" : Str)] (spF K 2 m_L_any_fraction)) (k_L_pick : Cal P w K mg base 33 "_law_pick" [("_law_flow_here" : Str), ("_law_many" : Str)] (spF K 2 m_L_pick)) (D : DefIn K mg "_law_place" s_L_place [("_law_flow_here" : Str)]) : Cal P w K mg base 36 "_law_place" [("_law_flow_here" : Str)] (spF K 1 m_L_place) := by
  unfold m_L_place
  exact calF D sc_L_place (by decide) (fun f cdv A outer s H E hr => ⟨_, ((qss_one (qs_ret (q_calF k_L_any_fraction hr (by decide) (qa_cons (q_var 0) (qa_cons (q_ix (q_frz (qn_disp (qa_cons q_int (qa_cons q_int (qa_cons q_int qa_nil))))) (q_calF k_L_pick hr (by decide) (qa_cons (q_var 0) (qa_cons q_int qa_nil)))) qa_nil))))))⟩)
abbrev s_law : Stmt := topS 34
theorem sc_law : FnScope [("_law_script" : Str), ("_law_flow_here" : Str), ("_law_one" : Str), ("_law_other" : Str), ("_law_places" : Str), ("_law_rows" : Str), ("_law_r" : Str)] [("_law_script" : Str)] (defScope s_law) := ⟨rfl, rfl, rfl, by decide +kernel, rfl, by decide +kernel, by decide +kernel⟩
section
variable {P : Program} {w : World} {K : PySem.W.Frag} {mg : Str → Option Value} {base : Heap} {F : Ops}
def Lkd (K : PySem.W.Frag) (B : Addr → Prop) (H : Hp) (v : V) (xs : List PyData) : Prop := ∃ a o vs, v = .ref a ∧ H a = some (.frz o (.tup vs)) ∧ o.dict = none ∧ RTs K B H vs xs
theorem Lkd.grow {B : Addr → Prop} {H H' : Hp} {v : V} {xs : List PyData} (h : Lkd K B H v xs) (g : ∀ b o, H b = some o → H' b = some o) : Lkd K B H' v xs := by
  obtain ⟨a, o, vs, h1, h2, h3, h4⟩ := h
  exact ⟨a, o, vs, h1, g _ _ h2, h3, RTs.mono (fun b o e n => ⟨g b o e, n⟩) _ _ h4⟩
theorem ok_law0 {f : Addr} {fd : FuncData} {kk kF kR kP kL kV kW n n' : Nat} {mR mP : List PyData → Fl → Rf} {mL : List PyData → Rp} {F F' : Ops}
    (CF : Cal P w K mg base kF "_law_flow" ["_law_script"] (spFl K)) (CR : Cal P w K mg base kR "_law_reckoning" ["_law_flow_here", "_law_most"] (spFL K 2 mR)) (CP : Cal P w K mg base kP "_law_place" ["_law_flow_here"] (spF K 1 mP)) (CL : Cal P w K mg base kL "_law_alike" ["_law_found", "_law_due"] (spP K 2 mL))
    (CV : Cal P w K mg base kV "valued" ["reckoning", "r"] (spVal K F n)) (CW : Cal P w K mg base kW "_law_valued" ["_law_rows", "_law_r"] (spVal2 K (gAllL F' n')))
    (hF : kF ≤ kk) (hR : kR ≤ kk) (hP : kP ≤ kk) (hL : kL ≤ kk) (hV : kV ≤ kk) (hW : kW ≤ kk) (Fn : Fun K "law" "law" s_law f fd)
    (hsem : ∀ ns : List Int, ns.length ≤ 63 → Hs18 mR mP mL (gAll F n) (gAllL F' n') ns) : FnOk P w K mg base CX0 (kk + 1) f fd ["_law_script"] (spLaw K) := by
  obtain ⟨gF, dF, FF, eF, qF, bF⟩ := CF.ex
  obtain ⟨gR, dR, FR, eR, qR, bR⟩ := CR.ex
  obtain ⟨gP, dP, FP, eP, qP, bP⟩ := CP.ex
  obtain ⟨gL, dL, FL, eL, qL, bL⟩ := CL.ex
  obtain ⟨gV, dV, FV, eV, qV, bV⟩ := CV.ex
  obtain ⟨gW, dW, FW, eW, qW, bW⟩ := CW.ex
  refine Fn.ok sc_law (fun vs H Q E h => ?_) (fun cdv A outer s H vs Q E hr h => ?_)
  · obtain ⟨a, ns, rfl, _⟩ := h
    rfl
  · obtain ⟨a, ns, rfl, hS, hl, q⟩ := h
    obtain ⟨xs1, xs2, p1, p2, f1, f2, f3, f4, b1, b2, e1, e2, e3, e4, hall⟩ := hsem ns hl
    refine ⟨_, pss_cons (ps_set (i := 1) sc_law.nd rfl (.inl rfl) (pe_call FF (hr.mono hF) (by rfl) eF qF bF .nil pass0 (pa_cons (pv 0) pa_nil)))
      (pss_cons (ps_set (i := 2) sc_law.nd rfl (.inl rfl) (pe_call FR (hr.mono hR) (by rfl) eR qR bR .nil pass0 (pa_cons (pv 1) (pa_cons pe_int pa_nil))))
      (pss_cons (ps_set (i := 3) sc_law.nd rfl (.inl rfl) (pe_call FR (hr.mono hR) (by rfl) eR qR bR .nil pass0 (pa_cons (pv 1) (pa_cons pe_int pa_nil))))
      (pss_cons (ps_set (i := 4) sc_law.nd rfl (.inl rfl) (pe_lst (pa_cons (pe_call FP (hr.mono hP) (by rfl) eP qP bP .nil pass0 (pa_cons (pv 1) pa_nil)) (pa_cons (pe_call FP (hr.mono hP) (by rfl) eP qP bP .nil pass0 (pa_cons (pv 1) pa_nil)) (pa_cons (pe_tup (pa_cons pe_int (pa_cons pe_int pa_nil))) (pa_cons (pe_tup (pa_cons pe_int (pa_cons pe_int pa_nil))) pa_nil))))))
      (pss_cons (ps_for PassesOwn.never rfl (pi_tup (pe_tup (pa_cons (pv 2) (pa_cons (pv 3) (pa_cons (pv 2) pa_nil))))) (pg_name (i := 5) sc_law.nd rfl (.inl rfl))
        (pss_one (ps_for PassesOwn.never rfl (pi_list ((q_addA (q_var 4) (q_slA (q_var 4) qo_none (qo_some q_int))).pe)) (pg_name (i := 6) sc_law.nd rfl (.inl rfl))
          (pss_one (ps_if (pt_not (pt_truth (pe_call FL (hr.mono hL) (by rfl) eL qL bL .nil pass0 (pa_cons (pe_call FV (hr.mono hV) (by rfl) eV qV bV .nil pass0 (pa_cons (pv 5) (pa_cons (pv 6) pa_nil))) (pa_cons (pe_call FW (hr.mono hW) (by rfl) eW qW bW .nil pass0 (pa_cons (pv 5) (pa_cons (pv 6) pa_nil))) pa_nil))) (by intro _; rfl))) (pss_one (ps_ret pe_bl)) pss_nil)))))
      (pss_one (ps_ret pe_bl)))))), ?_⟩
    refine ⟨_, rfl, a, ns, rfl, hS, fun H1 fa fb g1 nfa nfb hfa hfb => ?_⟩
    have hfb1 : H1 fb = some (.lst ((fl0 ns).cells.map V.int)) := hfb
    refine ⟨_, rfl, fa, fb, fun _ => False, fl0 ns, _, [.int 6], xs1, f1, rfl, (fun p h => h.elim), (fun h => h), hfa, hfb1, nfb, (fun h => h), .cons (.int 6) .nil, rfl, e1, fun a1 o1 vs1 H2 g2 hfa2 hc2 na1 ha1 ho1 r1 => ?_⟩
    have hfb2 : H2 fb = some (.lst (f1.cells.map V.int)) := by rw [hc2]; exact g2 _ _ hfb1 nfb
    refine ⟨_, rfl, fa, fb, fun _ => False, f1, _, [.int 6], xs2, f2, rfl, (fun p h => h.elim), (fun h => h), hfa2, hfb2, nfb, (fun h => h), .cons (.int 6) .nil, rfl, e2, fun a2 o2 vs2 H3 g3 hfa3 hc3 na2 ha2 ho2 r2 => ?_⟩
    have hfb3 : H3 fb = some (.lst (f2.cells.map V.int)) := by rw [hc3]; exact g3 _ _ hfb2 nfb
    have keep : ∀ {H H' : Hp}, (∀ b o, H b = some o → b ≠ fa → H' b = some o) → Keep (fun p => False ∨ p = fa) H (fun p => False ∨ p = fa) H' := fun g b o e n => ⟨g b o e fun z => n (.inr z), n⟩
    refine ⟨_, rfl, fa, fb, fun _ => False, f2, _, [], p1, b1, f3, rfl, (fun p h => h.elim), (fun h => h), hfa3, hfb3, nfb, (fun h => h), .nil, rfl, e3, fun v1 H4 g4 hfa4 hc4 rv1 _ => ?_⟩
    have hfb4 : H4 fb = some (.lst (f3.cells.map V.int)) := by rw [hc4]; exact g4 _ _ hfb3 nfb
    refine ⟨_, rfl, fa, fb, fun _ => False, f3, _, [], p2, b2, f4, rfl, (fun p h => h.elim), (fun h => h), hfa4, hfb4, nfb, (fun h => h), .nil, rfl, e4, fun v2 H5 g5 hfa5 hc5 rv2 _ => ?_⟩
    refine ⟨two, fun t1 ht1 => ⟨two, fun t2 ht2 => ⟨by rw [sizeLine_eq]; exact (by decide : 4 ≤ 16777216), fun pl hpl => ?_⟩⟩⟩
    have ne1 : a1 ≠ fa := fun z => by rw [z, hfa] at na1; cases na1
    have ne2 : a2 ≠ fa := fun z => by rw [z, hfa2] at na2; cases na2
    obtain ⟨B, hB⟩ : ∃ B : Addr → Prop, B = fun p => False ∨ p = fa := ⟨_, rfl⟩
    have nB5 : NoTup H5 B := by
      rw [hB]
      rintro p (h | rfl)
      · exact h.elim
      · refine ⟨by rw [hfa5]; simp, fun vs z => ?_⟩
        rcases z with z | ⟨u, z⟩ <;> rw [hfa5] at z <;> cases z
    have L1 : Lkd K B H5 (.ref a1) xs1 := ⟨a1, o1, vs1, rfl, g5 _ _ (g4 _ _ (g3 _ _ ha1 ne1) ne1) ne1, ho1, by rw [hB]; exact RTs.mono (keep g5) _ _ (RTs.mono (keep g4) _ _ (RTs.mono (keep g3) _ _ r1))⟩
    have L2 : Lkd K B H5 (.ref a2) xs2 := ⟨a2, o2, vs2, rfl, g5 _ _ (g4 _ _ ha2 ne2) ne2, ho2, by rw [hB]; exact RTs.mono (keep g5) _ _ (RTs.mono (keep g4) _ _ r2)⟩
    have R1 : RT K B H5 v1 p1 := by rw [hB]; exact RT.mono (keep g5) _ _ rv1
    have R2 : RT K B H5 v2 p2 := by rw [hB]; exact rv2
    clear rv1 rv2 r1 r2 hB keep
    have g6 : ∀ b o, H5 b = some o → upd H5 t1 (.tup [.int 0, .int 1]) b = some o := fun b o e => by rw [upd_ne (ne_of_none e ht1)]; exact e
    have nB6 := nt_growV nB5 g6
    have R3 : RT K B (upd H5 t1 (.tup [.int 0, .int 1])) (.ref t1) (.tuple [.int 0, .int 1]) := .tup (.inl ⟨.inl upd_same, fun z => (nB5 _ z).1 ht1⟩) (.cons (.int _) (.cons (.int _) .nil))
    obtain ⟨H6, hH6⟩ : ∃ H6, H6 = upd H5 t1 (.tup [.int 0, .int 1]) := ⟨_, rfl⟩
    rw [← hH6] at g6 nB6 R3 ht2
    have g7 : ∀ b o, H6 b = some o → upd H6 t2 (.tup [.int 1, .int 1]) b = some o := fun b o e => by rw [upd_ne (ne_of_none e ht2)]; exact e
    have nB7 := nt_growV nB6 g7
    have R4 : RT K B (upd H6 t2 (.tup [.int 1, .int 1])) (.ref t2) (.tuple [.int 1, .int 1]) := .tup (.inl ⟨.inl upd_same, fun z => (nB6 _ z).1 ht2⟩) (.cons (.int _) (.cons (.int _) .nil))
    obtain ⟨H7, hH7⟩ : ∃ H7, H7 = upd H6 t2 (.tup [.int 1, .int 1]) := ⟨_, rfl⟩
    have hpl7 : H7 pl = none := by rw [hH7, hH6]; exact hpl
    rw [← hH7] at g7 nB7 R4
    have g8 : ∀ b o, H7 b = some o → upd H7 pl (.lst [v1, v2, .ref t1, .ref t2]) b = some o := fun b o e => by rw [upd_ne (ne_of_none e hpl7)]; exact e
    have nB8 := nt_growV nB7 g8
    have kG : ∀ {H H' : Hp}, (∀ b o, H b = some o → H' b = some o) → Keep B H B H' := fun g b o e n => ⟨g b o e, n⟩
    have RL : RT K B (upd H7 pl (.lst [v1, v2, .ref t1, .ref t2])) (.ref pl) (.list [p1, p2, .tuple [.int 0, .int 1], .tuple [.int 1, .int 1]]) := .lst ⟨upd_same, fun z => (nB7 _ z).1 hpl7⟩ (.cons (RT.mono (kG fun b o e => g8 b o (g7 b o (g6 b o e))) _ _ R1) (.cons (RT.mono (kG fun b o e => g8 b o (g7 b o (g6 b o e))) _ _ R2) (.cons (RT.mono (kG fun b o e => g8 b o (g7 b o e)) _ _ R3) (.cons (RT.mono (kG g8) _ _ R4) .nil))))
    have L1 := L1.grow (fun b o e => g8 b o (g7 b o (g6 b o e)))
    have L2 := L2.grow (fun b o e => g8 b o (g7 b o (g6 b o e)))
    subst hH7
    subst hH6
    generalize (upd (upd (upd H5 t1 (.tup [.int 0, .int 1])) t2 (.tup [.int 1, .int 1])) pl (.lst [v1, v2, .ref t1, .ref t2])) = H8 at L1 L2 RL nB8
    clear R1 R2 R3 R4 g8 g7 g6
    refine ⟨_, rfl, _, rfl, _, rfl, (by rw [sizeLine_eq]; exact (by decide : 3 ≤ 16777216)), fun tp htp => ?_⟩
    have g9 : ∀ b o, H8 b = some o → upd H8 tp (.tup [.ref a1, .ref a2, .ref a1]) b = some o := fun b o e => by rw [upd_ne (ne_of_none e htp)]; exact e
    refine ⟨tp, rfl, ⟨_, .inl (.inl upd_same)⟩, ?_⟩
    refine for_tup (xs := [.ref a1, .ref a2, .ref a1]) (fun i σ H' => ∃ v5 v6, (∀ b o, upd H8 tp (.tup [.ref a1, .ref a2, .ref a1]) b = some o → H' b = some o) ∧ σ = [some (.ref a), some (.ref fa), some (.ref a1), some (.ref a2), some (.ref pl), v5, v6])
      ⟨none, none, fun b o e => e, rfl⟩ ?_ ?_ ?_
    · rintro i σ H' hi ⟨v5, v6, g, rfl⟩
      exact .inl (.inl (g _ _ upd_same))
    · rintro i x σ H' hx ⟨v5, v6, g, rfl⟩
      have gg : ∀ b o, H8 b = some o → H' b = some o := fun b o e => g b o (g9 b o e)
      obtain ⟨xs, hxs, Lx⟩ : ∃ xs, (xs = xs1 ∨ xs = xs2) ∧ Lkd K B H' x xs := by
        match i, hx with
        | 0, hx => cases hx; exact ⟨xs1, .inl rfl, L1.grow gg⟩
        | 1, hx => cases hx; exact ⟨xs2, .inr rfl, L2.grow gg⟩
        | 2, hx => cases hx; exact ⟨xs1, .inl rfl, L1.grow gg⟩
        | i + 3, hx => simp at hx
      have RL' := RT.mono (kG gg) _ _ RL
      have nB' := nt_growV nB8 gg
      refine rd_E (te := tOp (rAddA K) (tVar 4) (tSl (rSlAny K) (tVar 4) tNoPart (tPart (tC (.int 1))))) (σ := [some (.ref a), some (.ref fa), some (.ref a1), some (.ref a2), some (.ref pl), some x, v6]) (H := H') (m := eOp fAddA (eVar 4) (eSlAny (eVar 4) oNone (oSome (eC (.int 1))))) (st' := ⟨none, []⟩) (x := .list [p1, p2, .tuple [.int 0, .int 1], .tuple [.int 1, .int 1], p1]) (l := [none, none, none, none, some (.d (.list [p1, p2, .tuple [.int 0, .int 1], .tuple [.int 1, .int 1]])), none, none]) (fun G hG => by
        have z : SimE G (tOp (rAddA G.K) (tVar 4) (tSl (rSlAny G.K) (tVar 4) tNoPart (tPart (tC (.int 1))))) (eOp fAddA (eVar 4) (eSlAny (eVar 4) oNone (oSome (eC (.int 1))))) := s_op r_addA (s_var 4) (s_slAny (s_var 4) s_oNone (s_oSome (s_int 1)))
        rw [hG] at z
        exact z) nB' rfl ?_ ?_ fun vl H9 g10 rvl => ?_
      · intro i u e
        match i, e with
        | 4, e => cases e; exact ⟨_, _, rfl, rfl, RL'⟩
        | 0, e => cases e
        | 1, e => cases e
        | 2, e => cases e
        | 3, e => cases e
        | 5, e => cases e
        | 6, e => cases e
        | i + 7, e => simp at e
      · rfl
      · cases rvl with
        | @lst al ws _ hsl hal =>
        have gl : ∀ b o, upd H8 tp (.tup [.ref a1, .ref a2, .ref a1]) b = some o → H9 b = some o := fun b o e => g10 b o (g b o e)
        refine ⟨al, rfl, ⟨_, hsl.q⟩, ?_⟩
        refine for_list (xs := ws) (fun i σ H' => ∃ v6, (∀ b o, H9 b = some o → H' b = some o) ∧ σ = [some (.ref a), some (.ref fa), some (.ref a1), some (.ref a2), some (.ref pl), some x, v6])
          ⟨v6, fun b o e => e, rfl⟩ ?_ ?_ ?_
        · rintro i σ H' hi ⟨v6, g, rfl⟩
          exact .inl (.inl (g _ _ hsl.1))
        · rintro j y σ H' hy ⟨v6, g11, rfl⟩
          have hr2 : ∃ r, (r = p1 ∨ r = p2 ∨ r = .tuple [.int 0, .int 1] ∨ r = .tuple [.int 1, .int 1]) ∧ RT K B H' y r := by
            have hj : j < [p1, p2, .tuple [.int 0, .int 1], .tuple [.int 1, .int 1], p1].length := by
              rw [← hal.len]
              exact (List.getElem?_eq_some_iff.mp hy).1
            obtain ⟨v, h1, h2⟩ := hal.get (List.getElem?_eq_getElem hj)
            rw [hy] at h1
            cases h1
            have h3 := RT.mono (kG g11) _ _ h2
            refine ⟨_, ?_, h3⟩
            match j, hj with
            | 0, _ => exact .inl rfl
            | 1, _ => exact .inr (.inl rfl)
            | 2, _ => exact .inr (.inr (.inl rfl))
            | 3, _ => exact .inr (.inr (.inr rfl))
            | 4, _ => exact .inl rfl
          obtain ⟨r, hr2, Ry⟩ := hr2
          obtain ⟨d, c, c', q1, q2, q3, q4, q5⟩ := hall xs hxs r hr2
          obtain ⟨ax, ox, wx, rfl, hx1, hx2, hx3⟩ := Lx.grow (fun b o e => g11 b o (g10 b o e))
          have nB'' := nt_growV nB' (fun b o e => g11 b o (g10 b o e))
          refine ⟨_, rfl, _, rfl, B, ax, ox, wx, xs, y, r, d, c, rfl, nB'', hx1, hx2, hx3, Ry, q1, q2, fun vd H10 g12 rd => ?_⟩
          refine ⟨_, rfl, _, rfl, B, ax, ox, wx, xs, y, r, d, c', rfl, nt_growV nB'' g12, g12 _ _ hx1, hx2, RTs.mono (kG g12) _ _ hx3, RT.mono (kG g12) _ _ Ry, q3, q4, fun vd' H11 g13 rd' => ?_⟩
          obtain ⟨fr, q6⟩ := okD_some q5
          refine ⟨B, [d, d], .bool true, fr, nt_growV nB'' (fun b o e => g13 b o (g12 b o e)), .cons (RT.mono (kG g13) _ _ rd) (.cons rd' .nil), rfl, q6, fun vb H12 g14 rb _ => ?_⟩
          cases rb
          refine ⟨true, rfl, ?_⟩
          refine ifF rfl ?_
          exact ⟨_, fun b o e => g14 b o (g13 b o (g12 b o (g11 b o e))), rfl⟩
        · rintro σ H' ⟨v6, g12, rfl⟩
          exact ⟨_, _, fun b o e => g12 b o (gl b o e), rfl⟩
    · rintro σ H' ⟨v5, v6, g, rfl⟩
      exact q H'
end
theorem ok_law {P : Program} {w : World} {K : PySem.W.Frag} {mg : Str → Option Value} {base : Heap} (hNT : base.NoSeer ∧ P.given.tree = none) {f : Addr} {fd : FuncData} (k_L_alike : Cal P w K mg base 41 "_law_alike" [("_law_found" : Str), ("_law_due" : Str)] (spP K 2 (m_L_alike 8))) (k_L_valued : Cal P w K mg base 82 "_law_valued" [("_law_rows" : Str), ("_law_r" : Str)] (spVal2 K (gAllL (opsL m_L_added m_L_product) 45))) (k_valued : Cal P w K mg base 127 "valued" [("reckoning" : Str), ("r" : Str)] (spVal K (opsP m_added m_taken m_multiplied) 45)) (k_L_place : Cal P w K mg base 36 "_law_place" [("_law_flow_here" : Str)] (spF K 1 m_L_place)) (k_L_reckoning : Cal P w K mg base 47 "_law_reckoning" [("_law_flow_here" : Str), ("_law_most" : Str)] (spFL K 2 m_L_reckoningl)) (k_L_flow : Cal P w K mg base 33 "_law_flow" ["_law_script"] (spFl K)) (D : Fun K "law" "law" s_law f fd) (hsem : ∀ ns : List Int, ns.length ≤ 63 → NW.Hs18 m_L_reckoningl m_L_place (m_L_alike 8) (gAll (opsP m_added m_taken m_multiplied) 45) (gAllL (opsL m_L_added m_L_product) 45) ns) : FnOk P w K mg base CX0 128 f fd ["_law_script"] (spLaw K) :=
  ok_law0 (kk := 127) k_L_flow k_L_reckoning k_L_place k_L_alike k_valued k_L_valued (by decide) (by decide) (by decide) (by decide) (by decide) (by decide) D hsem
theorem all_mk {l : PySem.W.OpenLaw} {w : World} {K1 K : PySem.W.Frag} {h : Heap} {mg : Str → Option Value} {fa : Addr} (M : More K1 K) (X : K.In h) (G : h.Ns mainGlobals mg) (hT : l.prog.given.tree = none) (hfa : mg "law" = some (.ref fa)) (hsem : ∀ ns : List Int, ns.length ≤ 63 → NW.Hs18 m_L_reckoningl m_L_place (m_L_alike 8) (gAll (opsP m_added m_taken m_multiplied) 45) (gAllL (opsL m_L_added m_L_product) 45) ns)
    {f_common_part : Addr} {oc_common_part kV_common_part dc_common_part pm_common_part cd_common_part ct_common_part : Value} {od_common_part an_common_part : Option Addr} {sl_common_part : Array (Option Value)}
    (a_common_part : PySem.W.nsIn K1 mainGlobals "common_part" = some (some (.ref f_common_part))) (l_common_part : K1.lookup f_common_part = some ⟨oc_common_part, od_common_part, .func (PySem.W.fnOf "common_part" "common_part" (defArgs s_common_part) (defBody s_common_part) (defScope s_common_part) .none kV_common_part dc_common_part pm_common_part an_common_part cd_common_part ct_common_part), sl_common_part⟩) (c_common_part : PySem.W.codeIn K1 cd_common_part "common_part" = true)
    {f_fraction : Addr} {oc_fraction kV_fraction dc_fraction pm_fraction cd_fraction ct_fraction : Value} {od_fraction an_fraction : Option Addr} {sl_fraction : Array (Option Value)}
    (a_fraction : PySem.W.nsIn K1 mainGlobals "fraction" = some (some (.ref f_fraction))) (l_fraction : K1.lookup f_fraction = some ⟨oc_fraction, od_fraction, .func (PySem.W.fnOf "fraction" "fraction" (defArgs s_fraction) (defBody s_fraction) (defScope s_fraction) .none kV_fraction dc_fraction pm_fraction an_fraction cd_fraction ct_fraction), sl_fraction⟩) (c_fraction : PySem.W.codeIn K1 cd_fraction "fraction" = true)
    {f_added : Addr} {oc_added kV_added dc_added pm_added cd_added ct_added : Value} {od_added an_added : Option Addr} {sl_added : Array (Option Value)}
    (a_added : PySem.W.nsIn K1 mainGlobals "added" = some (some (.ref f_added))) (l_added : K1.lookup f_added = some ⟨oc_added, od_added, .func (PySem.W.fnOf "added" "added" (defArgs s_added) (defBody s_added) (defScope s_added) .none kV_added dc_added pm_added an_added cd_added ct_added), sl_added⟩) (c_added : PySem.W.codeIn K1 cd_added "added" = true)
    {f_taken : Addr} {oc_taken kV_taken dc_taken pm_taken cd_taken ct_taken : Value} {od_taken an_taken : Option Addr} {sl_taken : Array (Option Value)}
    (a_taken : PySem.W.nsIn K1 mainGlobals "taken" = some (some (.ref f_taken))) (l_taken : K1.lookup f_taken = some ⟨oc_taken, od_taken, .func (PySem.W.fnOf "taken" "taken" (defArgs s_taken) (defBody s_taken) (defScope s_taken) .none kV_taken dc_taken pm_taken an_taken cd_taken ct_taken), sl_taken⟩) (c_taken : PySem.W.codeIn K1 cd_taken "taken" = true)
    {f_multiplied : Addr} {oc_multiplied kV_multiplied dc_multiplied pm_multiplied cd_multiplied ct_multiplied : Value} {od_multiplied an_multiplied : Option Addr} {sl_multiplied : Array (Option Value)}
    (a_multiplied : PySem.W.nsIn K1 mainGlobals "multiplied" = some (some (.ref f_multiplied))) (l_multiplied : K1.lookup f_multiplied = some ⟨oc_multiplied, od_multiplied, .func (PySem.W.fnOf "multiplied" "multiplied" (defArgs s_multiplied) (defBody s_multiplied) (defScope s_multiplied) .none kV_multiplied dc_multiplied pm_multiplied an_multiplied cd_multiplied ct_multiplied), sl_multiplied⟩) (c_multiplied : PySem.W.codeIn K1 cd_multiplied "multiplied" = true)
    {f_valued : Addr} {oc_valued kV_valued dc_valued pm_valued cd_valued ct_valued : Value} {od_valued an_valued : Option Addr} {sl_valued : Array (Option Value)}
    (a_valued : PySem.W.nsIn K1 mainGlobals "valued" = some (some (.ref f_valued))) (l_valued : K1.lookup f_valued = some ⟨oc_valued, od_valued, .func (PySem.W.fnOf "valued" "valued" (defArgs s_valued) (defBody s_valued) (defScope s_valued) .none kV_valued dc_valued pm_valued an_valued cd_valued ct_valued), sl_valued⟩) (c_valued : PySem.W.codeIn K1 cd_valued "valued" = true)
    {f_L_flow : Addr} {oc_L_flow kV_L_flow dc_L_flow pm_L_flow cd_L_flow ct_L_flow : Value} {od_L_flow an_L_flow : Option Addr} {sl_L_flow : Array (Option Value)}
    (a_L_flow : PySem.W.nsIn K1 mainGlobals "_law_flow" = some (some (.ref f_L_flow))) (l_L_flow : K1.lookup f_L_flow = some ⟨oc_L_flow, od_L_flow, .func (PySem.W.fnOf "_law_flow" "_law_flow" (defArgs s_L_flow) (defBody s_L_flow) (defScope s_L_flow) .none kV_L_flow dc_L_flow pm_L_flow an_L_flow cd_L_flow ct_L_flow), sl_L_flow⟩) (c_L_flow : PySem.W.codeIn K1 cd_L_flow "_law_flow" = true)
    {f_L_pick : Addr} {oc_L_pick kV_L_pick dc_L_pick pm_L_pick cd_L_pick ct_L_pick : Value} {od_L_pick an_L_pick : Option Addr} {sl_L_pick : Array (Option Value)}
    (a_L_pick : PySem.W.nsIn K1 mainGlobals "_law_pick" = some (some (.ref f_L_pick))) (l_L_pick : K1.lookup f_L_pick = some ⟨oc_L_pick, od_L_pick, .func (PySem.W.fnOf "_law_pick" "_law_pick" (defArgs s_L_pick) (defBody s_L_pick) (defScope s_L_pick) .none kV_L_pick dc_L_pick pm_L_pick an_L_pick cd_L_pick ct_L_pick), sl_L_pick⟩) (c_L_pick : PySem.W.codeIn K1 cd_L_pick "_law_pick" = true)
    {f_L_alike : Addr} {oc_L_alike kV_L_alike dc_L_alike pm_L_alike cd_L_alike ct_L_alike : Value} {od_L_alike an_L_alike : Option Addr} {sl_L_alike : Array (Option Value)}
    (a_L_alike : PySem.W.nsIn K1 mainGlobals "_law_alike" = some (some (.ref f_L_alike))) (l_L_alike : K1.lookup f_L_alike = some ⟨oc_L_alike, od_L_alike, .func (PySem.W.fnOf "_law_alike" "_law_alike" (defArgs s_L_alike) (defBody s_L_alike) (defScope s_L_alike) .none kV_L_alike dc_L_alike pm_L_alike an_L_alike cd_L_alike ct_L_alike), sl_L_alike⟩) (c_L_alike : PySem.W.codeIn K1 cd_L_alike "_law_alike" = true)
    {f_L_common : Addr} {oc_L_common kV_L_common dc_L_common pm_L_common cd_L_common ct_L_common : Value} {od_L_common an_L_common : Option Addr} {sl_L_common : Array (Option Value)}
    (a_L_common : PySem.W.nsIn K1 mainGlobals "_law_common" = some (some (.ref f_L_common))) (l_L_common : K1.lookup f_L_common = some ⟨oc_L_common, od_L_common, .func (PySem.W.fnOf "_law_common" "_law_common" (defArgs s_L_common) (defBody s_L_common) (defScope s_L_common) .none kV_L_common dc_L_common pm_L_common an_L_common cd_L_common ct_L_common), sl_L_common⟩) (c_L_common : PySem.W.codeIn K1 cd_L_common "_law_common" = true)
    {f_L_fraction : Addr} {oc_L_fraction kV_L_fraction dc_L_fraction pm_L_fraction cd_L_fraction ct_L_fraction : Value} {od_L_fraction an_L_fraction : Option Addr} {sl_L_fraction : Array (Option Value)}
    (a_L_fraction : PySem.W.nsIn K1 mainGlobals "_law_fraction" = some (some (.ref f_L_fraction))) (l_L_fraction : K1.lookup f_L_fraction = some ⟨oc_L_fraction, od_L_fraction, .func (PySem.W.fnOf "_law_fraction" "_law_fraction" (defArgs s_L_fraction) (defBody s_L_fraction) (defScope s_L_fraction) .none kV_L_fraction dc_L_fraction pm_L_fraction an_L_fraction cd_L_fraction ct_L_fraction), sl_L_fraction⟩) (c_L_fraction : PySem.W.codeIn K1 cd_L_fraction "_law_fraction" = true)
    {f_L_added : Addr} {oc_L_added kV_L_added dc_L_added pm_L_added cd_L_added ct_L_added : Value} {od_L_added an_L_added : Option Addr} {sl_L_added : Array (Option Value)}
    (a_L_added : PySem.W.nsIn K1 mainGlobals "_law_added" = some (some (.ref f_L_added))) (l_L_added : K1.lookup f_L_added = some ⟨oc_L_added, od_L_added, .func (PySem.W.fnOf "_law_added" "_law_added" (defArgs s_L_added) (defBody s_L_added) (defScope s_L_added) .none kV_L_added dc_L_added pm_L_added an_L_added cd_L_added ct_L_added), sl_L_added⟩) (c_L_added : PySem.W.codeIn K1 cd_L_added "_law_added" = true)
    {f_L_product : Addr} {oc_L_product kV_L_product dc_L_product pm_L_product cd_L_product ct_L_product : Value} {od_L_product an_L_product : Option Addr} {sl_L_product : Array (Option Value)}
    (a_L_product : PySem.W.nsIn K1 mainGlobals "_law_product" = some (some (.ref f_L_product))) (l_L_product : K1.lookup f_L_product = some ⟨oc_L_product, od_L_product, .func (PySem.W.fnOf "_law_product" "_law_product" (defArgs s_L_product) (defBody s_L_product) (defScope s_L_product) .none kV_L_product dc_L_product pm_L_product an_L_product cd_L_product ct_L_product), sl_L_product⟩) (c_L_product : PySem.W.codeIn K1 cd_L_product "_law_product" = true)
    {f_L_number : Addr} {oc_L_number kV_L_number dc_L_number pm_L_number cd_L_number ct_L_number : Value} {od_L_number an_L_number : Option Addr} {sl_L_number : Array (Option Value)}
    (a_L_number : PySem.W.nsIn K1 mainGlobals "_law_number" = some (some (.ref f_L_number))) (l_L_number : K1.lookup f_L_number = some ⟨oc_L_number, od_L_number, .func (PySem.W.fnOf "_law_number" "_law_number" (defArgs s_L_number) (defBody s_L_number) (defScope s_L_number) .none kV_L_number dc_L_number pm_L_number an_L_number cd_L_number ct_L_number), sl_L_number⟩) (c_L_number : PySem.W.codeIn K1 cd_L_number "_law_number" = true)
    {f_L_any_fraction : Addr} {oc_L_any_fraction kV_L_any_fraction dc_L_any_fraction pm_L_any_fraction cd_L_any_fraction ct_L_any_fraction : Value} {od_L_any_fraction an_L_any_fraction : Option Addr} {sl_L_any_fraction : Array (Option Value)}
    (a_L_any_fraction : PySem.W.nsIn K1 mainGlobals "_law_any_fraction" = some (some (.ref f_L_any_fraction))) (l_L_any_fraction : K1.lookup f_L_any_fraction = some ⟨oc_L_any_fraction, od_L_any_fraction, .func (PySem.W.fnOf "_law_any_fraction" "_law_any_fraction" (defArgs s_L_any_fraction) (defBody s_L_any_fraction) (defScope s_L_any_fraction) .none kV_L_any_fraction dc_L_any_fraction pm_L_any_fraction an_L_any_fraction cd_L_any_fraction ct_L_any_fraction), sl_L_any_fraction⟩) (c_L_any_fraction : PySem.W.codeIn K1 cd_L_any_fraction "_law_any_fraction" = true)
    {f_L_word : Addr} {oc_L_word kV_L_word dc_L_word pm_L_word cd_L_word ct_L_word : Value} {od_L_word an_L_word : Option Addr} {sl_L_word : Array (Option Value)}
    (a_L_word : PySem.W.nsIn K1 mainGlobals "_law_word" = some (some (.ref f_L_word))) (l_L_word : K1.lookup f_L_word = some ⟨oc_L_word, od_L_word, .func (PySem.W.fnOf "_law_word" "_law_word" (defArgs s_L_word) (defBody s_L_word) (defScope s_L_word) .none kV_L_word dc_L_word pm_L_word an_L_word cd_L_word ct_L_word), sl_L_word⟩) (c_L_word : PySem.W.codeIn K1 cd_L_word "_law_word" = true)
    {f_L_words : Addr} {oc_L_words kV_L_words dc_L_words pm_L_words cd_L_words ct_L_words : Value} {od_L_words an_L_words : Option Addr} {sl_L_words : Array (Option Value)}
    (a_L_words : PySem.W.nsIn K1 mainGlobals "_law_words" = some (some (.ref f_L_words))) (l_L_words : K1.lookup f_L_words = some ⟨oc_L_words, od_L_words, .func (PySem.W.fnOf "_law_words" "_law_words" (defArgs s_L_words) (defBody s_L_words) (defScope s_L_words) .none kV_L_words dc_L_words pm_L_words an_L_words cd_L_words ct_L_words), sl_L_words⟩) (c_L_words : PySem.W.codeIn K1 cd_L_words "_law_words" = true)
    {f_L_leaf : Addr} {oc_L_leaf kV_L_leaf dc_L_leaf pm_L_leaf cd_L_leaf ct_L_leaf : Value} {od_L_leaf an_L_leaf : Option Addr} {sl_L_leaf : Array (Option Value)}
    (a_L_leaf : PySem.W.nsIn K1 mainGlobals "_law_leaf" = some (some (.ref f_L_leaf))) (l_L_leaf : K1.lookup f_L_leaf = some ⟨oc_L_leaf, od_L_leaf, .func (PySem.W.fnOf "_law_leaf" "_law_leaf" (defArgs s_L_leaf) (defBody s_L_leaf) (defScope s_L_leaf) .none kV_L_leaf dc_L_leaf pm_L_leaf an_L_leaf cd_L_leaf ct_L_leaf), sl_L_leaf⟩) (c_L_leaf : PySem.W.codeIn K1 cd_L_leaf "_law_leaf" = true)
    {f_L_term : Addr} {oc_L_term kV_L_term dc_L_term pm_L_term cd_L_term ct_L_term : Value} {od_L_term an_L_term : Option Addr} {sl_L_term : Array (Option Value)}
    (a_L_term : PySem.W.nsIn K1 mainGlobals "_law_term" = some (some (.ref f_L_term))) (l_L_term : K1.lookup f_L_term = some ⟨oc_L_term, od_L_term, .func (PySem.W.fnOf "_law_term" "_law_term" (defArgs s_L_term) (defBody s_L_term) (defScope s_L_term) .none kV_L_term dc_L_term pm_L_term an_L_term cd_L_term ct_L_term), sl_L_term⟩) (c_L_term : PySem.W.codeIn K1 cd_L_term "_law_term" = true)
    {f_L_inner : Addr} {oc_L_inner kV_L_inner dc_L_inner pm_L_inner cd_L_inner ct_L_inner : Value} {od_L_inner an_L_inner : Option Addr} {sl_L_inner : Array (Option Value)}
    (a_L_inner : PySem.W.nsIn K1 mainGlobals "_law_inner" = some (some (.ref f_L_inner))) (l_L_inner : K1.lookup f_L_inner = some ⟨oc_L_inner, od_L_inner, .func (PySem.W.fnOf "_law_inner" "_law_inner" (defArgs s_L_inner) (defBody s_L_inner) (defScope s_L_inner) .none kV_L_inner dc_L_inner pm_L_inner an_L_inner cd_L_inner ct_L_inner), sl_L_inner⟩) (c_L_inner : PySem.W.codeIn K1 cd_L_inner "_law_inner" = true)
    {f_L_parts : Addr} {oc_L_parts kV_L_parts dc_L_parts pm_L_parts cd_L_parts ct_L_parts : Value} {od_L_parts an_L_parts : Option Addr} {sl_L_parts : Array (Option Value)}
    (a_L_parts : PySem.W.nsIn K1 mainGlobals "_law_parts" = some (some (.ref f_L_parts))) (l_L_parts : K1.lookup f_L_parts = some ⟨oc_L_parts, od_L_parts, .func (PySem.W.fnOf "_law_parts" "_law_parts" (defArgs s_L_parts) (defBody s_L_parts) (defScope s_L_parts) .none kV_L_parts dc_L_parts pm_L_parts an_L_parts cd_L_parts ct_L_parts), sl_L_parts⟩) (c_L_parts : PySem.W.codeIn K1 cd_L_parts "_law_parts" = true)
    {f_L_multiplied : Addr} {oc_L_multiplied kV_L_multiplied dc_L_multiplied pm_L_multiplied cd_L_multiplied ct_L_multiplied : Value} {od_L_multiplied an_L_multiplied : Option Addr} {sl_L_multiplied : Array (Option Value)}
    (a_L_multiplied : PySem.W.nsIn K1 mainGlobals "_law_multiplied" = some (some (.ref f_L_multiplied))) (l_L_multiplied : K1.lookup f_L_multiplied = some ⟨oc_L_multiplied, od_L_multiplied, .func (PySem.W.fnOf "_law_multiplied" "_law_multiplied" (defArgs s_L_multiplied) (defBody s_L_multiplied) (defScope s_L_multiplied) .none kV_L_multiplied dc_L_multiplied pm_L_multiplied an_L_multiplied cd_L_multiplied ct_L_multiplied), sl_L_multiplied⟩) (c_L_multiplied : PySem.W.codeIn K1 cd_L_multiplied "_law_multiplied" = true)
    {f_L_reach : Addr} {oc_L_reach kV_L_reach dc_L_reach pm_L_reach cd_L_reach ct_L_reach : Value} {od_L_reach an_L_reach : Option Addr} {sl_L_reach : Array (Option Value)}
    (a_L_reach : PySem.W.nsIn K1 mainGlobals "_law_reach" = some (some (.ref f_L_reach))) (l_L_reach : K1.lookup f_L_reach = some ⟨oc_L_reach, od_L_reach, .func (PySem.W.fnOf "_law_reach" "_law_reach" (defArgs s_L_reach) (defBody s_L_reach) (defScope s_L_reach) .none kV_L_reach dc_L_reach pm_L_reach an_L_reach cd_L_reach ct_L_reach), sl_L_reach⟩) (c_L_reach : PySem.W.codeIn K1 cd_L_reach "_law_reach" = true)
    {f_L_asks : Addr} {oc_L_asks kV_L_asks dc_L_asks pm_L_asks cd_L_asks ct_L_asks : Value} {od_L_asks an_L_asks : Option Addr} {sl_L_asks : Array (Option Value)}
    (a_L_asks : PySem.W.nsIn K1 mainGlobals "_law_asks" = some (some (.ref f_L_asks))) (l_L_asks : K1.lookup f_L_asks = some ⟨oc_L_asks, od_L_asks, .func (PySem.W.fnOf "_law_asks" "_law_asks" (defArgs s_L_asks) (defBody s_L_asks) (defScope s_L_asks) .none kV_L_asks dc_L_asks pm_L_asks an_L_asks cd_L_asks ct_L_asks), sl_L_asks⟩) (c_L_asks : PySem.W.codeIn K1 cd_L_asks "_law_asks" = true)
    {f_L_heft : Addr} {oc_L_heft kV_L_heft dc_L_heft pm_L_heft cd_L_heft ct_L_heft : Value} {od_L_heft an_L_heft : Option Addr} {sl_L_heft : Array (Option Value)}
    (a_L_heft : PySem.W.nsIn K1 mainGlobals "_law_heft" = some (some (.ref f_L_heft))) (l_L_heft : K1.lookup f_L_heft = some ⟨oc_L_heft, od_L_heft, .func (PySem.W.fnOf "_law_heft" "_law_heft" (defArgs s_L_heft) (defBody s_L_heft) (defScope s_L_heft) .none kV_L_heft dc_L_heft pm_L_heft an_L_heft cd_L_heft ct_L_heft), sl_L_heft⟩) (c_L_heft : PySem.W.codeIn K1 cd_L_heft "_law_heft" = true)
    {f_L_is_light : Addr} {oc_L_is_light kV_L_is_light dc_L_is_light pm_L_is_light cd_L_is_light ct_L_is_light : Value} {od_L_is_light an_L_is_light : Option Addr} {sl_L_is_light : Array (Option Value)}
    (a_L_is_light : PySem.W.nsIn K1 mainGlobals "_law_is_light" = some (some (.ref f_L_is_light))) (l_L_is_light : K1.lookup f_L_is_light = some ⟨oc_L_is_light, od_L_is_light, .func (PySem.W.fnOf "_law_is_light" "_law_is_light" (defArgs s_L_is_light) (defBody s_L_is_light) (defScope s_L_is_light) .none kV_L_is_light dc_L_is_light pm_L_is_light an_L_is_light cd_L_is_light ct_L_is_light), sl_L_is_light⟩) (c_L_is_light : PySem.W.codeIn K1 cd_L_is_light "_law_is_light" = true)
    {f_L_reckoning : Addr} {oc_L_reckoning kV_L_reckoning dc_L_reckoning pm_L_reckoning cd_L_reckoning ct_L_reckoning : Value} {od_L_reckoning an_L_reckoning : Option Addr} {sl_L_reckoning : Array (Option Value)}
    (a_L_reckoning : PySem.W.nsIn K1 mainGlobals "_law_reckoning" = some (some (.ref f_L_reckoning))) (l_L_reckoning : K1.lookup f_L_reckoning = some ⟨oc_L_reckoning, od_L_reckoning, .func (PySem.W.fnOf "_law_reckoning" "_law_reckoning" (defArgs s_L_reckoning) (defBody s_L_reckoning) (defScope s_L_reckoning) .none kV_L_reckoning dc_L_reckoning pm_L_reckoning an_L_reckoning cd_L_reckoning ct_L_reckoning), sl_L_reckoning⟩) (c_L_reckoning : PySem.W.codeIn K1 cd_L_reckoning "_law_reckoning" = true)
    {f_L_valued_at : Addr} {oc_L_valued_at kV_L_valued_at dc_L_valued_at pm_L_valued_at cd_L_valued_at ct_L_valued_at : Value} {od_L_valued_at an_L_valued_at : Option Addr} {sl_L_valued_at : Array (Option Value)}
    (a_L_valued_at : PySem.W.nsIn K1 mainGlobals "_law_valued_at" = some (some (.ref f_L_valued_at))) (l_L_valued_at : K1.lookup f_L_valued_at = some ⟨oc_L_valued_at, od_L_valued_at, .func (PySem.W.fnOf "_law_valued_at" "_law_valued_at" (defArgs s_L_valued_at) (defBody s_L_valued_at) (defScope s_L_valued_at) .none kV_L_valued_at dc_L_valued_at pm_L_valued_at an_L_valued_at cd_L_valued_at ct_L_valued_at), sl_L_valued_at⟩) (c_L_valued_at : PySem.W.codeIn K1 cd_L_valued_at "_law_valued_at" = true)
    {f_L_valued : Addr} {oc_L_valued kV_L_valued dc_L_valued pm_L_valued cd_L_valued ct_L_valued : Value} {od_L_valued an_L_valued : Option Addr} {sl_L_valued : Array (Option Value)}
    (a_L_valued : PySem.W.nsIn K1 mainGlobals "_law_valued" = some (some (.ref f_L_valued))) (l_L_valued : K1.lookup f_L_valued = some ⟨oc_L_valued, od_L_valued, .func (PySem.W.fnOf "_law_valued" "_law_valued" (defArgs s_L_valued) (defBody s_L_valued) (defScope s_L_valued) .none kV_L_valued dc_L_valued pm_L_valued an_L_valued cd_L_valued ct_L_valued), sl_L_valued⟩) (c_L_valued : PySem.W.codeIn K1 cd_L_valued "_law_valued" = true)
    {f_L_place : Addr} {oc_L_place kV_L_place dc_L_place pm_L_place cd_L_place ct_L_place : Value} {od_L_place an_L_place : Option Addr} {sl_L_place : Array (Option Value)}
    (a_L_place : PySem.W.nsIn K1 mainGlobals "_law_place" = some (some (.ref f_L_place))) (l_L_place : K1.lookup f_L_place = some ⟨oc_L_place, od_L_place, .func (PySem.W.fnOf "_law_place" "_law_place" (defArgs s_L_place) (defBody s_L_place) (defScope s_L_place) .none kV_L_place dc_L_place pm_L_place an_L_place cd_L_place ct_L_place), sl_L_place⟩) (c_L_place : PySem.W.codeIn K1 cd_L_place "_law_place" = true)
    {f_law : Addr} {oc_law kV_law dc_law pm_law cd_law ct_law : Value} {od_law an_law : Option Addr} {sl_law : Array (Option Value)}
    (a_law : PySem.W.nsIn K1 mainGlobals "law" = some (some (.ref f_law))) (l_law : K1.lookup f_law = some ⟨oc_law, od_law, .func (PySem.W.fnOf "law" "law" (defArgs s_law) (defBody s_law) (defScope s_law) .none kV_law dc_law pm_law an_law cd_law ct_law), sl_law⟩) (c_law : PySem.W.codeIn K1 cd_law "law" = true)
    (b_abs : PySem.W.nsIn K1 mainGlobals "abs" = some none)
    (b_all : PySem.W.nsIn K1 mainGlobals "all" = some none)
    (b_bool : PySem.W.nsIn K1 mainGlobals "bool" = some none)
    (b_dict : PySem.W.nsIn K1 mainGlobals "dict" = some none)
    (b_enumerate : PySem.W.nsIn K1 mainGlobals "enumerate" = some none)
    (b_int : PySem.W.nsIn K1 mainGlobals "int" = some none)
    (b_isinstance : PySem.W.nsIn K1 mainGlobals "isinstance" = some none)
    (b_len : PySem.W.nsIn K1 mainGlobals "len" = some none)
    (b_list : PySem.W.nsIn K1 mainGlobals "list" = some none)
    (b_max : PySem.W.nsIn K1 mainGlobals "max" = some none)
    (b_range : PySem.W.nsIn K1 mainGlobals "range" = some none)
    (b_sum : PySem.W.nsIn K1 mainGlobals "sum" = some none)
    (b_tuple : PySem.W.nsIn K1 mainGlobals "tuple" = some none)
    {C_vl : Addr} (ac_vl : PySem.W.nsIn K1 mainGlobals "Valuing" = some (some (.ref C_vl))) (pg_vl : PySem.W.plainGet K1 C_vl Str.empty = true) (hd_vl : PySem.W.hasDictIn K1 C_vl = true) (po_vl : PySem.W.plainOver K1 C_vl = true) (sa_vl : PySem.W.findIn K1 (.ref C_vl) "__setattr__" = some (some (.builtin "object.__setattr__"))) (mk_vl : PySem.W.makesIn K1 C_vl = true) (kc_vl : PySem.W.keepIn K1 (.ref C_vl) = true)
    (nt_vl : PySem.W.findIn K1 (.ref C_vl) "terms" = some none) (nf_vl : PySem.W.findIn K1 (.ref C_vl) "found" = some none)
    {f_Vinit : Addr} {oc_Vinit kV_Vinit dc_Vinit pm_Vinit cd_Vinit ct_Vinit : Value} {od_Vinit an_Vinit : Option Addr} {sl_Vinit : Array (Option Value)}
    (a_Vinit : PySem.W.findIn K1 (.ref C_vl) "__init__" = some (some (.ref f_Vinit))) (i_Vinit : PySem.W.isFn K1 (.ref f_Vinit) = true) (l_Vinit : K1.lookup f_Vinit = some ⟨oc_Vinit, od_Vinit, .func (PySem.W.fnOf "__init__" "Valuing.__init__" (defArgs sV_init) (defBody sV_init) (defScope sV_init) .none kV_Vinit dc_Vinit pm_Vinit an_Vinit cd_Vinit ct_Vinit), sl_Vinit⟩) (c_Vinit : PySem.W.codeIn K1 cd_Vinit "Valuing.__init__" = true)
    {f_Vrow : Addr} {oc_Vrow kV_Vrow dc_Vrow pm_Vrow cd_Vrow ct_Vrow : Value} {od_Vrow an_Vrow : Option Addr} {sl_Vrow : Array (Option Value)}
    (a_Vrow : PySem.W.findIn K1 (.ref C_vl) "row_at" = some (some (.ref f_Vrow))) (i_Vrow : PySem.W.isFn K1 (.ref f_Vrow) = true) (l_Vrow : K1.lookup f_Vrow = some ⟨oc_Vrow, od_Vrow, .func (PySem.W.fnOf "row_at" "Valuing.row_at" (defArgs sV_row) (defBody sV_row) (defScope sV_row) .none kV_Vrow dc_Vrow pm_Vrow an_Vrow cd_Vrow ct_Vrow), sl_Vrow⟩) (c_Vrow : PySem.W.codeIn K1 cd_Vrow "Valuing.row_at" = true)
    {f_Vterm : Addr} {oc_Vterm kV_Vterm dc_Vterm pm_Vterm cd_Vterm ct_Vterm : Value} {od_Vterm an_Vterm : Option Addr} {sl_Vterm : Array (Option Value)}
    (a_Vterm : PySem.W.findIn K1 (.ref C_vl) "term_at" = some (some (.ref f_Vterm))) (i_Vterm : PySem.W.isFn K1 (.ref f_Vterm) = true) (l_Vterm : K1.lookup f_Vterm = some ⟨oc_Vterm, od_Vterm, .func (PySem.W.fnOf "term_at" "Valuing.term_at" (defArgs sV_term) (defBody sV_term) (defScope sV_term) .none kV_Vterm dc_Vterm pm_Vterm an_Vterm cd_Vterm ct_Vterm), sl_Vterm⟩) (c_Vterm : PySem.W.codeIn K1 cd_Vterm "Valuing.term_at" = true)
    {f_Vboth : Addr} {oc_Vboth kV_Vboth dc_Vboth pm_Vboth cd_Vboth ct_Vboth : Value} {od_Vboth an_Vboth : Option Addr} {sl_Vboth : Array (Option Value)}
    (a_Vboth : PySem.W.findIn K1 (.ref C_vl) "both" = some (some (.ref f_Vboth))) (i_Vboth : PySem.W.isFn K1 (.ref f_Vboth) = true) (l_Vboth : K1.lookup f_Vboth = some ⟨oc_Vboth, od_Vboth, .func (PySem.W.fnOf "both" "Valuing.both" (defArgs sV_both) (defBody sV_both) (defScope sV_both) .none kV_Vboth dc_Vboth pm_Vboth an_Vboth cd_Vboth ct_Vboth), sl_Vboth⟩) (c_Vboth : PySem.W.codeIn K1 cd_Vboth "Valuing.both" = true)
    : ∃ fd : FuncData, (∀ (s : Shared) (v : Value), BindsTo s fd ⟨[v], []⟩ [("_law_script", v)]) ∧ ∀ base : Heap, K.In base → base.Ns mainGlobals mg → base.NoSeer → FnOk l.prog w K mg base CX0 128 fa fd ["_law_script"] (spLaw K) := by
  have a_common_part := M.ns a_common_part; have l_common_part := M _ _ l_common_part; have c_common_part := M.code c_common_part; have q_common_part := keep_fn l_common_part
  have a_fraction := M.ns a_fraction; have l_fraction := M _ _ l_fraction; have c_fraction := M.code c_fraction; have q_fraction := keep_fn l_fraction
  have a_added := M.ns a_added; have l_added := M _ _ l_added; have c_added := M.code c_added; have q_added := keep_fn l_added
  have a_taken := M.ns a_taken; have l_taken := M _ _ l_taken; have c_taken := M.code c_taken; have q_taken := keep_fn l_taken
  have a_multiplied := M.ns a_multiplied; have l_multiplied := M _ _ l_multiplied; have c_multiplied := M.code c_multiplied; have q_multiplied := keep_fn l_multiplied
  have a_valued := M.ns a_valued; have l_valued := M _ _ l_valued; have c_valued := M.code c_valued; have q_valued := keep_fn l_valued
  have a_L_flow := M.ns a_L_flow; have l_L_flow := M _ _ l_L_flow; have c_L_flow := M.code c_L_flow; have q_L_flow := keep_fn l_L_flow
  have a_L_pick := M.ns a_L_pick; have l_L_pick := M _ _ l_L_pick; have c_L_pick := M.code c_L_pick; have q_L_pick := keep_fn l_L_pick
  have a_L_alike := M.ns a_L_alike; have l_L_alike := M _ _ l_L_alike; have c_L_alike := M.code c_L_alike; have q_L_alike := keep_fn l_L_alike
  have a_L_common := M.ns a_L_common; have l_L_common := M _ _ l_L_common; have c_L_common := M.code c_L_common; have q_L_common := keep_fn l_L_common
  have a_L_fraction := M.ns a_L_fraction; have l_L_fraction := M _ _ l_L_fraction; have c_L_fraction := M.code c_L_fraction; have q_L_fraction := keep_fn l_L_fraction
  have a_L_added := M.ns a_L_added; have l_L_added := M _ _ l_L_added; have c_L_added := M.code c_L_added; have q_L_added := keep_fn l_L_added
  have a_L_product := M.ns a_L_product; have l_L_product := M _ _ l_L_product; have c_L_product := M.code c_L_product; have q_L_product := keep_fn l_L_product
  have a_L_number := M.ns a_L_number; have l_L_number := M _ _ l_L_number; have c_L_number := M.code c_L_number; have q_L_number := keep_fn l_L_number
  have a_L_any_fraction := M.ns a_L_any_fraction; have l_L_any_fraction := M _ _ l_L_any_fraction; have c_L_any_fraction := M.code c_L_any_fraction; have q_L_any_fraction := keep_fn l_L_any_fraction
  have a_L_word := M.ns a_L_word; have l_L_word := M _ _ l_L_word; have c_L_word := M.code c_L_word; have q_L_word := keep_fn l_L_word
  have a_L_words := M.ns a_L_words; have l_L_words := M _ _ l_L_words; have c_L_words := M.code c_L_words; have q_L_words := keep_fn l_L_words
  have a_L_leaf := M.ns a_L_leaf; have l_L_leaf := M _ _ l_L_leaf; have c_L_leaf := M.code c_L_leaf; have q_L_leaf := keep_fn l_L_leaf
  have a_L_term := M.ns a_L_term; have l_L_term := M _ _ l_L_term; have c_L_term := M.code c_L_term; have q_L_term := keep_fn l_L_term
  have a_L_inner := M.ns a_L_inner; have l_L_inner := M _ _ l_L_inner; have c_L_inner := M.code c_L_inner; have q_L_inner := keep_fn l_L_inner
  have a_L_parts := M.ns a_L_parts; have l_L_parts := M _ _ l_L_parts; have c_L_parts := M.code c_L_parts; have q_L_parts := keep_fn l_L_parts
  have a_L_multiplied := M.ns a_L_multiplied; have l_L_multiplied := M _ _ l_L_multiplied; have c_L_multiplied := M.code c_L_multiplied; have q_L_multiplied := keep_fn l_L_multiplied
  have a_L_reach := M.ns a_L_reach; have l_L_reach := M _ _ l_L_reach; have c_L_reach := M.code c_L_reach; have q_L_reach := keep_fn l_L_reach
  have a_L_asks := M.ns a_L_asks; have l_L_asks := M _ _ l_L_asks; have c_L_asks := M.code c_L_asks; have q_L_asks := keep_fn l_L_asks
  have a_L_heft := M.ns a_L_heft; have l_L_heft := M _ _ l_L_heft; have c_L_heft := M.code c_L_heft; have q_L_heft := keep_fn l_L_heft
  have a_L_is_light := M.ns a_L_is_light; have l_L_is_light := M _ _ l_L_is_light; have c_L_is_light := M.code c_L_is_light; have q_L_is_light := keep_fn l_L_is_light
  have a_L_reckoning := M.ns a_L_reckoning; have l_L_reckoning := M _ _ l_L_reckoning; have c_L_reckoning := M.code c_L_reckoning; have q_L_reckoning := keep_fn l_L_reckoning
  have a_L_valued_at := M.ns a_L_valued_at; have l_L_valued_at := M _ _ l_L_valued_at; have c_L_valued_at := M.code c_L_valued_at; have q_L_valued_at := keep_fn l_L_valued_at
  have a_L_valued := M.ns a_L_valued; have l_L_valued := M _ _ l_L_valued; have c_L_valued := M.code c_L_valued; have q_L_valued := keep_fn l_L_valued
  have a_L_place := M.ns a_L_place; have l_L_place := M _ _ l_L_place; have c_L_place := M.code c_L_place; have q_L_place := keep_fn l_L_place
  have a_law := M.ns a_law; have l_law := M _ _ l_law; have c_law := M.code c_law; have q_law := keep_fn l_law
  have b_abs := M.ns b_abs
  have b_all := M.ns b_all
  have b_bool := M.ns b_bool
  have b_dict := M.ns b_dict
  have b_enumerate := M.ns b_enumerate
  have b_int := M.ns b_int
  have b_isinstance := M.ns b_isinstance
  have b_len := M.ns b_len
  have b_list := M.ns b_list
  have b_max := M.ns b_max
  have b_range := M.ns b_range
  have b_sum := M.ns b_sum
  have b_tuple := M.ns b_tuple
  have e := hfa.symm.trans (PySem.W.mg_of X G a_law)
  cases e
  have z_abs := PySem.W.mg_none_of X G b_abs
  have z_all := PySem.W.mg_none_of X G b_all
  have z_bool := PySem.W.mg_none_of X G b_bool
  have z_dict := PySem.W.mg_none_of X G b_dict
  have z_enumerate := PySem.W.mg_none_of X G b_enumerate
  have z_int := PySem.W.mg_none_of X G b_int
  have z_isinstance := PySem.W.mg_none_of X G b_isinstance
  have z_len := PySem.W.mg_none_of X G b_len
  have z_list := PySem.W.mg_none_of X G b_list
  have z_max := PySem.W.mg_none_of X G b_max
  have z_range := PySem.W.mg_none_of X G b_range
  have z_sum := PySem.W.mg_none_of X G b_sum
  have z_tuple := PySem.W.mg_none_of X G b_tuple
  have D_common_part : DefIn K mg "common_part" s_common_part [("one" : Str), ("other" : Str)] := defIn_mk X G a_common_part l_common_part c_common_part q_common_part fun _ _ _ _ _ _ us hl => match us, hl with | [_, _], _ => rfl
  have D_fraction : DefIn K mg "fraction" s_fraction [("top" : Str), ("bottom" : Str)] := defIn_mk X G a_fraction l_fraction c_fraction q_fraction fun _ _ _ _ _ _ us hl => match us, hl with | [_, _], _ => rfl
  have D_added : DefIn K mg "added" s_added [("one" : Str), ("other" : Str)] := defIn_mk X G a_added l_added c_added q_added fun _ _ _ _ _ _ us hl => match us, hl with | [_, _], _ => rfl
  have D_taken : DefIn K mg "taken" s_taken [("one" : Str), ("other" : Str)] := defIn_mk X G a_taken l_taken c_taken q_taken fun _ _ _ _ _ _ us hl => match us, hl with | [_, _], _ => rfl
  have D_multiplied : DefIn K mg "multiplied" s_multiplied [("one" : Str), ("other" : Str)] := defIn_mk X G a_multiplied l_multiplied c_multiplied q_multiplied fun _ _ _ _ _ _ us hl => match us, hl with | [_, _], _ => rfl
  have D_valued : DefIn K mg "valued" s_valued [("reckoning" : Str), ("r" : Str)] := defIn_mk X G a_valued l_valued c_valued q_valued fun _ _ _ _ _ _ us hl => match us, hl with | [_, _], _ => rfl
  have D_L_flow : DefIn K mg "_law_flow" s_L_flow [("_law_script" : Str)] := defIn_mk X G a_L_flow l_L_flow c_L_flow q_L_flow fun _ _ _ _ _ _ us hl => match us, hl with | [_], _ => rfl
  have D_L_pick : DefIn K mg "_law_pick" s_L_pick [("_law_flow_here" : Str), ("_law_many" : Str)] := defIn_mk X G a_L_pick l_L_pick c_L_pick q_L_pick fun _ _ _ _ _ _ us hl => match us, hl with | [_, _], _ => rfl
  have D_L_alike : DefIn K mg "_law_alike" s_L_alike [("_law_found" : Str), ("_law_due" : Str)] := defIn_mk X G a_L_alike l_L_alike c_L_alike q_L_alike fun _ _ _ _ _ _ us hl => match us, hl with | [_, _], _ => rfl
  have D_L_common : DefIn K mg "_law_common" s_L_common [("_law_a" : Str), ("_law_b" : Str)] := defIn_mk X G a_L_common l_L_common c_L_common q_L_common fun _ _ _ _ _ _ us hl => match us, hl with | [_, _], _ => rfl
  have D_L_fraction : DefIn K mg "_law_fraction" s_L_fraction [("_law_top" : Str), ("_law_bottom" : Str)] := defIn_mk X G a_L_fraction l_L_fraction c_L_fraction q_L_fraction fun _ _ _ _ _ _ us hl => match us, hl with | [_, _], _ => rfl
  have D_L_added : DefIn K mg "_law_added" s_L_added [("_law_one" : Str), ("_law_other" : Str)] := defIn_mk X G a_L_added l_L_added c_L_added q_L_added fun _ _ _ _ _ _ us hl => match us, hl with | [_, _], _ => rfl
  have D_L_product : DefIn K mg "_law_product" s_L_product [("_law_one" : Str), ("_law_other" : Str)] := defIn_mk X G a_L_product l_L_product c_L_product q_L_product fun _ _ _ _ _ _ us hl => match us, hl with | [_, _], _ => rfl
  have D_L_number : DefIn K mg "_law_number" s_L_number [("_law_flow_here" : Str), ("_law_most" : Str)] := defIn_mk X G a_L_number l_L_number c_L_number q_L_number fun _ _ _ _ _ _ us hl => match us, hl with | [_, _], _ => rfl
  have D_L_any_fraction : DefIn K mg "_law_any_fraction" s_L_any_fraction [("_law_flow_here" : Str), ("_law_most" : Str)] := defIn_mk X G a_L_any_fraction l_L_any_fraction c_L_any_fraction q_L_any_fraction fun _ _ _ _ _ _ us hl => match us, hl with | [_, _], _ => rfl
  have D_L_word : DefIn K mg "_law_word" s_L_word [("_law_flow_here" : Str)] := defIn_mk X G a_L_word l_L_word c_L_word q_L_word fun _ _ _ _ _ _ us hl => match us, hl with | [_], _ => rfl
  have D_L_words : DefIn K mg "_law_words" s_L_words [("_law_flow_here" : Str), ("_law_many" : Str)] := defIn_mk X G a_L_words l_L_words c_L_words q_L_words fun _ _ _ _ _ _ us hl => match us, hl with | [_, _], _ => rfl
  have D_L_leaf : DefIn K mg "_law_leaf" s_L_leaf [("_law_flow_here" : Str), ("_law_names" : Str)] := defIn_mk X G a_L_leaf l_L_leaf c_L_leaf q_L_leaf fun _ _ _ _ _ _ us hl => match us, hl with | [_, _], _ => rfl
  have D_L_term : DefIn K mg "_law_term" s_L_term [("_law_flow_here" : Str), ("_law_names" : Str), ("_law_room" : Str), ("_law_down" : Str)] := defIn_mk X G a_L_term l_L_term c_L_term q_L_term fun _ _ _ _ _ _ us hl => match us, hl with | [_, _, _, _], _ => rfl
  have D_L_inner : DefIn K mg "_law_inner" s_L_inner [("_law_term_here" : Str)] := defIn_mk X G a_L_inner l_L_inner c_L_inner q_L_inner fun _ _ _ _ _ _ us hl => match us, hl with | [_], _ => rfl
  have D_L_parts : DefIn K mg "_law_parts" s_L_parts [("_law_term_here" : Str)] := defIn_mk X G a_L_parts l_L_parts c_L_parts q_L_parts fun _ _ _ _ _ _ us hl => match us, hl with | [_], _ => rfl
  have D_L_multiplied : DefIn K mg "_law_multiplied" s_L_multiplied [("_law_one" : Str), ("_law_many" : Str)] := defIn_mk X G a_L_multiplied l_L_multiplied c_L_multiplied q_L_multiplied fun _ _ _ _ _ _ us hl => match us, hl with | [_, _], _ => rfl
  have D_L_reach : DefIn K mg "_law_reach" s_L_reach [("_law_term_here" : Str), ("_law_known" : Str)] := defIn_mk X G a_L_reach l_L_reach c_L_reach q_L_reach fun _ _ _ _ _ _ us hl => match us, hl with | [_, _], _ => rfl
  have D_L_asks : DefIn K mg "_law_asks" s_L_asks [("_law_term_here" : Str), ("_law_known" : Str)] := defIn_mk X G a_L_asks l_L_asks c_L_asks q_L_asks fun _ _ _ _ _ _ us hl => match us, hl with | [_, _], _ => rfl
  have D_L_heft : DefIn K mg "_law_heft" s_L_heft [("_law_term_here" : Str), ("_law_known" : Str)] := defIn_mk X G a_L_heft l_L_heft c_L_heft q_L_heft fun _ _ _ _ _ _ us hl => match us, hl with | [_, _], _ => rfl
  have D_L_is_light : DefIn K mg "_law_is_light" s_L_is_light [("_law_term_here" : Str), ("_law_reaches_known" : Str), ("_law_hefts" : Str), ("_law_asked" : Str)] := defIn_mk X G a_L_is_light l_L_is_light c_L_is_light q_L_is_light fun _ _ _ _ _ _ us hl => match us, hl with | [_, _, _, _], _ => rfl
  have D_L_reckoning : DefIn K mg "_law_reckoning" s_L_reckoning [("_law_flow_here" : Str), ("_law_most" : Str)] := defIn_mk X G a_L_reckoning l_L_reckoning c_L_reckoning q_L_reckoning fun _ _ _ _ _ _ us hl => match us, hl with | [_, _], _ => rfl
  have D_L_valued_at : DefIn K mg "_law_valued_at" s_L_valued_at [("_law_term_here" : Str), ("_law_r" : Str), ("_law_rows" : Str), ("_law_kept" : Str)] := defIn_mk X G a_L_valued_at l_L_valued_at c_L_valued_at q_L_valued_at fun _ _ _ _ _ _ us hl => match us, hl with | [_, _, _, _], _ => rfl
  have D_L_valued : DefIn K mg "_law_valued" s_L_valued [("_law_rows" : Str), ("_law_r" : Str)] := defIn_mk X G a_L_valued l_L_valued c_L_valued q_L_valued fun _ _ _ _ _ _ us hl => match us, hl with | [_, _], _ => rfl
  have D_L_place : DefIn K mg "_law_place" s_L_place [("_law_flow_here" : Str)] := defIn_mk X G a_L_place l_L_place c_L_place q_L_place fun _ _ _ _ _ _ us hl => match us, hl with | [_], _ => rfl
  refine ⟨PySem.W.fnOf "law" "law" (defArgs s_law) (defBody s_law) (defScope s_law) .none kV_law dc_law pm_law an_law cd_law ct_law, fun s v => .of_eq rfl, fun base _ _ hNS => ?_⟩
  have hNT := And.intro hNS hT
  have l_Vinit := M _ _ l_Vinit; have c_Vinit := M.code c_Vinit; have q_Vinit := keep_fn l_Vinit
  have F_Vinit := fun_mk (st := sV_init) l_Vinit c_Vinit q_Vinit
  have B_Vinit := F_Vinit.binds (ps := [("self" : Str), ("reckoning" : Str)]) fun _ _ _ _ _ _ us hl => match us, hl with | [_, _], _ => rfl
  have l_Vrow := M _ _ l_Vrow; have c_Vrow := M.code c_Vrow; have q_Vrow := keep_fn l_Vrow
  have F_Vrow := fun_mk (st := sV_row) l_Vrow c_Vrow q_Vrow
  have B_Vrow := F_Vrow.binds (ps := [("self" : Str), ("name" : Str), ("r" : Str)]) fun _ _ _ _ _ _ us hl => match us, hl with | [_, _, _], _ => rfl
  have M_Vrow : Meth K C_vl "row_at" f_Vrow := ⟨M.find a_Vrow, M.isFn i_Vrow, q_Vrow⟩
  have l_Vterm := M _ _ l_Vterm; have c_Vterm := M.code c_Vterm; have q_Vterm := keep_fn l_Vterm
  have F_Vterm := fun_mk (st := sV_term) l_Vterm c_Vterm q_Vterm
  have B_Vterm := F_Vterm.binds (ps := [("self" : Str), ("term" : Str), ("r" : Str)]) fun _ _ _ _ _ _ us hl => match us, hl with | [_, _, _], _ => rfl
  have M_Vterm : Meth K C_vl "term_at" f_Vterm := ⟨M.find a_Vterm, M.isFn i_Vterm, q_Vterm⟩
  have l_Vboth := M _ _ l_Vboth; have c_Vboth := M.code c_Vboth; have q_Vboth := keep_fn l_Vboth
  have F_Vboth := fun_mk (st := sV_both) l_Vboth c_Vboth q_Vboth
  have B_Vboth := F_Vboth.binds (ps := [("self" : Str), ("term" : Str), ("r" : Str)]) fun _ _ _ _ _ _ us hl => match us, hl with | [_, _, _], _ => rfl
  have M_Vboth : Meth K C_vl "both" f_Vboth := ⟨M.find a_Vboth, M.isFn i_Vboth, q_Vboth⟩
  have CV : ClsV K mg := ⟨C_vl, _, _, _, _, _, _, _, _, PySem.W.mg_of X G (M.ns ac_vl), ⟨⟨M.plainGet pg_vl, M.dict hd_vl, M.plainOver po_vl, M.find sa_vl⟩, M.find nt_vl, M.find nf_vl⟩, ⟨M.makes mk_vl, M.find a_Vinit, M.isFn i_Vinit, M.keep kc_vl⟩, ⟨F_Vinit, B_Vinit⟩, ⟨F_Vrow, B_Vrow, M_Vrow⟩, ⟨F_Vterm, B_Vterm, M_Vterm⟩, F_Vboth, B_Vboth, M_Vboth⟩
  have k_common_part := k_common_part (P := l.prog) (w := w) (base := base) hNT z_abs D_common_part
  have k_fraction := k_fraction (P := l.prog) (w := w) (base := base) hNT k_common_part D_fraction
  have k_added := k_added (P := l.prog) (w := w) (base := base) hNT k_fraction D_added
  have k_taken := k_taken (P := l.prog) (w := w) (base := base) hNT k_fraction D_taken
  have k_multiplied := k_multiplied (P := l.prog) (w := w) (base := base) hNT k_fraction D_multiplied
  have k_valued := k_valued (P := l.prog) (w := w) (base := base) hNT z_dict z_range k_added k_taken k_multiplied CV D_valued
  have k_L_flow := k_L_flow (P := l.prog) (w := w) (base := base) hNT z_list D_L_flow
  have k_L_pick := k_L_pick (P := l.prog) (w := w) (base := base) hNT z_len D_L_pick
  have k_L_alike := fun n => k_L_alike (P := l.prog) (w := w) (base := base) hNT z_all z_bool z_isinstance z_len z_list z_range z_tuple D_L_alike n
  have k_L_common := k_L_common (P := l.prog) (w := w) (base := base) hNT z_abs D_L_common
  have k_L_fraction := k_L_fraction (P := l.prog) (w := w) (base := base) hNT k_L_common D_L_fraction
  have k_L_added := k_L_added (P := l.prog) (w := w) (base := base) hNT k_L_fraction D_L_added
  have k_L_product := k_L_product (P := l.prog) (w := w) (base := base) hNT k_L_fraction D_L_product
  have k_L_number := k_L_number (P := l.prog) (w := w) (base := base) hNT k_L_pick D_L_number
  have k_L_any_fraction := k_L_any_fraction (P := l.prog) (w := w) (base := base) hNT k_L_fraction k_L_pick k_L_number D_L_any_fraction
  have k_L_word := k_L_word (P := l.prog) (w := w) (base := base) hNT z_int z_range k_L_pick D_L_word
  have k_L_words := k_L_words (P := l.prog) (w := w) (base := base) hNT z_len z_range k_L_word k_L_pick D_L_words
  have k_L_leaf := k_L_leaf (P := l.prog) (w := w) (base := base) hNT z_len k_L_fraction k_L_pick k_L_number D_L_leaf
  have k_L_term := fun n => k_L_term (P := l.prog) (w := w) (base := base) hNT k_L_pick k_L_leaf D_L_term n
  have k_L_inner := k_L_inner (P := l.prog) (w := w) (base := base) hNT D_L_inner
  have k_L_parts := fun n => k_L_parts (P := l.prog) (w := w) (base := base) hNT k_L_inner D_L_parts n
  have k_L_multiplied := k_L_multiplied (P := l.prog) (w := w) (base := base) hNT z_range D_L_multiplied
  have k_L_reach := fun n => k_L_reach (P := l.prog) (w := w) (base := base) hNT z_int z_max k_L_multiplied k_L_inner D_L_reach n
  have k_L_asks := fun n => k_L_asks (P := l.prog) (w := w) (base := base) hNT z_sum k_L_inner D_L_asks n
  have k_L_heft := fun n => k_L_heft (P := l.prog) (w := w) (base := base) hNT z_max z_range k_L_inner D_L_heft n
  have k_L_is_light := k_L_is_light (P := l.prog) (w := w) (base := base) hNT (k_L_parts 10) (k_L_reach 10) (k_L_heft 10) (k_L_asks 10) D_L_is_light
  have k_L_reckoning := k_L_reckoning (P := l.prog) (w := w) (base := base) hNT z_enumerate z_tuple (k_L_asks 10) (k_L_heft 10) (k_L_reach 10) k_L_is_light k_L_pick k_L_leaf (k_L_term 10) k_L_words D_L_reckoning
  have k_L_valued_at := fun n => k_L_valued_at (P := l.prog) (w := w) (base := base) hNT z_int z_range k_L_inner k_L_added k_L_product D_L_valued_at n
  have k_L_valued := k_L_valued (P := l.prog) (w := w) (base := base) hNT z_dict (k_L_valued_at 45) D_L_valued
  have k_L_place := k_L_place (P := l.prog) (w := w) (base := base) hNT k_L_any_fraction k_L_pick D_L_place
  exact ok_law hNT (k_L_alike 8) k_L_valued k_valued k_L_place k_L_reckoning k_L_flow (fun_mk (st := s_law) l_law c_law q_law) hsem
end K18

open PySem PySem.W PyProof.Rows
set_option maxHeartbeats 0 in
theorem PySem.Challenge.cw_nestwright_k18_reckonings_valued_holds : PySem.Challenge.rw_nestwright_k18_reckonings_valued.Holds := by
  w_on; o_law; k_head; (case hw => w_witness2)
  k_fill
  refine NW.walk2 (l := PySem.Challenge.rw_nestwright_k18_reckonings_valued) (n := 63) (k := 128) (x := "_law_script") (sp := NW.spLaw) rfl (by decide) rfl ⟨rfl, by decide, by decide⟩ (by decide +kernel) (fun w h Y => PySem.W.kIn_of Y) ?F (fun _ _ a ns hl _ hS => ⟨a, ns, rfl, hS, hl, fun _ => rfl⟩)
  case F =>
    intro w mg fa h K' M KX G hmg
    refine' K18.all_mk M KX G rfl hmg K18.hsem ?a_common_part ?l_common_part ?c_common_part ?a_fraction ?l_fraction ?c_fraction ?a_added ?l_added ?c_added ?a_taken ?l_taken ?c_taken ?a_multiplied ?l_multiplied ?c_multiplied ?a_valued ?l_valued ?c_valued ?a_L_flow ?l_L_flow ?c_L_flow ?a_L_pick ?l_L_pick ?c_L_pick ?a_L_alike ?l_L_alike ?c_L_alike ?a_L_common ?l_L_common ?c_L_common ?a_L_fraction ?l_L_fraction ?c_L_fraction ?a_L_added ?l_L_added ?c_L_added ?a_L_product ?l_L_product ?c_L_product ?a_L_number ?l_L_number ?c_L_number ?a_L_any_fraction ?l_L_any_fraction ?c_L_any_fraction ?a_L_word ?l_L_word ?c_L_word ?a_L_words ?l_L_words ?c_L_words ?a_L_leaf ?l_L_leaf ?c_L_leaf ?a_L_term ?l_L_term ?c_L_term ?a_L_inner ?l_L_inner ?c_L_inner ?a_L_parts ?l_L_parts ?c_L_parts ?a_L_multiplied ?l_L_multiplied ?c_L_multiplied ?a_L_reach ?l_L_reach ?c_L_reach ?a_L_asks ?l_L_asks ?c_L_asks ?a_L_heft ?l_L_heft ?c_L_heft ?a_L_is_light ?l_L_is_light ?c_L_is_light ?a_L_reckoning ?l_L_reckoning ?c_L_reckoning ?a_L_valued_at ?l_L_valued_at ?c_L_valued_at ?a_L_valued ?l_L_valued ?c_L_valued ?a_L_place ?l_L_place ?c_L_place ?a_law ?l_law ?c_law ?b_abs ?b_all ?b_bool ?b_dict ?b_enumerate ?b_int ?b_isinstance ?b_len ?b_list ?b_max ?b_range ?b_sum ?b_tuple ?ac_vl ?pg_vl ?hd_vl ?po_vl ?sa_vl ?mk_vl ?kc_vl ?nt_vl ?nf_vl ?a_Vinit ?i_Vinit ?l_Vinit ?c_Vinit ?a_Vrow ?i_Vrow ?l_Vrow ?c_Vrow ?a_Vterm ?i_Vterm ?l_Vterm ?c_Vterm ?a_Vboth ?i_Vboth ?l_Vboth ?c_Vboth
    (case a_common_part => k_is)
    (case l_common_part => k_is)
    (case c_common_part => k_is)
    (case a_fraction => k_is)
    (case l_fraction => k_is)
    (case c_fraction => k_is)
    (case a_added => k_is)
    (case l_added => k_is)
    (case c_added => k_is)
    (case a_taken => k_is)
    (case l_taken => k_is)
    (case c_taken => k_is)
    (case a_multiplied => k_is)
    (case l_multiplied => k_is)
    (case c_multiplied => k_is)
    (case a_valued => k_is)
    (case l_valued => k_is)
    (case c_valued => k_is)
    (case a_L_flow => k_is)
    (case l_L_flow => k_is)
    (case c_L_flow => k_is)
    (case a_L_pick => k_is)
    (case l_L_pick => k_is)
    (case c_L_pick => k_is)
    (case a_L_alike => k_is)
    (case l_L_alike => k_is)
    (case c_L_alike => k_is)
    (case a_L_common => k_is)
    (case l_L_common => k_is)
    (case c_L_common => k_is)
    (case a_L_fraction => k_is)
    (case l_L_fraction => k_is)
    (case c_L_fraction => k_is)
    (case a_L_added => k_is)
    (case l_L_added => k_is)
    (case c_L_added => k_is)
    (case a_L_product => k_is)
    (case l_L_product => k_is)
    (case c_L_product => k_is)
    (case a_L_number => k_is)
    (case l_L_number => k_is)
    (case c_L_number => k_is)
    (case a_L_any_fraction => k_is)
    (case l_L_any_fraction => k_is)
    (case c_L_any_fraction => k_is)
    (case a_L_word => k_is)
    (case l_L_word => k_is)
    (case c_L_word => k_is)
    (case a_L_words => k_is)
    (case l_L_words => k_is)
    (case c_L_words => k_is)
    (case a_L_leaf => k_is)
    (case l_L_leaf => k_is)
    (case c_L_leaf => k_is)
    (case a_L_term => k_is)
    (case l_L_term => k_is)
    (case c_L_term => k_is)
    (case a_L_inner => k_is)
    (case l_L_inner => k_is)
    (case c_L_inner => k_is)
    (case a_L_parts => k_is)
    (case l_L_parts => k_is)
    (case c_L_parts => k_is)
    (case a_L_multiplied => k_is)
    (case l_L_multiplied => k_is)
    (case c_L_multiplied => k_is)
    (case a_L_reach => k_is)
    (case l_L_reach => k_is)
    (case c_L_reach => k_is)
    (case a_L_asks => k_is)
    (case l_L_asks => k_is)
    (case c_L_asks => k_is)
    (case a_L_heft => k_is)
    (case l_L_heft => k_is)
    (case c_L_heft => k_is)
    (case a_L_is_light => k_is)
    (case l_L_is_light => k_is)
    (case c_L_is_light => k_is)
    (case a_L_reckoning => k_is)
    (case l_L_reckoning => k_is)
    (case c_L_reckoning => k_is)
    (case a_L_valued_at => k_is)
    (case l_L_valued_at => k_is)
    (case c_L_valued_at => k_is)
    (case a_L_valued => k_is)
    (case l_L_valued => k_is)
    (case c_L_valued => k_is)
    (case a_L_place => k_is)
    (case l_L_place => k_is)
    (case c_L_place => k_is)
    (case a_law => k_is)
    (case l_law => k_is)
    (case c_law => k_is)
    (case b_abs => k_is)
    (case b_all => k_is)
    (case b_bool => k_is)
    (case b_dict => k_is)
    (case b_enumerate => k_is)
    (case b_int => k_is)
    (case b_isinstance => k_is)
    (case b_len => k_is)
    (case b_list => k_is)
    (case b_max => k_is)
    (case b_range => k_is)
    (case b_sum => k_is)
    (case b_tuple => k_is)
    (case ac_vl => k_is)
    (case pg_vl => k_is)
    (case hd_vl => k_is)
    (case po_vl => k_is)
    (case sa_vl => k_is)
    (case mk_vl => k_is)
    (case kc_vl => k_is)
    (case nt_vl => k_is)
    (case nf_vl => k_is)
    (case a_Vinit => k_is)
    (case i_Vinit => k_is)
    (case l_Vinit => k_is)
    (case c_Vinit => k_is)
    (case a_Vrow => k_is)
    (case i_Vrow => k_is)
    (case l_Vrow => k_is)
    (case c_Vrow => k_is)
    (case a_Vterm => k_is)
    (case i_Vterm => k_is)
    (case l_Vterm => k_is)
    (case c_Vterm => k_is)
    (case a_Vboth => k_is)
    (case i_Vboth => k_is)
    (case l_Vboth => k_is)
    (case c_Vboth => k_is)

