import PyProof.Rows.All
import Wide.All
import OpenK.AllK
import Wide.FinOn
import HandS.ForMost
import HandS.Lambda
import HandS.Wide
import HandS.WideBits
import HandS.Style
import HandS.Flow
import HandS.TupAny
import HandS.SortInts
import HandS.Gcd
import PyProof.ReprRoads
import HandS.Conv
import KE.KTupSum
import PyProof.ReprBulk
import HandS.Text
import KE.GoesEnum
import HandS.Star
import HandS.Small
import KE.IntBitsLaws
import HandS.SortRule
import HandS.TryOnly
import HandS.Zip
import HandS.ExcInit
import HandS.ExcSuper
import HandS.NestedK
import KE.KExcSuper
import KE.KSuper
import HandS.ExcField
import HandS.WordsExc
import HandS.CallLocal
import HandS.EndTab
import KE.KNestM
import HandS.WordsDict
import PySem.Challenge.RW_movedalike_k10_windows_right_by_rests
set_option Elab.async false
set_option linter.all false
set_option maxRecDepth 100000
set_option maxHeartbeats 4000000
set_option exponentiation.threshold 2000
/-! Dw: data over the hand layer: what expressions and statements do to plain data, without a heap in sight -/
namespace Dw
open PySem PySem.Spec PyProof.Rows L2

/-- plain data -/
inductive D where
  | non | bl (b : Bool) | int (i : Int) | str (x : Str) | tup (xs : List D) | lst (xs : List D) | dic (kvs : List (Key × D)) | ref (a : Addr)


mutual
/-- the value v tells the data d in the heap H, by objects that are none of O's -/
inductive Rp (K : PySem.W.Frag) (O : List Addr) (H : Hp) : V → D → Prop
  | non : Rp K O H .non .non
  | bl (b : Bool) : Rp K O H (.bl b) (.bl b)
  | int (i : Int) : Rp K O H (.int i) (.int i)
  | str (x : Str) : Rp K O H (.str x) (.str x)
  | ref (a : Addr) : Rp K O H (.ref a) (.ref a)
  | tup {a : Addr} {vs : List V} {ds : List D} : H a = some (.tup vs) → a ∉ O → RpAll K O H vs ds → Rp K O H (.ref a) (.tup ds)
  | lst {a : Addr} {vs : List V} {ds : List D} : H a = some (.lst vs) → a ∉ O → RpAll K O H vs ds → Rp K O H (.ref a) (.lst ds)
  | tupK {a : Addr} {vs : List V} {ds : List D} : (∀ H', SqT K H' a vs) → RpAll K O H vs ds → Rp K O H (.ref a) (.tup ds)
  | dic {a : Addr} {kvs : List (Key × V)} {es : List (Key × D)} : H a = some (.dK kvs) → a ∉ O → RpKv K O H kvs es → Rp K O H (.ref a) (.dic es)
inductive RpAll (K : PySem.W.Frag) (O : List Addr) (H : Hp) : List V → List D → Prop
  | nil : RpAll K O H [] []
  | cons {v : V} {vs : List V} {d : D} {ds : List D} : Rp K O H v d → RpAll K O H vs ds → RpAll K O H (v :: vs) (d :: ds)
inductive RpKv (K : PySem.W.Frag) (O : List Addr) (H : Hp) : List (Key × V) → List (Key × D) → Prop
  | nil : RpKv K O H [] []
  | cons {k : Key} {v : V} {kvs : List (Key × V)} {d : D} {es : List (Key × D)} : Rp K O H v d → RpKv K O H kvs es → RpKv K O H ((k, v) :: kvs) ((k, d) :: es)
end

section
variable {K : PySem.W.Frag} {O O' : List Addr} {H H' : Hp}
/-- what stands in H beside O stands in H' beside O' -/
def nT (o : HO) : Prop := ∀ ps, o ≠ .tbl ps
def Mv (O O' : List Addr) (H H' : Hp) : Prop := ∀ a o, a ∉ O → H a = some o → nT o → a ∉ O' ∧ H' a = some o
theorem Mv.rd (m : Mv O O' H H') {a : Addr} {u : HO} (h : H a = some u) (n : a ∉ O) (t : nT u := by intro _ z; cases z) : H' a = some u ∧ a ∉ O' := ⟨(m a _ n h t).2, (m a _ n h t).1⟩
mutual
theorem Rp.mv (m : Mv O O' H H') : ∀ {v : V} {d : D}, Rp K O H v d → Rp K O' H' v d
  | _, _, .non => .non
  | _, _, .bl b => .bl b
  | _, _, .int i => .int i
  | _, _, .str x => .str x
  | _, _, .ref a => .ref a
  | _, _, .tup h n r => .tup (m.rd h n).1 (m.rd h n).2 (RpAll.mv m r)
  | _, _, .lst h n r => .lst (m.rd h n).1 (m.rd h n).2 (RpAll.mv m r)
  | _, _, .tupK h r => .tupK h (RpAll.mv m r)
  | _, _, .dic h n r => .dic (m.rd h n).1 (m.rd h n).2 (RpKv.mv m r)
theorem RpAll.mv (m : Mv O O' H H') : ∀ {vs : List V} {ds : List D}, RpAll K O H vs ds → RpAll K O' H' vs ds
  | _, _, .nil => .nil
  | _, _, .cons h r => .cons (Rp.mv m h) (RpAll.mv m r)
theorem RpKv.mv (m : Mv O O' H H') : ∀ {vs : List (Key × V)} {ds : List (Key × D)}, RpKv K O H vs ds → RpKv K O' H' vs ds
  | _, _, .nil => .nil
  | _, _, .cons h r => .cons (Rp.mv m h) (RpKv.mv m r)
end
theorem RpAll.length : ∀ {vs : List V} {ds : List D}, RpAll K O H vs ds → vs.length = ds.length
  | _, _, .nil => rfl
  | _, _, .cons _ r => by rw [List.length_cons, List.length_cons, RpAll.length r]
theorem RpAll.append : ∀ {vs us : List V} {ds es : List D}, RpAll K O H vs ds → RpAll K O H us es → RpAll K O H (vs ++ us) (ds ++ es)
  | _, _, _, _, .nil, s => s
  | _, _, _, _, .cons h r, s => .cons h (RpAll.append r s)
theorem RpAll.get : ∀ {vs : List V} {ds : List D} {i : Nat} {v : V}, RpAll K O H vs ds → vs[i]? = some v → ∃ d, ds[i]? = some d ∧ Rp K O H v d
  | _, _, _, _, .nil, e => by simp at e
  | _, _, 0, _, .cons h _, e => ⟨_, rfl, by simp at e; subst e; exact h⟩
  | _, _, i + 1, v, .cons _ r, e => by
    obtain ⟨d, h1, h2⟩ := RpAll.get (i := i) (v := v) r (by simpa using e)
    exact ⟨d, by simpa using h1, h2⟩
theorem RpAll.getD' : ∀ {vs : List V} {ds : List D} {i : Nat} {d : D}, RpAll K O H vs ds → ds[i]? = some d → ∃ v, vs[i]? = some v ∧ Rp K O H v d
  | _, _, _, _, .nil, e => by simp at e
  | _, _, 0, _, .cons h _, e => ⟨_, rfl, by simp at e; subst e; exact h⟩
  | _, _, i + 1, d, .cons _ r, e => by
    obtain ⟨v, h1, h2⟩ := RpAll.getD' (i := i) (d := d) r (by simpa using e)
    exact ⟨v, by simpa using h1, h2⟩
theorem RpAll.take : ∀ (n : Nat) {vs : List V} {ds : List D}, RpAll K O H vs ds → RpAll K O H (vs.take n) (ds.take n)
  | 0, _, _, _ => .nil
  | _ + 1, _, _, .nil => .nil
  | n + 1, _, _, .cons h r => .cons h (RpAll.take n r)
theorem RpAll.drop : ∀ (n : Nat) {vs : List V} {ds : List D}, RpAll K O H vs ds → RpAll K O H (vs.drop n) (ds.drop n)
  | 0, _, _, r => r
  | _ + 1, _, _, .nil => .nil
  | n + 1, _, _, .cons _ r => RpAll.drop n r
theorem RpAll.set {v : V} {d : D} (h : Rp K O H v d) : ∀ (n : Nat) {vs : List V} {ds : List D}, RpAll K O H vs ds → RpAll K O H (vs.set n v) (ds.set n d)
  | _, _, _, .nil => .nil
  | 0, _, _, .cons _ r => .cons h r
  | n + 1, _, _, .cons g r => .cons g (RpAll.set h n r)
theorem RpAll.reverse {vs : List V} {ds : List D} (r : RpAll K O H vs ds) : RpAll K O H vs.reverse ds.reverse := by
  induction vs generalizing ds with
  | nil => cases r; exact .nil
  | cons v vs ih =>
    cases r with
    | cons h r =>
      rw [List.reverse_cons, List.reverse_cons]
      exact (ih r).append (.cons h .nil)
theorem RpAll.ints : ∀ (ns : List Int), RpAll K O H (ns.map V.int) (ns.map D.int)
  | [] => .nil
  | i :: r => .cons (.int i) (RpAll.ints r)
theorem RpAll.ints_inv : ∀ {ns : List Int} {vs : List V}, RpAll K O H vs (ns.map D.int) → vs = ns.map V.int
  | [], _, .nil => rfl
  | i :: r, _, .cons h q => by
    cases h
    rw [RpAll.ints_inv q, List.map_cons]
theorem RpAll.bls_inv : ∀ {ns : List Bool} {vs : List V}, RpAll K O H vs (ns.map D.bl) → vs = ns.map V.bl
  | [], _, .nil => rfl
  | i :: r, _, .cons h q => by
    cases h
    rw [RpAll.bls_inv q, List.map_cons]
end

/-! ### the state -/
/-- a slot: nothing known; data; a list of the def's own (at a, by the data of its items); a dict of its own -/
inductive Sl where
  | any | dat (d : D) | own (a : Addr) (ds : List D) | ownD (a : Addr) (es : List (Key × D))
def Sl.addr : Sl → List Addr
  | .own a _ => [a]
  | .ownD a _ => [a]
  | _ => []
def owns (ρ : List Sl) : List Addr := ρ.flatMap Sl.addr

/-- the law's source of draws at (a, c): its dict, the cells -/
def SrcOk (S : Option (Addr × Addr)) (H : Hp) : Prop := ∀ a c, S = some (a, c) → ∃ (cells : List Int) (left mixed turn : Int),
  H a = some (.dK [(.inr "cells", .ref c), (.inr "left", .int left), (.inr "mixed", .int mixed), (.inr "turn", .int turn)]) ∧ H c = some (.lst (cells.map V.int)) ∧ cells.length ≤ 1000
/-- what was tracked stands, but for the source; a table of code objects may grow -/
structure Kp (Θ : List (Addr × Str)) (S : Option (Addr × Addr)) (H H' : Hp) : Prop where
  to : ∀ b o, (∀ a c, S = some (a, c) → b ≠ a ∧ b ≠ c) → H b = some o → nT o → H' b = some o
  has : ∀ b o, H b = some o → ∃ u, H' b = some u
  tab : LamX.Tabs Θ H → LamX.Tabs Θ H'
theorem Kp.at {Θ : List (Addr × Str)} {S : Option (Addr × Addr)} {H H' : Hp} (k : Kp Θ S H H') (b : Addr) (o : HO) (n : ∀ a c, S = some (a, c) → b ≠ a ∧ b ≠ c) (e : H b = some o) (t : nT o := by intro _ z; cases z) : H' b = some o := k.to b o n e t
theorem Kp.of_all {Θ : List (Addr × Str)} {S : Option (Addr × Addr)} {H H' : Hp} (h : ∀ b o, H b = some o → H' b = some o) : Kp Θ S H H' := ⟨fun b o _ e _ => h b o e, fun b o e => ⟨o, h b o e⟩, fun t => t.ext h⟩
theorem Kp.refl (Θ : List (Addr × Str)) (S : Option (Addr × Addr)) (H : Hp) : Kp Θ S H H := .of_all fun _ _ h => h
theorem Kp.trans {Θ : List (Addr × Str)} {S : Option (Addr × Addr)} {H H1 H2 : Hp} (a : Kp Θ S H H1) (b : Kp Θ S H1 H2) : Kp Θ S H H2 := ⟨fun c o n h t => b.to c o n (a.to c o n h t) t, fun c o h => let ⟨u, e⟩ := a.has c o h; b.has c u e, fun t => b.tab (a.tab t)⟩
theorem Kp.new {Θ : List (Addr × Str)} {S : Option (Addr × Addr)} {H : Hp} {p : Addr} {o : HO} (h : H p = none) : Kp Θ S H (upd H p o) := .of_all fun b u e => by
  rw [upd_ne (ne_of_none e h)]
  exact e
theorem codeO_lst {c : Addr} {q : Str} {xs : List V} : LamX.CodeO c q ≠ .lst xs := fun z => by unfold LamX.CodeO at z; cases z
theorem codeO_dK {c : Addr} {q : Str} {xs : List (Key × V)} : LamX.CodeO c q ≠ .dK xs := fun z => by unfold LamX.CodeO at z; cases z
/-- a list or a dict that is new since H is written at a -/
theorem Kp.upd {Θ : List (Addr × Str)} {S : Option (Addr × Addr)} {H H1 : Hp} {a : Addr} {o u : HO} (k : Kp Θ S H H1) (n : H a = none) (h : H1 a = some o) (hk : (∃ xs, o = .lst xs) ∨ ∃ xs, o = .dK xs) : Kp Θ S H (L2.upd H1 a u) := by
  have ne : ∀ {b w}, H b = some w → b ≠ a := fun e z => by rw [z, n] at e; cases e
  refine ⟨fun b w m e t => by rw [upd_ne (ne e)]; exact k.to b w m e t, fun b w e => by rw [upd_ne (ne e)]; exact k.has b w e, fun t p hp => ?_⟩
  have nP : p.1 ≠ a := by obtain ⟨ps, e, _⟩ := t p hp; exact ne e
  obtain ⟨ps, e, h2, h3⟩ := k.tab t p hp
  refine ⟨ps, by rw [upd_ne nP]; exact e, h2, fun pos cv hc => ?_⟩
  obtain ⟨c, e1, e2⟩ := h3 pos cv hc
  refine ⟨c, e1, ?_⟩
  rw [upd_ne fun z => ?_]
  · exact e2
  · rw [z, h] at e2
    rcases hk with ⟨xs, rfl⟩ | ⟨xs, rfl⟩
    · exact codeO_lst (Option.some.inj e2).symm
    · exact codeO_dK (Option.some.inj e2).symm

/-- the surroundings of a def's body: the written part, the source, the heap at the entry, addresses that data must not touch, data that is held (an iterable that is walked) -/
structure Gx where
  K : PySem.W.Frag
  S : Option (Addr × Addr)
  H0 : Hp
  O : List Addr
  P : List (V × D)
  T : List (Addr × Str)

def bs (G : Gx) (ρ : List Sl) (c : Bool) : List Addr := if c = true then G.O ++ owns ρ else G.O

def SlOk (K : PySem.W.Frag) (O : List Addr) (H : Hp) : Sl → Option V → Prop
  | .any, _ => True
  | .dat d, x => ∃ v, x = some v ∧ Rp K O H v d
  | .own a ds, x => x = some (.ref a) ∧ ∃ vs, H a = some (.lst vs) ∧ RpAll K O H vs ds
  | .ownD a es, x => x = some (.ref a) ∧ ∃ kvs, H a = some (.dK kvs) ∧ RpKv K O H kvs es

structure StOk (G : Gx) (ρ : List Sl) (σ : L2.St) (H : Hp) : Prop where
  len : σ.length = ρ.length
  slot : ∀ (i : Nat) s, ρ[i]? = some s → ∃ x, σ[i]? = some x ∧ SlOk G.K (G.O ++ owns ρ) H s x
  ext : Kp G.T G.S G.H0 H
  src : SrcOk G.S H
  srcO : ∀ a c, G.S = some (a, c) → a ∈ G.O ∧ c ∈ G.O ∧ a ≠ c
  trk : ∀ a ∈ G.O, ∃ o, H a = some o
  nd : (owns ρ).Nodup
  nO : ∀ a ∈ owns ρ, a ∉ G.O
  fr : ∀ a ∈ owns ρ, G.H0 a = none
  pin : ∀ p ∈ G.P, Rp G.K (G.O ++ owns ρ) H p.1 p.2

section
variable {G : Gx} {ρ : List Sl} {σ : L2.St} {H H' : Hp}
theorem mem_owns {a : Addr} {i : Nat} {s : Sl} (h : ρ[i]? = some s) (ha : a ∈ s.addr) : a ∈ owns ρ := List.mem_flatMap.mpr ⟨s, List.mem_of_getElem? h, ha⟩
theorem StOk.trkO (I : StOk G ρ σ H) : ∀ a ∈ owns ρ, ∃ o, H a = some o := fun a ha => by
  obtain ⟨s, hs, h⟩ := List.mem_flatMap.mp ha
  obtain ⟨i, hi⟩ := List.getElem?_of_mem hs
  obtain ⟨x, hx, ok⟩ := I.slot i s hi
  cases s with
  | any => cases h
  | dat d => cases h
  | own b ds =>
    obtain rfl : a = b := by simpa [Sl.addr] using h
    obtain ⟨_, vs, e, _⟩ := ok
    exact ⟨_, e⟩
  | ownD b ds =>
    obtain rfl : a = b := by simpa [Sl.addr] using h
    obtain ⟨_, vs, e, _⟩ := ok
    exact ⟨_, e⟩
theorem StOk.srcA (I : StOk G ρ σ H) {a c : Addr} (h : G.S = some (a, c)) : a ∈ G.O ++ owns ρ ∧ c ∈ G.O ++ owns ρ :=
  ⟨List.mem_append_left _ (I.srcO a c h).1, List.mem_append_left _ (I.srcO a c h).2.1⟩
theorem Kp.mv {Θ : List (Addr × Str)} {S : Option (Addr × Addr)} {O : List Addr} (k : Kp Θ S H H') (hS : ∀ a c, S = some (a, c) → a ∈ O ∧ c ∈ O) : Mv O O H H' := fun a o n h t =>
  ⟨n, k.to a o (fun b c e => ⟨fun q => n (q ▸ (hS b c e).1), fun q => n (q ▸ (hS b c e).2)⟩) h t⟩
theorem SlOk.mv {K : PySem.W.Frag} {O O' : List Addr} {s : Sl} {x : Option V} (m : Mv O O' H H') (ho : ∀ a ∈ s.addr, ∀ o, H a = some o → nT o → H' a = some o) (h : SlOk K O H s x) : SlOk K O' H' s x := by
  cases s with
  | any => trivial
  | dat d =>
    obtain ⟨v, e, r⟩ := h
    exact ⟨v, e, r.mv m⟩
  | own a ds =>
    obtain ⟨e, vs, hv, r⟩ := h
    exact ⟨e, vs, ho a (by simp [Sl.addr]) _ hv (by intro _ z; cases z), r.mv m⟩
  | ownD a es =>
    obtain ⟨e, vs, hv, r⟩ := h
    exact ⟨e, vs, ho a (by simp [Sl.addr]) _ hv (by intro _ z; cases z), r.mv m⟩
/-- the heap goes on -/
theorem StOk.kp (I : StOk G ρ σ H) (k : Kp G.T G.S H H') (s : SrcOk G.S H') : StOk G ρ σ H' where
  len := I.len
  slot := fun i sl h => by
    obtain ⟨x, hx, ok⟩ := I.slot i sl h
    refine ⟨x, hx, ok.mv (k.mv fun a c e => I.srcA e) fun a ha o e t => k.to a o (fun b c q => ?_) e t⟩
    have ho := I.nO a (mem_owns h ha)
    exact ⟨fun z => ho (z ▸ (I.srcO b c q).1), fun z => ho (z ▸ (I.srcO b c q).2.1)⟩
  ext := I.ext.trans k
  src := s
  srcO := I.srcO
  trk := fun a ha => let ⟨o, e⟩ := I.trk a ha; k.has a o e
  nd := I.nd
  nO := I.nO
  fr := I.fr
  pin := fun p hp => (I.pin p hp).mv (k.mv fun a c e => I.srcA e)
theorem bs_mem {c : Bool} {a : Addr} (h : a ∈ bs G ρ c) : a ∈ G.O ++ owns ρ := by
  unfold bs at h
  split at h
  · exact h
  · exact List.mem_append_left _ h
theorem StOk.srcB (I : StOk G ρ σ H) {c : Bool} {a b : Addr} (h : G.S = some (a, b)) : a ∈ bs G ρ c ∧ b ∈ bs G ρ c := by
  unfold bs
  split
  · exact I.srcA h
  · exact ⟨(I.srcO a b h).1, (I.srcO a b h).2.1⟩
theorem mv_sub {O O' : List Addr} (h : ∀ a ∈ O', a ∈ O) : Mv O O' H H := fun a o n e _ => ⟨fun q => n (h a q), e⟩
theorem StOk.trkB (I : StOk G ρ σ H) {c : Bool} : ∀ a ∈ bs G ρ c, ∃ o, H a = some o := fun a h => by
  rcases List.mem_append.mp (bs_mem h) with h | h
  · exact I.trk a h
  · exact I.trkO a h
/-- data that stands in the heap goes on -/
theorem StOk.rp (I : StOk G ρ σ H) (k : Kp G.T G.S H H') {c : Bool} {v : V} {d : D} (r : Rp G.K (bs G ρ c) H v d) : Rp G.K (bs G ρ c) H' v d := r.mv (k.mv fun _ _ e => I.srcB e)
theorem StOk.rpAll (I : StOk G ρ σ H) (k : Kp G.T G.S H H') {c : Bool} {v : List V} {d : List D} (r : RpAll G.K (bs G ρ c) H v d) : RpAll G.K (bs G ρ c) H' v d := r.mv (k.mv fun _ _ e => I.srcB e)
/-- a new object -/
theorem SrcOk.new {S : Option (Addr × Addr)} {p : Addr} {o : HO} (s : SrcOk S H) (h : H p = none) : SrcOk S (upd H p o) := fun a c e => by
  obtain ⟨cells, l, m, t, e1, e2, e3⟩ := s a c e
  exact ⟨cells, l, m, t, by rw [upd_ne (ne_of_none e1 h)]; exact e1, by rw [upd_ne (ne_of_none e2 h)]; exact e2, e3⟩
theorem StOk.fresh (I : StOk G ρ σ H) {p : Addr} (h : H p = none) {c : Bool} : p ∉ bs G ρ c := fun q => by
  obtain ⟨o, e⟩ := I.trkB p q
  rw [h] at e
  cases e
theorem Rp.new {K : PySem.W.Frag} {O : List Addr} {p : Addr} {o : HO} {v : V} {d : D} (h : H p = none) (r : Rp K O H v d) : Rp K O (upd H p o) v d :=
  r.mv fun a u n e _ => ⟨n, by rw [upd_ne (ne_of_none e h)]; exact e⟩
theorem mv_fresh {O : List Addr} {H : Hp} {p : Addr} {o : HO} (h : H p = none) : Mv O (p :: O) H (upd H p o) := fun a u n e _ => by
  have ne := ne_of_none e h
  exact ⟨fun q => (List.mem_cons.mp q).elim ne n, by rw [upd_ne ne]; exact e⟩
theorem RpAll.new {K : PySem.W.Frag} {O : List Addr} {p : Addr} {o : HO} {v : List V} {d : List D} (h : H p = none) (r : RpAll K O H v d) : RpAll K O (upd H p o) v d :=
  r.mv fun a u n e _ => ⟨n, by rw [upd_ne (ne_of_none e h)]; exact e⟩
end

/-! ### the judgements -/
/-- all that is known of an expression's, a test's, a statement's run -/
def eSem (X : Cx) (e : Expr) : TE := fun σ H Q => ∀ (pins : List (Addr × Obj)) (s : Shared), Inv X pins σ H s → wpAny (model X.prog X.w) X.A (eval e X.env) (EP X pins σ Q) X.xe s
def tSem (X : Cx) (e : Expr) : TT := fun σ H Q => ∀ (pins : List (Addr × Obj)) (s : Shared), Inv X pins σ H s → wpAny (model X.prog X.w) X.A (isTrue e X.env (eval e X.env)) (TP X pins σ Q) X.xe s
def wSem (X : Cx) (e : Expr) : TT := fun σ H Q => ∀ (whole : Sem Value) (pins : List (Addr × Obj)) (s : Shared), Inv X pins σ H s → wpAny (model X.prog X.w) X.A (isTrue e X.env whole) (TP X pins σ Q) X.xe s
def aSem (X : Cx) (es : List Expr) : TA := fun σ H Q => ∀ (pos : Pos) (pins : List (Addr × Obj)) (s : Shared), Inv X pins σ H s → wpAny (model X.prog X.w) X.A (spliced (backTo pos (starEach es X.env))) (AP X pins σ Q) X.xe s
def sSem (X : Cx) (st : Stmt) : TS := fun D σ H => ∀ (pins : List (Addr × Obj)) (s : Shared), Inv X pins σ H s → wpAny (model X.prog X.w) X.A (exec st X.env) (SP X pins D) X.xe s
def ssSem (X : Cx) (st : List Stmt) : TS := fun D σ H => ∀ (pins : List (Addr × Obj)) (s : Shared), Inv X pins σ H s → wpAny (model X.prog X.w) X.A (execs st X.env) (SP X pins D) X.xe s
theorem pe_sem {X : Cx} {e : Expr} : PE X e (eSem X e) := ⟨fun pins s σ H Q I h => h pins s I⟩
theorem pt_sem {X : Cx} {e : Expr} : PT X e (tSem X e) := ⟨fun pins s σ H Q I h => h pins s I⟩
theorem pw_sem {X : Cx} {e : Expr} : PW X e (wSem X e) := ⟨fun w pins s σ H Q I h => h w pins s I⟩
theorem pa_sem {X : Cx} {e : List Expr} : PA X e (aSem X e) := ⟨fun p pins s σ H Q I h => h p pins s I⟩
theorem ps_sem {X : Cx} {e : Stmt} : PS X e (sSem X e) := ⟨fun pins s σ H D I h => h pins s I⟩
theorem pss_sem {X : Cx} {e : List Stmt} : PSs X e (ssSem X e) := ⟨fun pins s σ H D I h => h pins s I⟩
theorem sem_of {X : Cx} {e : Expr} {t : TE} (h : PE X e t) {σ : L2.St} {H : Hp} {Q : VK} (q : t σ H Q) : eSem X e σ H Q := fun pins s I => h.run pins s σ H Q I q
theorem tsem_of {X : Cx} {e : Expr} {t : TT} (h : PT X e t) {σ : L2.St} {H : Hp} {Q : Bool → Hp → Prop} (q : t σ H Q) : tSem X e σ H Q := fun pins s I => h.run pins s σ H Q I q
theorem wsem_of {X : Cx} {e : Expr} {t : TT} (h : PW X e t) {σ : L2.St} {H : Hp} {Q : Bool → Hp → Prop} (q : t σ H Q) : wSem X e σ H Q := fun w pins s I => h.run w pins s σ H Q I q
theorem asem_of {X : Cx} {e : List Expr} {t : TA} (h : PA X e t) {σ : L2.St} {H : Hp} {Q : List V → Hp → Prop} (q : t σ H Q) : aSem X e σ H Q := fun p pins s I => h.run p pins s σ H Q I q
theorem ssem_of {X : Cx} {e : Stmt} {t : TS} (h : PS X e t) {σ : L2.St} {H : Hp} {D : Ends} (q : t D σ H) : sSem X e D σ H := fun pins s I => h.run pins s σ H D I q
theorem sssem_of {X : Cx} {e : List Stmt} {t : TS} (h : PSs X e t) {σ : L2.St} {H : Hp} {D : Ends} (q : t D σ H) : ssSem X e D σ H := fun pins s I => h.run pins s σ H D I q

/-- the value's end: the heap went on, the value tells d, and Q says what is wanted of d -/
def Up (G : Gx) (O : List Addr) (H : Hp) (Q : D → Prop) (Q' : VK) : Prop := ∀ v H' d, Kp G.T G.S H H' → SrcOk G.S H' → Rp G.K O H' v d → Q d → Q' v H'
def DE (X : Cx) (G : Gx) (ρ : List Sl) (c : Bool) (e : Expr) (Q : D → Prop) : Prop := ∀ σ H, StOk G ρ σ H → ∀ Q' : VK, Up G (bs G ρ c) H Q Q' → eSem X e σ H Q'
/-- a test -/
def UpT (G : Gx) (H : Hp) (Q : Bool → Prop) (Q' : Bool → Hp → Prop) : Prop := ∀ b H', Kp G.T G.S H H' → SrcOk G.S H' → Q b → Q' b H'
def DT (X : Cx) (G : Gx) (ρ : List Sl) (e : Expr) (Q : Bool → Prop) : Prop := ∀ σ H, StOk G ρ σ H → ∀ Q' : Bool → Hp → Prop, UpT G H Q Q' → tSem X e σ H Q'
def DW (X : Cx) (G : Gx) (ρ : List Sl) (e : Expr) (Q : Bool → Prop) : Prop := ∀ σ H, StOk G ρ σ H → ∀ Q' : Bool → Hp → Prop, UpT G H Q Q' → wSem X e σ H Q'
/-- arguments -/
def UpA (G : Gx) (O : List Addr) (H : Hp) (Q : List D → Prop) (Q' : List V → Hp → Prop) : Prop := ∀ vs H' ds, Kp G.T G.S H H' → SrcOk G.S H' → RpAll G.K O H' vs ds → Q ds → Q' vs H'
def DA (X : Cx) (G : Gx) (ρ : List Sl) (c : Bool) (es : List Expr) (Q : List D → Prop) : Prop := ∀ σ H, StOk G ρ σ H → ∀ Q' : List V → Hp → Prop, UpA G (bs G ρ c) H Q Q' → aSem X es σ H Q'
/-- an expression that makes a new list -/
def UpF (G : Gx) (O : List Addr) (H : Hp) (Q : List D → Prop) (Q' : VK) : Prop := ∀ p vs H' ds, Kp G.T G.S H H' → SrcOk G.S H' → H p = none → H' p = some (.lst vs) → RpAll G.K (p :: O) H' vs ds → Q ds → Q' (.ref p) H'
def DF (X : Cx) (G : Gx) (ρ : List Sl) (e : Expr) (Q : List D → Prop) : Prop := ∀ σ H, StOk G ρ σ H → ∀ Q' : VK, UpF G (G.O ++ owns ρ) H Q Q' → eSem X e σ H Q'

/-- what is wanted behind a statement -/
structure DEnds where
  nx : List Sl → Prop
  rt : D → Prop
  bk : List Sl → Prop := fun _ => False
  ct : List Sl → Prop := fun _ => False
structure UpS (G : Gx) (E : DEnds) (D : Ends) : Prop where
  nx : ∀ ρ σ H, StOk G ρ σ H → E.nx ρ → D.nx σ H
  rt : ∀ v H d, Kp G.T G.S G.H0 H → SrcOk G.S H → Rp G.K G.O H v d → E.rt d → D.rt v H
  bk : ∀ ρ σ H, StOk G ρ σ H → E.bk ρ → D.bk σ H
  ct : ∀ ρ σ H, StOk G ρ σ H → E.ct ρ → D.ct σ H
def DS (X : Cx) (G : Gx) (ρ : List Sl) (st : Stmt) (E : DEnds) : Prop := ∀ σ H, StOk G ρ σ H → ∀ D : Ends, UpS G E D → sSem X st D σ H
def DSs (X : Cx) (G : Gx) (ρ : List Sl) (sts : List Stmt) (E : DEnds) : Prop := ∀ σ H, StOk G ρ σ H → ∀ D : Ends, UpS G E D → ssSem X sts D σ H
end Dw

/-! expressions -/
namespace Dw
open PySem PySem.Spec PyProof.Rows L2

section
variable {G : Gx} {ρ : List Sl} {σ : L2.St} {H H1 H' : Hp} {c c0 : Bool} {Q Q0 : D → Prop} {K : PySem.W.Frag} {O : List Addr}
theorem Up.later {O : List Addr} {Q' : VK} (U : Up G O H Q Q') (k : Kp G.T G.S H H1) : Up G O H1 Q Q' := fun v H2 d k2 s2 r q => U v H2 d (k.trans k2) s2 r q
theorem UpT.later {Q : Bool → Prop} {Q' : Bool → Hp → Prop} (U : UpT G H Q Q') (k : Kp G.T G.S H H1) : UpT G H1 Q Q' := fun v H2 k2 s2 q => U v H2 (k.trans k2) s2 q
theorem UpA.later {O : List Addr} {Q : List D → Prop} {Q' : List V → Hp → Prop} (U : UpA G O H Q Q') (k : Kp G.T G.S H H1) : UpA G O H1 Q Q' := fun v H2 d k2 s2 r q => U v H2 d (k.trans k2) s2 r q
theorem Up.now {Q' : VK} (U : Up G (bs G ρ c) H Q Q') (I : StOk G ρ σ H) {v : V} {d : D} (r : Rp G.K (bs G ρ c) H v d) (q : Q d) : Q' v H := U v H d (Kp.refl _ _ _) I.src r q
theorem Up.int {O : List Addr} {Q' : VK} (U : Up G O H Q Q') (s : SrcOk G.S H) {i : Int} (q : Q (.int i)) : Q' (.int i) H := U _ H _ (Kp.refl _ _ _) s (.int i) q
theorem Up.bl {O : List Addr} {Q' : VK} (U : Up G O H Q Q') (s : SrcOk G.S H) {i : Bool} (q : Q (.bl i)) : Q' (.bl i) H := U _ H _ (Kp.refl _ _ _) s (.bl i) q
theorem Up.str {O : List Addr} {Q' : VK} (U : Up G O H Q Q') (s : SrcOk G.S H) {i : Str} (q : Q (.str i)) : Q' (.str i) H := U _ H _ (Kp.refl _ _ _) s (.str i) q
/-- a new list, tuple -/
theorem Up.lst {Q' : VK} (U : Up G (bs G ρ c) H Q Q') (I : StOk G ρ σ H) {vs : List V} {ds : List D} (r : RpAll G.K (bs G ρ c) H vs ds) (q : Q (.lst ds)) : ∀ p, H p = none → Q' (.ref p) (upd H p (.lst vs)) := fun p hp =>
  U _ _ _ (Kp.new hp) (I.src.new hp) (.lst upd_same (I.fresh hp) (r.new hp)) q
theorem Up.tup {Q' : VK} (U : Up G (bs G ρ c) H Q Q') (I : StOk G ρ σ H) {vs : List V} {ds : List D} (r : RpAll G.K (bs G ρ c) H vs ds) (q : Q (.tup ds)) : ∀ p, H p = none → Q' (.ref p) (upd H p (.tup vs)) := fun p hp =>
  U _ _ _ (Kp.new hp) (I.src.new hp) (.tup upd_same (I.fresh hp) (r.new hp)) q
theorem line_of {n : Nat} (h : n ≤ 100000) : n ≤ sizeLine := Nat.le_trans h (by rw [sizeLine_eq]; decide)

/-- the inversions -/
theorem Rp.lstI {K : PySem.W.Frag} {O : List Addr} {H : Hp} {v : V} {ds : List D} (r : Rp K O H v (.lst ds)) : ∃ a vs, v = .ref a ∧ H a = some (.lst vs) ∧ a ∉ O ∧ RpAll K O H vs ds := by
  cases r with
  | lst h n r => exact ⟨_, _, rfl, h, n, r⟩
theorem Rp.tupI {K : PySem.W.Frag} {O : List Addr} {H : Hp} {v : V} {ds : List D} (r : Rp K O H v (.tup ds)) : ∃ a vs, v = .ref a ∧ SqT K H a vs ∧ RpAll K O H vs ds := by
  cases r with
  | tup h n r => exact ⟨_, _, rfl, .of h, r⟩
  | tupK h r => exact ⟨_, _, rfl, h _, r⟩
end

section
variable {X : Cx} {G : Gx} {ρ : List Sl} {c : Bool} {Q : D → Prop} {e a b : Expr} {es : List Expr} {pos p2 p3 : Pos}

theorem DE.imp {Q0 : D → Prop} (h : DE X G ρ c e Q0) (i : ∀ d, Q0 d → Q d) : DE X G ρ c e Q := fun σ H I Q' U => h σ H I Q' fun v H' d k s r q => U v H' d k s r (i d q)
/-- clean data is data -/
theorem DE.weak (h : DE X G ρ true e Q) : DE X G ρ c e Q := fun σ H I Q' U => h σ H I Q' fun v H' d k s r q => U v H' d k s (r.mv (mv_sub fun a ha => bs_mem ha)) q

/-! ### names and constants -/
theorem de_var {d : D} (i : Nat) {x : Str} (h : ρ[i]? = some (.dat d)) (q : Q d) (hN : X.N[i]? = some x := by rfl) (hv : Vis X.env.scope x := by first | exact Or.inl rfl | exact Or.inr (Or.inl rfl) | exact Or.inr (Or.inr rfl))
    (hd : (x == ("__debug__" : Str)) = false := by decide) (hcd : (x == ("__classdict__" : Str)) = false := by decide) : DE X G ρ c (.Name x pos) Q := fun σ H I Q' U => by
  obtain ⟨y, hy, v, rfl, r⟩ := I.slot i _ h
  exact sem_of (pe_var (pos := pos) hN hv hd hcd) ⟨v, hy, U.now I (r.mv (mv_sub fun a ha => bs_mem ha)) q⟩
/-- a list of the def's own, read -/
theorem de_own {o : Addr} {ds : List D} (i : Nat) {x : Str} (h : ρ[i]? = some (.own o ds)) (q : Q (.lst ds)) (hN : X.N[i]? = some x := by rfl) (hv : Vis X.env.scope x := by first | exact Or.inl rfl | exact Or.inr (Or.inl rfl) | exact Or.inr (Or.inr rfl))
    (hd : (x == ("__debug__" : Str)) = false := by decide) (hcd : (x == ("__classdict__" : Str)) = false := by decide) : DE X G ρ false (.Name x pos) Q := fun σ H I Q' U => by
  obtain ⟨y, hy, rfl, vs, hv', r⟩ := I.slot i _ h
  refine sem_of (pe_var (pos := pos) hN hv hd hcd) ⟨_, hy, U.now I (.lst hv' (I.nO o (mem_owns h (by simp [Sl.addr]))) (r.mv (mv_sub fun a ha => List.mem_append_left _ ha))) q⟩
theorem de_ownD {o : Addr} {ds : List (Key × D)} (i : Nat) {x : Str} (h : ρ[i]? = some (.ownD o ds)) (q : Q (.dic ds)) (hN : X.N[i]? = some x := by rfl) (hv : Vis X.env.scope x := by first | exact Or.inl rfl | exact Or.inr (Or.inl rfl) | exact Or.inr (Or.inr rfl))
    (hd : (x == ("__debug__" : Str)) = false := by decide) (hcd : (x == ("__classdict__" : Str)) = false := by decide) : DE X G ρ false (.Name x pos) Q := fun σ H I Q' U => by
  obtain ⟨y, hy, rfl, vs, hv', r⟩ := I.slot i _ h
  refine sem_of (pe_var (pos := pos) hN hv hd hcd) ⟨_, hy, U.now I (.dic hv' (I.nO o (mem_owns h (by simp [Sl.addr]))) (r.mv (mv_sub fun a ha => List.mem_append_left _ ha))) q⟩
theorem de_int {i j} (q : Q (.int i)) : DE X G ρ c (.Constant (.int i) j pos) Q := fun σ H I Q' U => sem_of pe_int (U.int I.src q)
theorem de_bl {i j} (q : Q (.bl i)) : DE X G ρ c (.Constant (.bool i) j pos) Q := fun σ H I Q' U => sem_of pe_bl (U.bl I.src q)
theorem de_str {i j} (q : Q (.str i)) : DE X G ρ c (.Constant (.str i) j pos) Q := fun σ H I Q' U => sem_of pe_str (U.str I.src q)
theorem de_non {j} (q : Q .non) : DE X G ρ c (.Constant .none j pos) Q := fun σ H I Q' U => sem_of pe_non (U _ H _ (Kp.refl _ _ _) I.src .non q)
/-- a module's constant -/
theorem de_globI {x : Str} {i : Int} {t : Tok} (hm : X.mg x = some (.int i t)) (q : Q (.int i)) (hg : Gl X x := by rfl) (hd : (x == ("__debug__" : Str)) = false := by decide) : DE X G ρ c (.Name x pos) Q :=
  fun σ H I Q' U => sem_of (pe_glob (v := V.int i) hg hm ⟨t, rfl⟩ hd) (U.int I.src q)
theorem de_globS {x : Str} {i : Str} {t : Tok} (hm : X.mg x = some (.str i t)) (q : Q (.str i)) (hg : Gl X x := by rfl) (hd : (x == ("__debug__" : Str)) = false := by decide) : DE X G ρ c (.Name x pos) Q :=
  fun σ H I Q' U => sem_of (pe_glob (v := V.str i) hg hm ⟨t, rfl⟩ hd) (U.str I.src q)

/-! ### operators -/
/-- the values of two expressions -/
theorem two {t : R2} {R : D → D → (D → Prop) → Prop} {σ : L2.St} {H : Hp} {Q' : VK} (I : StOk G ρ σ H) (U : Up G (bs G ρ c) H Q Q') {c1 c2 : Bool}
    (hR : ∀ v u H2 x y, StOk G ρ σ H2 → Rp G.K (bs G ρ c1) H2 v x → Rp G.K (bs G ρ c2) H2 u y → Up G (bs G ρ c) H2 Q Q' → R x y Q → t v u H2 Q')
    (h : DE X G ρ c1 a fun x => DE X G ρ c2 b fun y => R x y Q) : eSem X a σ H fun v H1 => eSem X b σ H1 fun u H2 => t v u H2 Q' :=
  h σ H I _ fun v H1 x k1 s1 r1 h1 => h1 σ H1 (I.kp k1 s1) _ fun u H2 y k2 s2 r2 h2 =>
    hR v u H2 x y (I.kp (k1.trans k2) s2) ((I.kp k1 s1).rp k2 r1) r2 (U.later (k1.trans k2)) h2
def intD (f : Int → Int → Int) (C : Int → Int → Prop) : D → D → (D → Prop) → Prop
  | .int i, .int j, Q => C i j ∧ Q (.int (f i j))
  | _, _, _ => False
theorem de_intop {op : Operator} {f : Int → Int → Int} {C C' : Int → Int → Prop} (ho : OpR X (binaryOp op) (rI C' fun i j => .int (f i j))) (hc : ∀ i j, C i j → C' i j) {c1 c2 : Bool}
    (h : DE X G ρ c1 a fun x => DE X G ρ c2 b fun y => intD f C x y Q) : DE X G ρ c (.BinOp a op b pos) Q := fun σ H I Q' U =>
  sem_of (pe_op ho pe_sem pe_sem) (two I U (fun v u H2 x y I2 r1 r2 U2 h2 => by
    cases r1 <;> first | exact h2.elim | skip
    all_goals (cases r2 <;> first | exact h2.elim | skip)
    exact ⟨_, _, rfl, rfl, hc _ _ h2.1, U2.int I2.src h2.2⟩) h)
/-- + : ints, lists, tuples, texts -/
def addD : D → D → (D → Prop) → Prop
  | .int i, .int j, Q => True ∧ Q (.int (i + j))
  | .lst xs, .lst ys, Q => xs.length + ys.length ≤ 100000 ∧ Q (.lst (xs ++ ys))
  | .tup xs, .tup ys, Q => xs.length + ys.length ≤ 100000 ∧ Q (.tup (xs ++ ys))
  | .str x, .str y, Q => x.length + y.length ≤ 100000 ∧ Q (.str (x ++ y))
  | _, _, _ => False
def rAddAny (K : PySem.W.Frag) : R2 := fun x y H Q => (rI0 fun i j => V.int (i + j)) x y H Q ∨ rCat x y H Q ∨ rCatA K x y H Q ∨ (∃ i j, x = .str i ∧ y = .str j ∧ i.length + j.length ≤ sizeLine ∧ Q (.str (i ++ j)) H)
theorem op_addAny : OpR X (binaryOp .Add) (rAddAny X.K) := op_add.or (op_cat.or (op_catA.or op_add_str))
theorem de_add (hK : X.K = G.K) (h : DE X G ρ c a fun x => DE X G ρ c b fun y => addD x y Q) : DE X G ρ c (.BinOp a .Add b pos) Q := fun σ H I Q' U =>
  sem_of (pe_op op_addAny pe_sem pe_sem) (two I U (fun v u H2 x y I2 r1 r2 U2 h2 => by
    cases x <;> first | exact h2.elim | skip
    all_goals (cases y <;> first | exact h2.elim | skip)
    · cases r1; cases r2
      exact .inl ⟨_, _, rfl, rfl, U2.int I2.src h2.2⟩
    · cases r1; cases r2
      exact .inr (.inr (.inr ⟨_, _, rfl, rfl, line_of h2.1, U2.str I2.src h2.2⟩))
    · obtain ⟨a1, vs, rfl, ha, q1⟩ := r1.tupI
      obtain ⟨a2, us, rfl, hb, q2⟩ := r2.tupI
      rw [← hK] at ha hb
      refine .inr (.inr (.inl ⟨a1, a2, vs, us, rfl, rfl, ha, hb, by rw [q1.length, q2.length]; exact line_of h2.1, fun e => ?_, fun _ e => ?_, fun _ _ => U2.tup I2 (q1.append q2) h2.2⟩))
      · subst e
        cases q1
        exact U2.now I2 r2 h2.2
      · subst e
        cases q2
        refine U2.now I2 r1 ?_
        have := h2.2
        rwa [List.append_nil] at this
    · obtain ⟨a1, vs, rfl, ha, n1, q1⟩ := r1.lstI
      obtain ⟨a2, us, rfl, hb, n2, q2⟩ := r2.lstI
      exact .inr (.inl ⟨a1, a2, vs, us, rfl, rfl, ha, hb, by rw [q1.length, q2.length]; exact line_of h2.1, U2.lst I2 (q1.append q2) h2.2⟩)) h)
theorem de_sub (h : DE X G ρ false a fun x => DE X G ρ false b fun y => intD (· - ·) (fun _ _ => True) x y Q) : DE X G ρ c (.BinOp a .Sub b pos) Q := fun σ H I Q' U =>
  sem_of (pe_op op_sub pe_sem pe_sem) (two I U (fun v u H2 x y I2 r1 r2 U2 h2 => by
    cases r1 <;> first | exact h2.elim | skip
    all_goals (cases r2 <;> first | exact h2.elim | skip)
    exact ⟨_, _, rfl, rfl, U2.int I2.src h2.2⟩) h)
/-- a product: one factor small, or both below 2 ^ 100000 -/
def CMulD (i j : Int) : Prop := CMul i j ∨ (i.natAbs < 2 ^ 100000 ∧ j.natAbs < 2 ^ 100000)
theorem CMulD.ok {i j : Int} (h : CMulD i j) : IntMulOk i j := by
  rcases h with h | ⟨h1, h2⟩
  · exact h.ok
  · exact (wide_mul (a := 100000) (b := 100000) h1 h2 (by decide) (by decide) (by decide)).ok
theorem op_mulD : OpR X (binaryOp .Mult) (rI CMulD fun i j => .int (i * j)) := opI fun _ _ _ _ _ _ _ hc q => mul_int q hc.ok
/-- * : ints; a list so often -/
def mulD : D → D → (D → Prop) → Prop
  | .int i, .int j, Q => CMulD i j ∧ Q (.int (i * j))
  | .lst xs, .int k, Q => (-(2 ^ 63) ≤ k ∧ k < 2 ^ 63 ∧ xs.length * k.toNat ≤ 100000) ∧ Q (.lst (List.replicate k.toNat xs).flatten)
  | _, _, _ => False
theorem RpAll.rep {K : PySem.W.Frag} {O : List Addr} {H : Hp} {vs : List V} {ds : List D} (r : RpAll K O H vs ds) : ∀ n, RpAll K O H (List.replicate n vs).flatten (List.replicate n ds).flatten
  | 0 => .nil
  | n + 1 => by
    rw [List.replicate_succ, List.replicate_succ, List.flatten_cons, List.flatten_cons]
    exact r.append (RpAll.rep r n)
def rMulAny : R2 := fun x y H Q => (rI CMulD fun i j => V.int (i * j)) x y H Q ∨ rRep x y H Q
theorem op_mulAny : OpR X (binaryOp .Mult) rMulAny := op_mulD.or op_rep
theorem de_mul (h : DE X G ρ c a fun x => DE X G ρ c b fun y => mulD x y Q) : DE X G ρ c (.BinOp a .Mult b pos) Q := fun σ H I Q' U =>
  sem_of (pe_op op_mulAny pe_sem pe_sem) (two I U (fun v u H2 x y I2 r1 r2 U2 h2 => by
    cases x <;> first | exact h2.elim | skip
    all_goals (cases y <;> first | exact h2.elim | skip)
    · cases r1; cases r2
      exact .inl ⟨_, _, rfl, rfl, h2.1, U2.int I2.src h2.2⟩
    · obtain ⟨a1, vs, rfl, ha, n1, q1⟩ := r1.lstI
      cases r2
      exact .inr ⟨a1, _, vs, rfl, rfl, ha, h2.1.1, h2.1.2.1, by rw [q1.length]; exact line_of h2.1.2.2, U2.lst I2 (q1.rep _) h2.2⟩) h)
/-- // and % by a number above 0 -/
def CDivD (_ j : Int) : Prop := 0 < j ∧ j.natAbs < 2 ^ 8000
theorem op_divD : OpR X (binaryOp .FloorDiv) (rI CDivD fun i j => .int (i / j)) := opI fun i j _ _ _ _ _ hc q => by
  have h1 : (0 : Int) < j := hc.1
  exact floordiv_int (by omega) (by rw [Int.fdiv_eq_ediv_of_nonneg i (by omega)]; exact q) (.inl (PyProof.noPylong_of_log2 (wide_div (b := 8000) (i := i) hc.1 hc.2 (by decide) (by decide)).2))
theorem de_div (h : DE X G ρ false a fun x => DE X G ρ false b fun y => intD (· / ·) CDivD x y Q) : DE X G ρ c (.BinOp a .FloorDiv b pos) Q := de_intop op_divD (fun _ _ h => h) h
theorem de_mod (h : DE X G ρ false a fun x => DE X G ρ false b fun y => intD (· % ·) (fun _ j => 0 < j) x y Q) : DE X G ρ c (.BinOp a .Mod b pos) Q := de_intop op_mod (fun _ _ h => h) h
/-- // by any number but 0 -/
def CDivN' (_ j : Int) : Prop := j ≠ 0 ∧ j.natAbs < 2 ^ 8000
theorem op_divN' : OpR X (binaryOp .FloorDiv) (rI CDivN' fun i j => .int (i.fdiv j)) := opI fun i j _ _ _ _ _ hc q =>
  floordiv_int hc.1 q (.inl (PyProof.noPylong_of_log2 (Nat.lt_of_lt_of_le (PySem.Flt.log2_lt_of (by decide) hc.2) (by decide))))
theorem de_divN (h : DE X G ρ false a fun x => DE X G ρ false b fun y => intD Int.fdiv CDivN' x y Q) : DE X G ρ c (.BinOp a .FloorDiv b pos) Q := de_intop op_divN' (fun _ _ h => h) h
theorem de_modN (h : DE X G ρ false a fun x => DE X G ρ false b fun y => intD Int.fmod (fun _ j => j ≠ 0) x y Q) : DE X G ρ c (.BinOp a .Mod b pos) Q := de_intop op_modN (fun _ _ h => h) h
theorem de_pow (h : DE X G ρ false a fun x => DE X G ρ false b fun y => intD (fun i j => i ^ j.toNat) CPow x y Q) : DE X G ρ c (.BinOp a .Pow b pos) Q := de_intop op_pow (fun _ _ h => h) h
def negD : D → (D → Prop) → Prop
  | .int i, Q => Q (.int (-i))
  | _, _ => False
theorem de_neg (h : DE X G ρ false a fun x => negD x Q) : DE X G ρ c (.UnaryOp .USub a pos) Q := fun σ H I Q' U =>
  sem_of (pe_un un_neg pe_sem) (h σ H I _ fun v H1 x k1 s1 r1 h1 => by
    cases x <;> first | exact False.elim h1 | skip
    cases r1
    exact ⟨_, rfl, (U.later k1).int s1 h1⟩)

/-! ### comparisons -/
def cmpD (p : Int → Int → Bool) : D → D → (D → Prop) → Prop
  | .int i, .int j, Q => Q (.bl (p i j))
  | _, _, _ => False
theorem de_icmp {op : CmpOp} {p : Int → Int → Bool} (ho : OpR X (compareOp op) (rI0 fun i j => .bl (p i j))) (hm : behindInMarks op b = false)
    (h : DE X G ρ false a fun x => DE X G ρ false b fun y => cmpD p x y Q) : DE X G ρ c (.Compare a [op] [b] pos) Q := fun σ H I Q' U =>
  sem_of (pe_cmpR ho pe_sem pe_sem hm) (two I U (fun v u H2 x y I2 r1 r2 U2 h2 => by
    cases r1 <;> first | exact h2.elim | skip
    all_goals (cases r2 <;> first | exact h2.elim | skip)
    exact ⟨_, _, rfl, rfl, U2.bl I2.src h2⟩) h)
theorem de_lt (h : DE X G ρ false a fun x => DE X G ρ false b fun y => cmpD (fun i j => decide (i < j)) x y Q) : DE X G ρ c (.Compare a [.Lt] [b] pos) Q := de_icmp op_lt (nomark _) h
theorem de_le (h : DE X G ρ false a fun x => DE X G ρ false b fun y => cmpD (fun i j => decide (i ≤ j)) x y Q) : DE X G ρ c (.Compare a [.LtE] [b] pos) Q := de_icmp op_le (nomark _) h
theorem de_gt (h : DE X G ρ false a fun x => DE X G ρ false b fun y => cmpD (fun i j => decide (j < i)) x y Q) : DE X G ρ c (.Compare a [.Gt] [b] pos) Q := de_icmp op_gt (nomark _) h
theorem de_ge (h : DE X G ρ false a fun x => DE X G ρ false b fun y => cmpD (fun i j => decide (j ≤ i)) x y Q) : DE X G ρ c (.Compare a [.GtE] [b] pos) Q := de_icmp op_ge (nomark _) h

end
end Dw

/-! equality, repr, membership, calls of built-ins -/
namespace Dw
open PySem PySem.Spec PyProof.Rows L2

mutual
/-- data as the library's data -/
def D.py : D → PyData
  | .non => .none
  | .bl b => .bool b
  | .int i => .int i
  | .str x => .str x
  | .tup xs => .tuple (pyAll xs)
  | .lst xs => .list (pyAll xs)
  | .dic _ => .none
  | .ref _ => .none
def pyAll : List D → List PyData
  | [] => []
  | x :: xs => D.py x :: pyAll xs
end
mutual
/-- data without references and dicts, at most n deep -/
def flat : Nat → D → Bool
  | _, .non => true
  | _, .bl _ => true
  | _, .int _ => true
  | _, .str x => PyData.strOk x
  | 0, .tup _ => false
  | 0, .lst _ => false
  | n + 1, .tup xs => flatAll n xs
  | n + 1, .lst xs => flatAll n xs
  | _, .dic _ => false
  | _, .ref _ => false
def flatAll : Nat → List D → Bool
  | _, [] => true
  | n, x :: xs => flat n x && flatAll n xs
end
theorem flatAll_cons {n : Nat} {x : D} {xs : List D} : flatAll n (x :: xs) = (flat n x && flatAll n xs) := by cases n <;> simp [flatAll]
theorem flatAll_nil {n : Nat} : flatAll n [] = true := by cases n <;> simp [flatAll]
mutual
theorem flat_dp {K : PySem.W.Frag} {O : List Addr} {H : Hp} : ∀ {n : Nat} {d : D} {v : V}, flat n d = true → Rp K O H v d → Dp K H v d.py
  | n, .non, v, f, r => by cases r; simp only [D.py]; exact .non
  | n, .bl b, v, f, r => by cases r; simp only [D.py]; exact .bl b
  | n, .int i, v, f, r => by cases r; simp only [D.py]; exact .int i
  | n, .str x, v, f, r => by cases r; simp only [D.py]; exact .str x
  | 0, .tup xs, v, f, r => by simp [flat] at f
  | 0, .lst xs, v, f, r => by simp [flat] at f
  | n + 1, .tup xs, v, f, r => by
    simp only [flat] at f
    simp only [D.py]
    cases r with
    | tup h _ q => exact .tup (.of h) (flat_dpAll f q)
    | tupK h q => exact .tup (h _) (flat_dpAll f q)
  | n + 1, .lst xs, v, f, r => by
    simp only [flat] at f
    simp only [D.py]
    cases r with
    | lst h _ q => exact .lst (.of h) (flat_dpAll f q)
  | n, .dic _, v, f, r => by simp [flat] at f
  | n, .ref _, v, f, r => by simp [flat] at f
theorem flat_dpAll {K : PySem.W.Frag} {O : List Addr} {H : Hp} : ∀ {n : Nat} {ds : List D} {vs : List V}, flatAll n ds = true → RpAll K O H vs ds → DpAll K H vs (pyAll ds)
  | n, [], vs, f, r => by cases r; simp only [pyAll]; exact .nil
  | n, x :: xs, vs, f, r => by
    rw [flatAll_cons, Bool.and_eq_true] at f
    cases r with
    | cons h q =>
      simp only [pyAll]
      exact .cons (flat_dp f.1 h) (flat_dpAll f.2 q)
end
mutual
theorem flat_can : ∀ {n : Nat} {d : D}, flat n d = true → d.py.canLay0 = true ∧ d.py.depth ≤ n
  | n, .non, f => by simp [D.py, PyData.canLay0, PyData.depth]
  | n, .bl b, f => by simp [D.py, PyData.canLay0, PyData.depth]
  | n, .int i, f => by simp [D.py, PyData.canLay0, PyData.depth]
  | n, .str x, f => by
    have : PyData.strOk x = true := by cases n <;> simpa [flat] using f
    simp [D.py, PyData.canLay0, PyData.depth, this]
  | 0, .tup xs, f => by simp [flat] at f
  | 0, .lst xs, f => by simp [flat] at f
  | n + 1, .tup xs, f => by
    simp only [flat] at f
    have q := flat_canAll f
    simp only [D.py, PyData.canLay0, PyData.depth]
    exact ⟨q.1, by omega⟩
  | n + 1, .lst xs, f => by
    simp only [flat] at f
    have q := flat_canAll f
    simp only [D.py, PyData.canLay0, PyData.depth]
    exact ⟨q.1, by omega⟩
  | n, .dic _, f => by simp [flat] at f
  | n, .ref _, f => by simp [flat] at f
theorem flat_canAll : ∀ {n : Nat} {ds : List D}, flatAll n ds = true → PyData.canLayAll0 (pyAll ds) = true ∧ PyData.depthAll (pyAll ds) ≤ n
  | n, [], f => by simp [pyAll, PyData.canLayAll0, PyData.depthAll]
  | n, x :: xs, f => by
    rw [flatAll_cons, Bool.and_eq_true] at f
    have a := flat_can f.1
    have b := flat_canAll f.2
    simp only [pyAll, PyData.canLayAll0, PyData.depthAll, Bool.and_eq_true]
    exact ⟨⟨a.1, b.1⟩, by omega⟩
end
theorem flat_shaped {d : D} (f : flat 60 d = true) : SeqAt.shaped d.py = true := by
  have q := flat_can f
  unfold SeqAt.shaped
  rw [q.1, Bool.true_and, decide_eq_true_eq]
  omega
/-- Python's == of data -/
def eqD (d e : D) : Bool := PyData.eqv d.py e.py

section
variable {X : Cx} {G : Gx} {ρ : List Sl} {c : Bool} {Q : D → Prop} {e a b : Expr} {es : List Expr} {pos p p2 p3 : Pos}
theorem de_eq (hu : X.A.units + 64 < cLine) (hK : X.K = G.K) (h : DE X G ρ false a fun x => DE X G ρ false b fun y => (flat 60 x = true ∧ flat 60 y = true) ∧ Q (.bl (eqD x y))) : DE X G ρ c (.Compare a [.Eq] [b] pos) Q := fun σ H I Q' U =>
  sem_of (pe_cmpR (op_eqD hu) pe_sem pe_sem (nomark _)) (two I U (fun v u H2 x y I2 r1 r2 U2 h2 =>
    ⟨x.py, y.py, by rw [hK]; exact flat_dp h2.1.1 r1, by rw [hK]; exact flat_dp h2.1.2 r2, flat_shaped h2.1.1, flat_shaped h2.1.2, U2.bl I2.src h2.2⟩) (R := fun x y Q => (flat 60 x = true ∧ flat 60 y = true) ∧ Q (.bl (eqD x y))) h)
theorem de_ne (hu : X.A.units + 64 < cLine) (hK : X.K = G.K) (h : DE X G ρ false a fun x => DE X G ρ false b fun y => (flat 60 x = true ∧ flat 60 y = true) ∧ Q (.bl (!eqD x y))) : DE X G ρ c (.Compare a [.NotEq] [b] pos) Q := fun σ H I Q' U =>
  sem_of (pe_cmpR (op_neD hu) pe_sem pe_sem (nomark _)) (two I U (fun v u H2 x y I2 r1 r2 U2 h2 =>
    ⟨x.py, y.py, by rw [hK]; exact flat_dp h2.1.1 r1, by rw [hK]; exact flat_dp h2.1.2 r2, flat_shaped h2.1.1, flat_shaped h2.1.2, U2.bl I2.src h2.2⟩) (R := fun x y Q => (flat 60 x = true ∧ flat 60 y = true) ∧ Q (.bl (!eqD x y))) h)
/-- x is None; x is True -/
def isD (d e : D) (Q : Bool → Prop) : Prop := match d, e with
  | .non, .non => Q true
  | .bl x, .bl y => Q (decide (x = y))
  | .non, .bl _ => False
  | _, .non => Q false
  | _, _ => False
def rIsAny : R2 := fun x y H Q => (y = .non ∧ Q (.bl (decide (x = .non))) H) ∨ rIsB x y H Q
def rNotAny : R2 := fun x y H Q => (y = .non ∧ Q (.bl (!decide (x = .non))) H) ∨ rNotB x y H Q
theorem op_isAny : OpR X (compareOp .Is) rIsAny := op_isN.or op_isBl
theorem op_notAny : OpR X (compareOp .IsNot) rNotAny := op_notN.or op_notBl
theorem isD_of {K : PySem.W.Frag} {O : List Addr} {H : Hp} {v u : V} {x y : D} {P : Bool → Prop} (r1 : Rp K O H v x) (r2 : Rp K O H u y) (h : isD x y P) : (u = .non ∧ P (decide (v = .non))) ∨ ∃ a b, v = .bl a ∧ u = .bl b ∧ P (decide (a = b)) := by
  cases r1 <;> cases r2 <;> first | exact False.elim h | exact .inl ⟨rfl, h⟩ | exact .inr ⟨_, _, rfl, rfl, h⟩
theorem de_is (h : DE X G ρ false a fun x => DE X G ρ false b fun y => isD x y fun k => Q (.bl k)) : DE X G ρ c (.Compare a [.Is] [b] pos) Q := fun σ H I Q' U =>
  sem_of (pe_cmpR op_isAny pe_sem pe_sem (nomark _)) (two (t := rIsAny) (R := fun x y Q => isD x y fun k => Q (.bl k)) I U (fun v u H2 x y I2 r1 r2 U2 h2 => by
    rcases isD_of r1 r2 h2 with ⟨e, q⟩ | ⟨a, b, e1, e2, q⟩
    · exact .inl ⟨e, U2.bl I2.src q⟩
    · exact .inr ⟨a, b, e1, e2, U2.bl I2.src q⟩) h)
theorem de_isnot (h : DE X G ρ false a fun x => DE X G ρ false b fun y => isD x y fun k => Q (.bl (!k))) : DE X G ρ c (.Compare a [.IsNot] [b] pos) Q := fun σ H I Q' U =>
  sem_of (pe_cmpR op_notAny pe_sem pe_sem (nomark _)) (two (t := rNotAny) (R := fun x y Q => isD x y fun k => Q (.bl (!k))) I U (fun v u H2 x y I2 r1 r2 U2 h2 => by
    rcases isD_of r1 r2 h2 with ⟨e, q⟩ | ⟨a, b, e1, e2, q⟩
    · exact .inl ⟨e, U2.bl I2.src q⟩
    · exact .inr ⟨a, b, e1, e2, U2.bl I2.src q⟩) h)
/-- whether a number is in a list or tuple of numbers -/
def inD : D → D → (Bool → Prop) → Prop
  | .int i, .lst xs, Q => ∃ ns : List Int, xs = ns.map D.int ∧ Q (decide (i ∈ ns))
  | .int i, .tup xs, Q => ∃ ns : List Int, xs = ns.map D.int ∧ Q (decide (i ∈ ns))
  | _, _, _ => False
theorem inV_ints (i : Int) : ∀ ns : List Int, inV (.int i) (ns.map V.int) = decide (i ∈ ns)
  | [] => rfl
  | n :: r => by
    have ih := inV_ints i r
    unfold inV at ih ⊢
    rw [List.map_cons, List.any_cons, ih]
    have : eqV (V.int n) (V.int i) = (n == i) := rfl
    rw [this]
    by_cases e : n = i
    · subst e; simp
    · have e2 : ¬ i = n := fun q => e q.symm
      simp [e, e2]
theorem flatV_ints (ns : List Int) : (ns.map V.int).all flatV = true := by
  rw [List.all_eq_true]
  intro x hx
  obtain ⟨i, _, rfl⟩ := List.mem_map.mp hx
  rfl
theorem de_inX {op : CmpOp} {neg : Bool} (hop : OpR X (compareOp op) (rIn X.K neg)) (hK : X.K = G.K) (hm : behindInMarks op b = false) (h : DE X G ρ false a fun x => DE X G ρ false b fun y => inD x y fun k => Q (.bl (if neg then !k else k))) : DE X G ρ c (.Compare a [op] [b] pos) Q := fun σ H I Q' U =>
  sem_of (pe_cmpR hop pe_sem pe_sem hm) (two (R := fun x y Q => inD x y fun k => Q (.bl (if neg then !k else k))) I U (fun v u H2 x y I2 r1 r2 U2 h2 => by
    cases r1 <;> first | exact False.elim h2 | skip
    rename_i i
    cases y <;> first | exact False.elim h2 | skip
    · obtain ⟨ns, rfl, q⟩ := h2
      obtain ⟨a2, us, rfl, hb, q2⟩ := r2.tupI
      have e := q2.ints_inv
      subst e
      rw [← hK] at hb
      exact ⟨a2, _, rfl, .inr hb, rfl, flatV_ints ns, by rw [inV_ints]; exact U2.bl I2.src q⟩
    · obtain ⟨ns, rfl, q⟩ := h2
      obtain ⟨a2, us, rfl, hb, _, q2⟩ := r2.lstI
      have e := q2.ints_inv
      subst e
      exact ⟨a2, _, rfl, .inl (.of hb), rfl, flatV_ints ns, by rw [inV_ints]; exact U2.bl I2.src q⟩) h)
theorem de_in (hK : X.K = G.K) (h : DE X G ρ false a fun x => DE X G ρ false b fun y => inD x y fun k => Q (.bl k)) (hm : behindInMarks .In b = false := by rfl) : DE X G ρ c (.Compare a [.In] [b] pos) Q := de_inX op_in_seq hK hm h
theorem de_notin (hK : X.K = G.K) (h : DE X G ρ false a fun x => DE X G ρ false b fun y => inD x y fun k => Q (.bl (!k))) (hm : behindInMarks .NotIn b = false := by rfl) : DE X G ρ c (.Compare a [.NotIn] [b] pos) Q := de_inX op_notIn_seq hK hm h
/-- whether a number, a text is a key -/
def keyD : D → Option Key
  | .int i => some (.inl i)
  | .str x => some (.inr x)
  | _ => none
def valD (es : List (Key × D)) (k : Key) : Option D := (es.find? fun p => decide (p.1 = k)).map (·.2)

/-! ### tests -/
def truD : D → (Bool → Prop) → Prop
  | .non, Q => Q false
  | .bl b, Q => Q b
  | .int i, Q => Q (i != 0)
  | .lst xs, Q => Q (!xs.isEmpty)
  | .tup xs, Q => Q (!xs.isEmpty)
  | _, _ => False
theorem isEmpty_len {α β : Type} {xs : List α} {ys : List β} (h : xs.length = ys.length) : xs.isEmpty = ys.isEmpty := by
  cases xs <;> cases ys <;> simp_all
theorem tru_of {H : Hp} {O : List Addr} {v : V} {d : D} {P : Bool → Prop} (hK : X.K = G.K) (r : Rp G.K O H v d) (h : truD d P) : ∃ k, TruV X.K v H k ∧ P k := by
  cases d <;> first | exact h.elim | skip
  · cases r; exact ⟨_, rfl, h⟩
  · cases r; exact ⟨_, rfl, h⟩
  · cases r; exact ⟨_, rfl, h⟩
  · obtain ⟨a, vs, rfl, ha, q⟩ := r.tupI
    rw [← hK] at ha
    exact ⟨_, .inr (.inl ⟨vs, ha, by rw [isEmpty_len q.length]⟩), h⟩
  · obtain ⟨a, vs, rfl, ha, _, q⟩ := r.lstI
    exact ⟨_, .inl ⟨vs, .of ha, by rw [isEmpty_len q.length]⟩, h⟩
theorem dt_of {Q : Bool → Prop} (hK : X.K = G.K) (h : DE X G ρ false e fun d => truD d Q) (he : ∀ whole, isTrue e X.env whole = (do let v ← whole; standAt e.pos; holding [v] (truthy v)) := by intro _; rfl) : DT X G ρ e Q := fun σ H I Q' U =>
  tsem_of (pt_truth pe_sem he) (h σ H I _ fun v H1 d k s r q => by
    obtain ⟨k', t, q'⟩ := tru_of hK r q
    exact ⟨k', t, U k' H1 k s q'⟩)
theorem DT.imp {Q0 Q : Bool → Prop} (h : DT X G ρ e Q0) (i : ∀ b, Q0 b → Q b) : DT X G ρ e Q := fun σ H I Q' U => h σ H I Q' fun b H' k s q => U b H' k s (i b q)
theorem dt_not {Q : Bool → Prop} (h : DT X G ρ a fun b => Q (!b)) : DT X G ρ (.UnaryOp .Not a pos) Q := fun σ H I Q' U =>
  tsem_of (pt_not pt_sem) (h σ H I _ fun b H1 k s q => U _ H1 k s q)
/-- a and b, a or b, joined -/
theorem dw_and1 {Q : Bool → Prop} (h : DT X G ρ a Q) : DW X G ρ (.BoolOp .And [a] pos) Q := fun σ H I Q' U => wsem_of (pw_and1 pt_sem) (h σ H I Q' U)
theorem dw_or1 {Q : Bool → Prop} (h : DT X G ρ a Q) : DW X G ρ (.BoolOp .Or [a] pos) Q := fun σ H I Q' U => wsem_of (pw_or1 pt_sem) (h σ H I Q' U)
theorem dw_and {Q : Bool → Prop} {rest : List Expr} (h : DT X G ρ a fun x => ∃ y, (x = true → DW X G ρ (.BoolOp .And (b :: rest) pos) fun z => z = y) ∧ Q (x && y)) : DW X G ρ (.BoolOp .And (a :: b :: rest) pos) Q := fun σ H I Q' U =>
  wsem_of (pw_and pt_sem pw_sem) (h σ H I _ fun x H1 k s q => by
    obtain ⟨y, h2, q⟩ := q
    cases x with
    | false => exact U _ H1 k s q
    | true => exact h2 rfl σ H1 (I.kp k s) _ fun z H2 k2 s2 e => U z H2 (k.trans k2) s2 (by rw [e]; exact q))
theorem dw_or {Q : Bool → Prop} {rest : List Expr} (h : DT X G ρ a fun x => ∃ y, (x = false → DW X G ρ (.BoolOp .Or (b :: rest) pos) fun z => z = y) ∧ Q (x || y)) : DW X G ρ (.BoolOp .Or (a :: b :: rest) pos) Q := fun σ H I Q' U =>
  wsem_of (pw_or pt_sem pw_sem) (h σ H I _ fun x H1 k s q => by
    obtain ⟨y, h2, q⟩ := q
    cases x with
    | true => exact U _ H1 k s q
    | false => exact h2 rfl σ H1 (I.kp k s) _ fun z H2 k2 s2 e => U z H2 (k.trans k2) s2 (by rw [e]; exact q))
/-- .. with the ways apart -/
theorem dw_andS {Q : Bool → Prop} {rest : List Expr} (h : DT X G ρ a fun x => if x = true then DW X G ρ (.BoolOp .And (b :: rest) pos) Q else Q false) : DW X G ρ (.BoolOp .And (a :: b :: rest) pos) Q := fun σ H I Q' U =>
  wsem_of (pw_and pt_sem pw_sem) (h σ H I _ fun x H1 k s q => by
    cases x with
    | false => exact U _ H1 k s q
    | true => exact q σ H1 (I.kp k s) _ (UpT.later U k))
theorem dw_orS {Q : Bool → Prop} {rest : List Expr} (h : DT X G ρ a fun x => if x = true then Q true else DW X G ρ (.BoolOp .Or (b :: rest) pos) Q) : DW X G ρ (.BoolOp .Or (a :: b :: rest) pos) Q := fun σ H I Q' U =>
  wsem_of (pw_or pt_sem pw_sem) (h σ H I _ fun x H1 k s q => by
    cases x with
    | true => exact U _ H1 k s q
    | false => exact q σ H1 (I.kp k s) _ (UpT.later U k))
theorem dt_w {Q : Bool → Prop} (h : DW X G ρ e Q) : DT X G ρ e Q := fun σ H I Q' U => tsem_of (PW.pt pw_sem) (h σ H I Q' U)
/-- values of truth: a and b, a or b, not a -/
def blD : D → (Bool → Prop) → Prop
  | .bl b, Q => Q b
  | _, _ => False
theorem de_one {op} (h : DE X G ρ c a Q) : DE X G ρ c (.BoolOp op [a] pos) Q := fun σ H I Q' U => sem_of (pe_one pe_sem) (h σ H I Q' U)
theorem de_and {rest : List Expr} (h : DE X G ρ false a fun d => blD d fun x => ∃ y, (x = true → DE X G ρ c (.BoolOp .And (b :: rest) pos) fun z => z = .bl y) ∧ Q (.bl (x && y))) : DE X G ρ c (.BoolOp .And (a :: b :: rest) pos) Q := fun σ H I Q' U =>
  sem_of (L2.pe_and pe_sem pe_sem) (h σ H I _ fun v H1 d k s r q => by
    cases r <;> first | exact q.elim | skip
    rename_i x
    obtain ⟨y, h2, q⟩ := q
    refine ⟨x, rfl, ?_⟩
    cases x with
    | false => exact (U.later k).bl s q
    | true => exact h2 rfl σ H1 (I.kp k s) _ fun z H2 d2 k2 s2 r2 e => U z H2 d2 (k.trans k2) s2 r2 (by rw [e]; exact q))
theorem de_or {rest : List Expr} (h : DE X G ρ false a fun d => blD d fun x => ∃ y, (x = false → DE X G ρ c (.BoolOp .Or (b :: rest) pos) fun z => z = .bl y) ∧ Q (.bl (x || y))) : DE X G ρ c (.BoolOp .Or (a :: b :: rest) pos) Q := fun σ H I Q' U =>
  sem_of (L2.pe_or pe_sem pe_sem) (h σ H I _ fun v H1 d k s r q => by
    cases r <;> first | exact q.elim | skip
    rename_i x
    obtain ⟨y, h2, q⟩ := q
    refine ⟨x, rfl, ?_⟩
    cases x with
    | true => exact (U.later k).bl s q
    | false => exact h2 rfl σ H1 (I.kp k s) _ fun z H2 d2 k2 s2 r2 e => U z H2 d2 (k.trans k2) s2 r2 (by rw [e]; exact q))
theorem de_not (h : DE X G ρ false a fun d => blD d fun x => Q (.bl (!x))) : DE X G ρ c (.UnaryOp .Not a pos) Q := fun σ H I Q' U =>
  sem_of (pe_not pe_sem) (h σ H I _ fun v H1 d k s r q => by
    cases r <;> first | exact q.elim | skip
    exact ⟨_, rfl, (U.later k).bl s q⟩)
/-- a if t else b, the ways apart | joined -/
theorem de_if {t : Expr} (h : DT X G ρ t fun x => if x = true then DE X G ρ c a Q else DE X G ρ c b Q) : DE X G ρ c (.IfExp t a b pos) Q := fun σ H I Q' U =>
  sem_of (pe_ifExp pt_sem pe_sem pe_sem) (h σ H I _ fun x H1 k s q => by
    cases x with
    | true => exact q σ H1 (I.kp k s) _ (U.later k)
    | false => exact q σ H1 (I.kp k s) _ (U.later k))
theorem de_ifJ {t : Expr} (h : DT X G ρ t fun x => ∃ d1 d2, (x = true → DE X G ρ c a fun z => z = d1) ∧ (x = false → DE X G ρ c b fun z => z = d2) ∧ Q (if x = true then d1 else d2)) : DE X G ρ c (.IfExp t a b pos) Q := fun σ H I Q' U =>
  sem_of (pe_ifExp pt_sem pe_sem pe_sem) (h σ H I _ fun x H1 k s q => by
    obtain ⟨d1, d2, h1, h2, q⟩ := q
    cases x with
    | true => exact h1 rfl σ H1 (I.kp k s) _ fun z H2 d k2 s2 r2 e => U z H2 d (k.trans k2) s2 r2 (by rw [e]; exact q)
    | false => exact h2 rfl σ H1 (I.kp k s) _ fun z H2 d k2 s2 r2 e => U z H2 d (k.trans k2) s2 r2 (by rw [e]; exact q))

/-! ### arguments, displays -/
theorem da_nil {Q : List D → Prop} (q : Q []) : DA X G ρ c [] Q := fun σ H I Q' U => asem_of pa_nil (U _ H _ (Kp.refl _ _ _) I.src .nil q)
theorem da_cons {Q : List D → Prop} (h : DE X G ρ c e fun x => DA X G ρ c es fun xs => Q (x :: xs)) (hs : starEach (e :: es) X.env = (false, eval e X.env) :: starEach es X.env := by rfl) : DA X G ρ c (e :: es) Q := fun σ H I Q' U =>
  asem_of (pa_cons pe_sem pa_sem hs) (h σ H I _ fun v H1 x k s r q => q σ H1 (I.kp k s) _ fun vs H2 ds k2 s2 r2 q2 =>
    U (v :: vs) H2 (x :: ds) (k.trans k2) s2 (.cons ((I.kp k s).rp k2 r) r2) q2)
theorem de_tup {x1} (h : DA X G ρ c es fun ds => ds.length ≤ 100000 ∧ Q (.tup ds)) : DE X G ρ c (.Tuple es x1 pos) Q := fun σ H I Q' U =>
  sem_of (L2.pe_tup pa_sem) (h σ H I _ fun vs H1 ds k s r q => ⟨by rw [r.length]; exact line_of q.1, (U.later k).tup (I.kp k s) r q.2⟩)
theorem de_lst (h : DA X G ρ c es fun ds => ds.length ≤ 100000 ∧ Q (.lst ds)) : DE X G ρ c (.List es pos) Q := fun σ H I Q' U =>
  sem_of (L2.pe_lst pa_sem) (h σ H I _ fun vs H1 ds k s r q => ⟨by rw [r.length]; exact line_of q.1, (U.later k).lst (I.kp k s) r q.2⟩)
/-- a new list for a name of the def's own -/
theorem Kp.back {Θ : List (Addr × Str)} {S : Option (Addr × Addr)} {H H1 : Hp} {p : Addr} (k : Kp Θ S H H1) (s : SrcOk S H1) (hp : H1 p = none) : H p = none := by
  cases e : H p with
  | none => rfl
  | some o =>
    have hS : ∀ a c, S = some (a, c) → p ≠ a ∧ p ≠ c := fun a c e2 => by
      obtain ⟨_, _, _, _, e3, e4, _⟩ := s a c e2
      refine ⟨fun z => ?_, fun z => ?_⟩
      · rw [z, e3] at hp; cases hp
      · rw [z, e4] at hp; cases hp
    obtain ⟨u, e2⟩ := k.has p o e
    rw [e2] at hp
    cases hp
theorem UpF.lst {Q : List D → Prop} {Q' : VK} {O : List Addr} {H H1 : Hp} (U : UpF G O H Q Q') (k : Kp G.T G.S H H1) (s : SrcOk G.S H1) {vs : List V} {ds : List D} (r : RpAll G.K O H1 vs ds) (q : Q ds) : ∀ p, H1 p = none → Q' (.ref p) (upd H1 p (.lst vs)) :=
  fun p hp => U p vs _ ds (k.trans (Kp.new hp)) (s.new hp) (k.back s hp) upd_same (r.mv (mv_fresh hp)) q
theorem df_lst {Q : List D → Prop} (h : DA X G ρ true es fun ds => ds.length ≤ 100000 ∧ Q ds) : DF X G ρ (.List es pos) Q := fun σ H I Q' U =>
  sem_of (L2.pe_lst pa_sem) (h σ H I _ fun vs H1 ds k s r q => ⟨by rw [r.length]; exact line_of q.1, U.lst k s r q.2⟩)
end
end Dw

/-! calls of built-ins, subscripts, slices -/
namespace Dw
open PySem PySem.Spec PyProof.Rows L2

/-- the ints a .. b - 1 -/
def rg (a b : Int) : List Int := (List.range (b - a).toNat).map fun i => a + (i : Nat)
theorem rgV_eq (a b : Int) : rgV a b = (rg a b).map V.int := by
  unfold rgV rg
  rw [List.map_map]
  rfl

section
variable {X : Cx} {G : Gx} {ρ : List Sl} {c : Bool} {Q : D → Prop} {e a b : Expr} {es : List Expr} {pos p p2 p3 : Pos}

/-- a built-in of arguments -/
theorem de_callB {id : String} {x : Str} {r : List V → Hp → VK → Prop} {R : List D → (D → Prop) → Prop} {c1 : Bool} (hc : CallR X (.builtin id) r) (hm : X.mg x = none) (hv : bootBuiltins x = some (.builtin id))
    (hR : ∀ vs σ H ds Q', StOk G ρ σ H → RpAll G.K (bs G ρ c1) H vs ds → Up G (bs G ρ c) H Q Q' → R ds Q → r vs H Q') (h : DA X G ρ c1 (e :: es) fun ds => R ds Q) (hg : Gl X x := by rfl)
    (hn : x ≠ "__name__" := by decide) (hdb : (x == ("__debug__" : Str)) = false := by decide)
    (he : starEach (e :: es) X.env = (false, eval e X.env) :: starEach es X.env := by rfl) (hpl : (backTo pos (starEach es X.env)).any (·.1) = false := by rfl) : DE X G ρ c (.Call (.Name x p) (e :: es) [] pos) Q := fun σ H I Q' U =>
  sem_of (pe_callB hc hg hm hv pa_sem hn hdb he hpl) (h σ H I _ fun vs H1 ds k s r' q => hR vs σ H1 ds Q' (I.kp k s) r' (U.later k) q)
theorem de_callTy {T : String} {x : Str} {r : List V → Hp → VK → Prop} {R : List D → (D → Prop) → Prop} {c1 : Bool} (hc : CallR X (.type T) r) (hm : X.mg x = none) (hv : bootBuiltins x = some (.type T))
    (hR : ∀ vs σ H ds Q', StOk G ρ σ H → RpAll G.K (bs G ρ c1) H vs ds → Up G (bs G ρ c) H Q Q' → R ds Q → r vs H Q') (h : DA X G ρ c1 (e :: es) fun ds => R ds Q) (hg : Gl X x := by rfl)
    (hn : x ≠ "__name__" := by decide) (hdb : (x == ("__debug__" : Str)) = false := by decide)
    (he : starEach (e :: es) X.env = (false, eval e X.env) :: starEach es X.env := by rfl) (hpl : (backTo pos (starEach es X.env)).any (·.1) = false := by rfl) : DE X G ρ c (.Call (.Name x p) (e :: es) [] pos) Q := fun σ H I Q' U =>
  sem_of (L2.pe_callTy hc hg hm hv pa_sem hn hdb he hpl) (h σ H I _ fun vs H1 ds k s r' q => hR vs σ H1 ds Q' (I.kp k s) r' (U.later k) q)

def lenD : List D → (D → Prop) → Prop
  | [.lst xs], Q => True ∧ Q (.int xs.length)
  | [.tup xs], Q => True ∧ Q (.int xs.length)
  | [.str x], Q => x.length ≤ 100000 ∧ Q (.int x.length)
  | _, _ => False
theorem RpAll.oneI {K : PySem.W.Frag} {O : List Addr} {H : Hp} {vs : List V} {d : D} (r : RpAll K O H vs [d]) : ∃ v, vs = [v] ∧ Rp K O H v d := by
  cases r with
  | cons h q => cases q; exact ⟨_, rfl, h⟩
theorem RpAll.twoI {K : PySem.W.Frag} {O : List Addr} {H : Hp} {vs : List V} {d d2 : D} (r : RpAll K O H vs [d, d2]) : ∃ v u, vs = [v, u] ∧ Rp K O H v d ∧ Rp K O H u d2 := by
  cases r with
  | cons h q => cases q with | cons h2 q => cases q; exact ⟨_, _, rfl, h, h2⟩
theorem de_len (hK : X.K = G.K) (hm : X.mg "len" = none) (h : DA X G ρ false [e] fun ds => lenD ds Q) (hg : Gl X "len" := by rfl)
    (he : starEach [e] X.env = (false, eval e X.env) :: starEach [] X.env := by rfl) (hpl : (backTo pos (starEach [] X.env)).any (·.1) = false := by rfl) : DE X G ρ c (.Call (.Name "len" p) [e] [] pos) Q :=
  de_callB call_len hm boot_len (R := lenD) (fun vs σ H ds Q' I r U q => by
    unfold lenD at q
    split at q
    · obtain ⟨v, rfl, r1⟩ := r.oneI
      obtain ⟨a, us, rfl, ha, _, r⟩ := r1.lstI
      exact ⟨_, us.length, rfl, .inl ⟨us, .of ha, rfl⟩, by rw [r.length]; exact U.int I.src q.2⟩
    · obtain ⟨v, rfl, r1⟩ := r.oneI
      obtain ⟨a, us, rfl, ha, r⟩ := r1.tupI
      rw [← hK] at ha
      exact ⟨_, us.length, rfl, .inr ⟨us, ha, rfl⟩, by rw [r.length]; exact U.int I.src q.2⟩
    · obtain ⟨v, rfl, r1⟩ := r.oneI
      cases r1
      exact ⟨_, _, rfl, ⟨line_of q.1, rfl⟩, U.int I.src q.2⟩
    · exact q.elim) h hg (by decide) (by decide) he hpl
def dlenD : List D → (D → Prop) → Prop
  | [.dic es], Q => True ∧ Q (.int es.length)
  | _, _ => False
theorem RpKv.length {K : PySem.W.Frag} {O : List Addr} {H : Hp} : ∀ {kvs : List (Key × V)} {es : List (Key × D)}, RpKv K O H kvs es → kvs.length = es.length
  | _, _, .nil => rfl
  | _, _, .cons _ r => by rw [List.length_cons, List.length_cons, RpKv.length r]
theorem Rp.dicI {K : PySem.W.Frag} {O : List Addr} {H : Hp} {v : V} {es : List (Key × D)} (r : Rp K O H v (.dic es)) : ∃ a kvs, v = .ref a ∧ H a = some (.dK kvs) ∧ a ∉ O ∧ RpKv K O H kvs es := by
  cases r with
  | dic h n r => exact ⟨_, _, rfl, h, n, r⟩
theorem de_lenD (hm : X.mg "len" = none) (h : DA X G ρ false [e] fun ds => dlenD ds Q) (hg : Gl X "len" := by rfl)
    (he : starEach [e] X.env = (false, eval e X.env) :: starEach [] X.env := by rfl) (hpl : (backTo pos (starEach [] X.env)).any (·.1) = false := by rfl) : DE X G ρ c (.Call (.Name "len" p) [e] [] pos) Q :=
  de_callB call_lenD hm boot_len (R := dlenD) (fun vs σ H ds Q' I r U q => by
    unfold dlenD at q
    split at q
    · obtain ⟨v, rfl, r1⟩ := r.oneI
      obtain ⟨a, us, rfl, ha, _, r⟩ := r1.dicI
      exact ⟨_, us, rfl, ha, by rw [r.length]; exact U.int I.src q.2⟩
    · exact q.elim) h hg (by decide) (by decide) he hpl
/-- sum, of a list or tuple of ints -/
def sumD : List D → (D → Prop) → Prop
  | [.lst xs], Q => ∃ ns : List Int, xs = ns.map D.int ∧ Q (.int ns.sum)
  | [.tup xs], Q => ∃ ns : List Int, xs = ns.map D.int ∧ Q (.int ns.sum)
  | _, _ => False
theorem sum_rawT {prog : Program} {w : World} {A : Around} {E : Value → Shared → Prop} {s : Shared} {l : Addr} {its : List Value} {ns : List Int} {Q : Value → Shared → Prop} (hh : A.handled = none) (hl : IsTup s.heap l its.toArray) (hi : IntsAre its ns)
    (h : ∀ h' tk t', (∀ b o, s.heap.get? b = some o → h'.get? b = some o) → Q (.int ns.sum t') { s with heap := h', toks := tk }) : wpAny (model prog w) A (call (.builtin "sum") [.ref l]) Q E s := by
  obtain ⟨xs, e⟩ := hi.allInts.items
  have hn : numsOf (intItems xs).toList = ns := by rw [← e]; exact hi.numsOf
  rw [nums_intItems] at hn
  rw [e] at hl
  refine PySem.W.ktm_sumG hh hl fun h' tk t' hk => ?_
  have := h h' tk t' hk
  rw [preSum_eq, List.take_of_length_le (by simp), hn]; exact this
def rSumA (K : PySem.W.Frag) : List V → Hp → VK → Prop := fun vs H Q => ∃ (a : Addr) (ns : List Int), vs = [V.ref a] ∧ (SqL K H a (ns.map V.int) ∨ SqT K H a (ns.map V.int)) ∧ Q (.int ns.sum) H
theorem cr_sumA (hc : X.calm = true) : CallR X (.builtin "sum") (rSumA X.K) := by
  intro pins s σ H vs us Q I r h
  obtain ⟨a, ns, rfl, hs | hs, q⟩ := h
  · exact cr_sum hc pins s σ H _ us Q I r ⟨a, ns, rfl, hs, q⟩
  · obtain ⟨its, rv, hl, _⟩ := I.tuple hs
    rw [Vals.ref1 r]
    exact sum_rawT (I.ok.hd hc) hl rv.ints fun h' tk t' hk => ⟨.int _, H, I.kept hk, ⟨_, rfl⟩, q⟩
theorem de_sum (hK : X.K = G.K) (hc : X.calm = true) (hm : X.mg "sum" = none) (h : DA X G ρ false [e] fun ds => sumD ds Q) (hg : Gl X "sum" := by rfl)
    (he : starEach [e] X.env = (false, eval e X.env) :: starEach [] X.env := by rfl) (hpl : (backTo pos (starEach [] X.env)).any (·.1) = false := by rfl) : DE X G ρ c (.Call (.Name "sum" p) [e] [] pos) Q :=
  de_callB (cr_sumA hc) hm boot_sum (R := sumD) (fun vs σ H ds Q' I r U q => by
    unfold sumD at q
    split at q
    · obtain ⟨ns, rfl, q⟩ := q
      obtain ⟨v, rfl, r1⟩ := r.oneI
      obtain ⟨a, us, rfl, ha, _, r⟩ := r1.lstI
      have e := r.ints_inv
      subst e
      exact ⟨a, ns, rfl, .inl (.of ha), U.int I.src q⟩
    · obtain ⟨ns, rfl, q⟩ := q
      obtain ⟨v, rfl, r1⟩ := r.oneI
      obtain ⟨a, us, rfl, ha, r⟩ := r1.tupI
      have e := r.ints_inv
      subst e
      rw [← hK] at ha
      exact ⟨a, ns, rfl, .inr ha, U.int I.src q⟩
    · exact q.elim) h hg (by decide) (by decide) he hpl
/-- abs, max and min of two ints, int of an int -/
def absD : List D → (D → Prop) → Prop
  | [.int i], Q => Q (.int (if i < 0 then -i else i))
  | _, _ => False
theorem de_abs (hm : X.mg "abs" = none) (h : DA X G ρ false [e] fun ds => absD ds Q) (hg : Gl X "abs" := by rfl)
    (he : starEach [e] X.env = (false, eval e X.env) :: starEach [] X.env := by rfl) (hpl : (backTo pos (starEach [] X.env)).any (·.1) = false := by rfl) : DE X G ρ c (.Call (.Name "abs" p) [e] [] pos) Q :=
  de_callB call_abs hm boot_abs (R := absD) (fun vs σ H ds Q' I r U q => by
    unfold absD at q
    split at q
    · obtain ⟨v, rfl, r1⟩ := r.oneI
      cases r1
      exact ⟨_, rfl, U.int I.src q⟩
    · exact q.elim) h hg (by decide) (by decide) he hpl
def max2D : List D → (D → Prop) → Prop
  | [.int i, .int j], Q => Q (.int (if j > i then j else i))
  | _, _ => False
def min2D : List D → (D → Prop) → Prop
  | [.int i, .int j], Q => Q (.int (if j < i then j else i))
  | _, _ => False
theorem de_max2 (hc : X.calm = true) (hm : X.mg "max" = none) (h : DA X G ρ false [e, a] fun ds => max2D ds Q) (hg : Gl X "max" := by rfl)
    (he : starEach [e, a] X.env = (false, eval e X.env) :: starEach [a] X.env := by rfl) (hpl : (backTo pos (starEach [a] X.env)).any (·.1) = false := by rfl) : DE X G ρ c (.Call (.Name "max" p) [e, a] [] pos) Q :=
  de_callB (call_max2 hc) hm boot_max (R := max2D) (fun vs σ H ds Q' I r U q => by
    unfold max2D at q
    split at q
    · obtain ⟨v, u, rfl, r1, r2⟩ := r.twoI
      cases r1; cases r2
      exact ⟨_, _, rfl, U.int I.src q⟩
    · exact q.elim) h hg (by decide) (by decide) he hpl
theorem de_min2 (hc : X.calm = true) (hm : X.mg "min" = none) (h : DA X G ρ false [e, a] fun ds => min2D ds Q) (hg : Gl X "min" := by rfl)
    (he : starEach [e, a] X.env = (false, eval e X.env) :: starEach [a] X.env := by rfl) (hpl : (backTo pos (starEach [a] X.env)).any (·.1) = false := by rfl) : DE X G ρ c (.Call (.Name "min" p) [e, a] [] pos) Q :=
  de_callB (call_min2 hc) hm boot_min (R := min2D) (fun vs σ H ds Q' I r U q => by
    unfold min2D at q
    split at q
    · obtain ⟨v, u, rfl, r1, r2⟩ := r.twoI
      cases r1; cases r2
      exact ⟨_, _, rfl, U.int I.src q⟩
    · exact q.elim) h hg (by decide) (by decide) he hpl
def int1D : List D → (D → Prop) → Prop
  | [.int i], Q => Q (.int i)
  | [.bl k], Q => Q (.int (if k then 1 else 0))
  | _, _ => False
theorem de_int1 (hm : X.mg "int" = none) (h : DA X G ρ false [e] fun ds => int1D ds Q) (hg : Gl X "int" := by rfl)
    (he : starEach [e] X.env = (false, eval e X.env) :: starEach [] X.env := by rfl) (hpl : (backTo pos (starEach [] X.env)).any (·.1) = false := by rfl) : DE X G ρ c (.Call (.Name "int" p) [e] [] pos) Q :=
  de_callTy call_int1 hm boot_int (R := int1D) (fun vs σ H ds Q' I r U q => by
    unfold int1D at q
    split at q
    · obtain ⟨v, rfl, r1⟩ := r.oneI
      cases r1
      exact .inl ⟨_, rfl, U.int I.src q⟩
    · obtain ⟨v, rfl, r1⟩ := r.oneI
      cases r1
      exact .inr ⟨_, rfl, U.int I.src q⟩
    · exact q.elim) h hg (by decide) (by decide) he hpl
/-- list(x), tuple(x) of a list or tuple -/
def seqD : D → (List D → Prop) → Prop
  | .lst xs, Q => Q xs
  | .tup xs, Q => Q xs
  | _, _ => False
def seq1D : List D → (List D → Prop) → Prop
  | [d], Q => seqD d Q
  | _, _ => False
theorem RpAll.seqI {K : PySem.W.Frag} {O : List Addr} {H : Hp} {vs : List V} {ds : List D} {P : List D → Prop} (r : RpAll K O H vs ds) (q : seq1D ds P) :
    ∃ a us xs, vs = [.ref a] ∧ ((H a = some (.lst us) ∧ a ∉ O) ∨ (SqT K H a us ∧ ds = [.tup xs])) ∧ RpAll K O H us xs ∧ P xs := by
  unfold seq1D at q
  split at q
  · obtain ⟨v, rfl, r1⟩ := r.oneI
    unfold seqD at q
    split at q
    · obtain ⟨a, us, rfl, ha, n, r⟩ := r1.lstI
      exact ⟨a, us, _, rfl, .inl ⟨ha, n⟩, r, q⟩
    · obtain ⟨a, us, rfl, ha, r⟩ := r1.tupI
      exact ⟨a, us, _, rfl, .inr ⟨ha, rfl⟩, r, q⟩
    · exact q.elim
  · exact q.elim
theorem de_list (hK : X.K = G.K) (hm : X.mg "list" = none) (h : DA X G ρ c [e] fun ds => seq1D ds fun xs => Q (.lst xs)) (hg : Gl X "list" := by rfl)
    (he : starEach [e] X.env = (false, eval e X.env) :: starEach [] X.env := by rfl) (hpl : (backTo pos (starEach [] X.env)).any (·.1) = false := by rfl) : DE X G ρ c (.Call (.Name "list" p) [e] [] pos) Q :=
  de_callTy call_list_of hm boot_list (R := fun ds Q => seq1D ds fun xs => Q (.lst xs)) (fun vs σ H ds Q' I r U q => by
    obtain ⟨a, us, xs, rfl, ha, r, q⟩ := r.seqI q
    refine ⟨a, us, rfl, ?_, U.lst I r q⟩
    rcases ha with ⟨ha, _⟩ | ⟨ha, _⟩
    · exact .inl (.of ha)
    · exact .inr (hK ▸ ha)) h hg (by decide) (by decide) he hpl
theorem df_list {Q : List D → Prop} (hK : X.K = G.K) (hm : X.mg "list" = none) (h : DA X G ρ true [e] fun ds => seq1D ds Q) (hg : Gl X "list" := by rfl)
    (he : starEach [e] X.env = (false, eval e X.env) :: starEach [] X.env := by rfl) (hpl : (backTo pos (starEach [] X.env)).any (·.1) = false := by rfl) : DF X G ρ (.Call (.Name "list" p) [e] [] pos) Q := fun σ H I Q' U =>
  sem_of (L2.pe_callTy call_list_of hg hm boot_list pa_sem (by decide) (by decide) he hpl) (h σ H I _ fun vs H1 ds k s r q => by
    obtain ⟨a, us, xs, rfl, ha, r, q⟩ := r.seqI q
    refine ⟨a, us, rfl, ?_, U.lst k s r q⟩
    rcases ha with ⟨ha, _⟩ | ⟨ha, _⟩
    · exact .inl (.of ha)
    · exact .inr (hK ▸ ha))
theorem de_tuple (hK : X.K = G.K) (hm : X.mg "tuple" = none) {c1 : Bool} (h1 : c1 = false ∨ c1 = c) (h : DA X G ρ c [e] fun ds => seq1D ds fun xs => Q (.tup xs)) (hg : Gl X "tuple" := by rfl)
    (he : starEach [e] X.env = (false, eval e X.env) :: starEach [] X.env := by rfl) (hpl : (backTo pos (starEach [] X.env)).any (·.1) = false := by rfl) : DE X G ρ c (.Call (.Name "tuple" p) [e] [] pos) Q :=
  de_callTy call_tuple_of hm boot_tuple (R := fun ds Q => seq1D ds fun xs => Q (.tup xs)) (fun vs σ H ds Q' I r U q => by
    have r0 := r
    obtain ⟨a, us, xs, rfl, ha, r, q⟩ := r.seqI q
    refine ⟨a, us, rfl, ?_⟩
    rcases ha with ⟨ha, _⟩ | ⟨ha, rfl⟩
    · exact .inl ⟨.of ha, U.tup I r q⟩
    · refine .inr ⟨hK ▸ ha, ?_⟩
      obtain ⟨v, e, r0⟩ := r0.oneI
      cases e
      exact U.now I r0 q) h hg (by decide) (by decide) he hpl
/-- the own list's items as a tuple -/
theorem de_tupleOwn {o : Addr} {ds : List D} {x : Str} (hm : X.mg "tuple" = none) (i : Nat) (ho : ρ[i]? = some (.own o ds)) (q : Q (.tup ds)) (hg : Gl X "tuple" := by rfl) (hN : X.N[i]? = some x := by rfl) (hv : Vis X.env.scope x := by first | exact Or.inl rfl | exact Or.inr (Or.inl rfl) | exact Or.inr (Or.inr rfl))
    (hd : (x == ("__debug__" : Str)) = false := by decide) (hcd : (x == ("__classdict__" : Str)) = false := by decide)
    (he : starEach [.Name x p2] X.env = (false, eval (.Name x p2) X.env) :: starEach [] X.env := by rfl) (hpl : (backTo pos (starEach [] X.env)).any (·.1) = false := by rfl) : DE X G ρ c (.Call (.Name "tuple" p) [.Name x p2] [] pos) Q := fun σ H I Q' U => by
  obtain ⟨y, hy, rfl, vs, hv', r⟩ := I.slot i _ ho
  exact sem_of (L2.pe_callTy call_tuple_of hg hm boot_tuple (pa_cons (pe_var (pos := p2) hN hv hd hcd) pa_nil he) (by decide) (by decide) he hpl) ⟨_, hy, o, vs, rfl, .inl ⟨.of hv', U.tup I (r.mv (mv_sub fun a ha => bs_mem ha)) q⟩⟩
/-- the own list's items as a list -/
theorem de_listOwn {o : Addr} {ds : List D} {x : Str} (hm : X.mg "list" = none) (i : Nat) (ho : ρ[i]? = some (.own o ds)) (q : Q (.lst ds)) (hg : Gl X "list" := by rfl) (hN : X.N[i]? = some x := by rfl) (hv : Vis X.env.scope x := by first | exact Or.inl rfl | exact Or.inr (Or.inl rfl) | exact Or.inr (Or.inr rfl))
    (hd : (x == ("__debug__" : Str)) = false := by decide) (hcd : (x == ("__classdict__" : Str)) = false := by decide)
    (he : starEach [.Name x p2] X.env = (false, eval (.Name x p2) X.env) :: starEach [] X.env := by rfl) (hpl : (backTo pos (starEach [] X.env)).any (·.1) = false := by rfl) : DE X G ρ c (.Call (.Name "list" p) [.Name x p2] [] pos) Q := fun σ H I Q' U => by
  obtain ⟨y, hy, rfl, vs, hv', r⟩ := I.slot i _ ho
  exact sem_of (L2.pe_callTy call_list_of hg hm boot_list (pa_cons (pe_var (pos := p2) hN hv hd hcd) pa_nil he) (by decide) (by decide) he hpl) ⟨_, hy, o, vs, rfl, .inl (.of hv'), U.lst I (r.mv (mv_sub fun a ha => bs_mem ha)) q⟩
/-- range(..) by its ends -/
def DRg (X : Cx) (G : Gx) (ρ : List Sl) (e : Expr) (Q : Int → Int → Prop) : Prop := ∀ σ H, StOk G ρ σ H → ∀ Q' : Int → Int → Hp → Prop, (∀ i j H', Kp G.T G.S H H' → SrcOk G.S H' → Q i j → Q' i j H') →
  ∃ t, PRg X e t ∧ t σ H Q'
def rg1D : D → (Int → Int → Prop) → Prop
  | .int j, Q => Q 0 j
  | _, _ => False
def rg2D : D → D → (Int → Int → Prop) → Prop
  | .int i, .int j, Q => Q i j
  | _, _, _ => False
theorem drg_1 {Q : Int → Int → Prop} (hm : X.mg "range" = none) (h : DE X G ρ false a fun x => rg1D x Q) (hg : Gl X "range" := by rfl) (na : starEach [a] X.env = (false, eval a X.env) :: starEach [] X.env := by rfl) : DRg X G ρ (.Call (.Name "range" p) [a] [] pos) Q := fun σ H I Q' U =>
  ⟨_, prg_1 hg hm pe_sem na, h σ H I _ fun v H1 d k s r q => by
    cases d <;> first | exact False.elim q | skip
    cases r
    exact ⟨_, rfl, U _ _ H1 k s q⟩⟩
theorem drg_2 {Q : Int → Int → Prop} (hm : X.mg "range" = none) (h : DE X G ρ false a fun x => DE X G ρ false b fun y => rg2D x y Q) (hg : Gl X "range" := by rfl) (na : starEach [a, b] X.env = (false, eval a X.env) :: starEach [b] X.env := by rfl)
    (nb : starEach [b] X.env = (false, eval b X.env) :: starEach [] X.env := by rfl) (hp : (backTo pos (starEach [b] X.env)).any (·.1) = false := by rfl) : DRg X G ρ (.Call (.Name "range" p) [a, b] [] pos) Q := fun σ H I Q' U =>
  ⟨_, prg_2 hg hm pe_sem pe_sem na nb hp, h σ H I _ fun v H1 d k s r q => q σ H1 (I.kp k s) _ fun v2 H2 d2 k2 s2 r2 q2 => by
    cases d <;> first | exact False.elim q2 | skip
    cases d2 <;> first | exact False.elim q2 | skip
    cases r; cases r2
    exact ⟨_, _, rfl, rfl, U _ _ H2 (k.trans k2) s2 q2⟩⟩
theorem RpAll.rg {K : PySem.W.Frag} {O : List Addr} {H : Hp} (i j : Int) : RpAll K O H (rgV i j) ((rg i j).map D.int) := by
  rw [rgV_eq]
  exact RpAll.ints _
def SmallRg (i j : Int) : Prop := -100000 ≤ i ∧ i ≤ 100000 ∧ -100000 ≤ j ∧ j ≤ 100000
theorem SmallRg.ok {i j : Int} (h : SmallRg i j) : RgOk i j := ⟨by have := h.1; omega, by have := h.2.1; omega, by have := h.2.2.1; omega, by have := h.2.2.2; omega, by have := h.1; have := h.2.2.2; omega⟩
theorem de_listRg (hc : X.calm = true) (hm : X.mg "list" = none) (h : DRg X G ρ e fun i j => SmallRg i j ∧ Q (.lst ((rg i j).map D.int))) (hg : Gl X "list" := by rfl) (na : starEach [e] X.env = (false, eval e X.env) :: starEach [] X.env := by rfl) : DE X G ρ c (.Call (.Name "list" p) [e] [] pos) Q := fun σ H I Q' U => by
  obtain ⟨t, ht, hq⟩ := h σ H I (fun i j H1 => RgOk i j ∧ ∀ q, H1 q = none → Q' (.ref q) (upd H1 q (.lst (rgV i j)))) fun i j H1 k s q => ⟨q.1.ok, (U.later k).lst (I.kp k s) (RpAll.rg i j) q.2⟩
  exact sem_of (pe_listRg hc hg hm ht na) hq
theorem df_listRg {Q : List D → Prop} (hc : X.calm = true) (hm : X.mg "list" = none) (h : DRg X G ρ e fun i j => SmallRg i j ∧ Q ((rg i j).map D.int)) (hg : Gl X "list" := by rfl) (na : starEach [e] X.env = (false, eval e X.env) :: starEach [] X.env := by rfl) : DF X G ρ (.Call (.Name "list" p) [e] [] pos) Q := fun σ H I Q' U => by
  obtain ⟨t, ht, hq⟩ := h σ H I (fun i j H1 => RgOk i j ∧ ∀ q, H1 q = none → Q' (.ref q) (upd H1 q (.lst (rgV i j)))) fun i j H1 k s q => ⟨q.1.ok, U.lst k s (RpAll.rg i j) q.2⟩
  exact sem_of (pe_listRg hc hg hm ht na) hq
theorem de_tupleRg (hc : X.calm = true) (hm : X.mg "tuple" = none) (h : DRg X G ρ e fun i j => SmallRg i j ∧ Q (.tup ((rg i j).map D.int))) (hg : Gl X "tuple" := by rfl) (na : starEach [e] X.env = (false, eval e X.env) :: starEach [] X.env := by rfl) : DE X G ρ c (.Call (.Name "tuple" p) [e] [] pos) Q := fun σ H I Q' U => by
  obtain ⟨t, ht, hq⟩ := h σ H I (fun i j H1 => RgOk i j ∧ ∀ q, H1 q = none → Q' (.ref q) (upd H1 q (.tup (rgV i j)))) fun i j H1 k s q => ⟨q.1.ok, (U.later k).tup (I.kp k s) (RpAll.rg i j) q.2⟩
  exact sem_of (pe_tupRg hc hg hm ht na) hq
/-- sum(range(..)) -/
theorem pe_sumRg {te : L2.St → Hp → (Int → Int → Hp → Prop) → Prop} (hc : X.calm = true) (hg : Gl X "sum") (hm : X.mg "sum" = none) (he : PRg X e te) (na : starEach [e] X.env = (false, eval e X.env) :: starEach [] X.env := by rfl) :
    PE X (.Call (.Name "sum" p) [e] [] pos) (fun σ H Q => te σ H fun a b H1 => RgOk a b ∧ Q (.int (rg a b).sum) H1) := by
  refine ⟨fun pins s σ H Q I h => ?_⟩
  refine Call_ (ld_blt I hg hm boot_sum (PyProof.Rows.callWith_builtin1 (args_cons (thn (he pins s σ H _ I h) fun x s1 ⟨r, a, b, t, u, v, H1, ex, hr, I1, ok, q⟩ => args_nil ?_) na) na))
  subst ex
  obtain ⟨b1, b2, b3, b4, b5⟩ := ok
  have I2 : ∀ (o : Obj), Inv X pins σ H1 { s1 with heap := s1.heap.push o } := fun o => I1.kept (t' := s1.toks) fun b o e => Heap.get?_push_of_some _ e
  refine call_sum_walkG (wpAny_pyIter_range hr (small_one b1 b2 b3 b4) ?_)
  refine ⟨s1.heap.objs.size, _, _, _, _, _, fun i => a + (i : Nat) * 1, rfl, Walks.range (prog := X.prog) (w := X.w) (A := X.A.in1) (I1.ok.hd hc) s1.heap.objs.size a 1 (Builtin.Range.rangeSize a b 1).toNat, ?_, ?_, fun i v ⟨t, e⟩ => ⟨t, e⟩, fun h' tk t' hk => ?_⟩
  · have e1 : ((Builtin.Range.rangeSize a b 1).toNat : Int) = Builtin.Range.rangeSize a b 1 := by rw [rangeSize_nat a b, Int.toNat_natCast]
    show IsRangeIter _ _ (a + ((0 : Nat) : Int) * 1) (((Builtin.Range.rangeSize a b 1).toNat : Int) - ((0 : Nat) : Int)) 1
    rw [e1]
    have e2 : a + ((0 : Nat) : Int) * 1 = a := by simp
    have e3 : Builtin.Range.rangeSize a b 1 - ((0 : Nat) : Int) = Builtin.Range.rangeSize a b 1 := by simp
    rw [e2, e3]
    exact Heap.get?_push_size _ rfl
  · intro b hb
    obtain rfl := List.mem_singleton.mp hb
    exact Heap.lt_size (Heap.get?_push_size _ rfl)
  · have e : preSum (fun i => a + (i : Nat) * 1) (Builtin.Range.rangeSize a b 1).toNat = (rg a b).sum := by
      rw [rangeSize_nat a b, Int.toNat_natCast]
      unfold rg
      have : ∀ n : Nat, preSum (fun i => a + (i : Nat) * 1) n = ((List.range n).map fun i => a + ((i : Nat) : Int)).sum := fun n => by
        induction n with
        | zero => rfl
        | succ n ih => rw [preSum, ih, List.range_succ, List.map_append, List.sum_append]; simp
      exact this _
    rw [e]
    refine ⟨.int _, H1, I1.kept fun b o q => hk b o (fun hb => ?_) (Heap.get?_push_of_some _ q), ⟨_, rfl⟩, q⟩
    obtain rfl := List.mem_singleton.mp hb
    exact absurd (Heap.lt_size q) (Nat.lt_irrefl _)
theorem de_sumRg (hc : X.calm = true) (hm : X.mg "sum" = none) (h : DRg X G ρ e fun i j => SmallRg i j ∧ Q (.int (rg i j).sum)) (hg : Gl X "sum" := by rfl) (na : starEach [e] X.env = (false, eval e X.env) :: starEach [] X.env := by rfl) : DE X G ρ c (.Call (.Name "sum" p) [e] [] pos) Q := fun σ H I Q' U => by
  obtain ⟨t, ht, hq⟩ := h σ H I (fun i j H1 => RgOk i j ∧ Q' (.int (rg i j).sum) H1) fun i j H1 k s q => ⟨q.1.ok, (U.later k).int s q.2⟩
  exact sem_of (pe_sumRg hc hg hm ht na) hq
/-- sorted, of a list of ints -/
def sortD : List D → (D → Prop) → Prop
  | [.lst xs], Q => ∃ ns : List Int, xs = ns.map D.int ∧ ∀ ms : List Int, ms.Perm ns → ms.Pairwise (· ≤ ·) → Q (.lst (ms.map D.int))
  | _, _ => False
theorem de_sorted (hm : X.mg "sorted" = none) (h : DA X G ρ false [e] fun ds => sortD ds Q) (hg : Gl X "sorted" := by rfl)
    (he : starEach [e] X.env = (false, eval e X.env) :: starEach [] X.env := by rfl) (hpl : (backTo pos (starEach [] X.env)).any (·.1) = false := by rfl) : DE X G ρ c (.Call (.Name "sorted" p) [e] [] pos) Q :=
  de_callB cr_sortedI hm boot_sorted (R := sortD) (fun vs σ H ds Q' I r U q => by
    unfold sortD at q
    split at q
    · obtain ⟨ns, rfl, q⟩ := q
      obtain ⟨v, rfl, r1⟩ := r.oneI
      obtain ⟨a, us, rfl, ha, _, r⟩ := r1.lstI
      have e := r.ints_inv
      subst e
      exact ⟨a, ns, rfl, .of ha, fun ms p h1 h2 => U.lst I (RpAll.ints ms) (q ms h1 h2) p⟩
    · exact q.elim) h hg (by decide) (by decide) he hpl
/-- any, all, of a list of truth values -/
def anyD : List D → (D → Prop) → Prop
  | [.lst xs], Q => ∃ ns : List Bool, xs = ns.map D.bl ∧ Q (.bl (ns.any id))
  | _, _ => False
def allD : List D → (D → Prop) → Prop
  | [.lst xs], Q => ∃ ns : List Bool, xs = ns.map D.bl ∧ Q (.bl (ns.all id))
  | _, _ => False
theorem de_any (hc : X.calm = true) (hm : X.mg "any" = none) (h : DA X G ρ false [e] fun ds => anyD ds Q) (hg : Gl X "any" := by rfl)
    (he : starEach [e] X.env = (false, eval e X.env) :: starEach [] X.env := by rfl) (hpl : (backTo pos (starEach [] X.env)).any (·.1) = false := by rfl) : DE X G ρ c (.Call (.Name "any" p) [e] [] pos) Q :=
  de_callB (cr_any hc) hm boot_any (R := anyD) (fun vs σ H ds Q' I r U q => by
    unfold anyD at q
    split at q
    · obtain ⟨ns, rfl, q⟩ := q
      obtain ⟨v, rfl, r1⟩ := r.oneI
      obtain ⟨a, us, rfl, ha, _, r⟩ := r1.lstI
      have e := r.bls_inv
      subst e
      exact ⟨a, ns, rfl, .of ha, U.bl I.src q⟩
    · exact q.elim) h hg (by decide) (by decide) he hpl
theorem de_all (hc : X.calm = true) (hm : X.mg "all" = none) (h : DA X G ρ false [e] fun ds => allD ds Q) (hg : Gl X "all" := by rfl)
    (he : starEach [e] X.env = (false, eval e X.env) :: starEach [] X.env := by rfl) (hpl : (backTo pos (starEach [] X.env)).any (·.1) = false := by rfl) : DE X G ρ c (.Call (.Name "all" p) [e] [] pos) Q :=
  de_callB (cr_all hc) hm boot_all (R := allD) (fun vs σ H ds Q' I r U q => by
    unfold allD at q
    split at q
    · obtain ⟨ns, rfl, q⟩ := q
      obtain ⟨v, rfl, r1⟩ := r.oneI
      obtain ⟨a, us, rfl, ha, _, r⟩ := r1.lstI
      have e := r.bls_inv
      subst e
      exact ⟨a, ns, rfl, .of ha, U.bl I.src q⟩
    · exact q.elim) h hg (by decide) (by decide) he hpl

/-! ### subscripts -/
def ixD : D → D → (D → Prop) → Prop
  | .lst xs, .int i, Q => ∃ d, atI xs i = some d ∧ Q d
  | .tup xs, .int i, Q => ∃ d, atI xs i = some d ∧ Q d
  | _, _, _ => False
theorem RpAll.atI {K : PySem.W.Frag} {O : List Addr} {H : Hp} {vs : List V} {ds : List D} {i : Int} {d : D} (r : RpAll K O H vs ds) (h : atI ds i = some d) : ∃ v, L2.atI vs i = some v ∧ Rp K O H v d := by
  unfold L2.atI at h ⊢
  rw [r.length]
  cases e : ixN ds.length i with
  | none => rw [e] at h; cases h
  | some j =>
    rw [e] at h
    exact r.getD' h
def rIxA (K : PySem.W.Frag) : R2 := fun x y H Q => rIxL K x y H Q ∨ rIxT K x y H Q
theorem ix_any : IxR X (rIxA X.K) := ix_list.or ix_tup
theorem de_ix (hK : X.K = G.K) (h : DE X G ρ c a fun x => DE X G ρ false b fun y => ixD x y Q) (hs : PlainIx b := by exact fun _ _ => rfl) : DE X G ρ c (.Subscript a b pos) Q := fun σ H I Q' U =>
  sem_of (pe_ix ix_any pe_sem pe_sem hs) (two (t := rIxA X.K) (R := ixD) I U (fun v u H2 x y I2 r1 r2 U2 h2 => by
    unfold ixD at h2
    split at h2
    · obtain ⟨d, hd, q⟩ := h2
      obtain ⟨a1, vs, rfl, ha, _, r1⟩ := r1.lstI
      cases r2
      obtain ⟨w, hw, rw'⟩ := r1.atI hd
      exact .inl ⟨a1, vs, _, w, rfl, rfl, .of ha, hw, U2.now I2 rw' q⟩
    · obtain ⟨d, hd, q⟩ := h2
      obtain ⟨a1, vs, rfl, ha, r1⟩ := r1.tupI
      cases r2
      obtain ⟨w, hw, rw'⟩ := r1.atI hd
      exact .inr ⟨a1, vs, _, w, rfl, rfl, hK ▸ ha, hw, U2.now I2 rw' q⟩
    · exact h2.elim) h)
/-- an item of the def's own list -/
theorem de_ixOwn {o : Addr} {ds : List D} {x : Str} (i : Nat) (ho : ρ[i]? = some (.own o ds)) (h : DE X G ρ false b fun y => ixD (.lst ds) y Q) (hs : PlainIx b := by exact fun _ _ => rfl) (hN : X.N[i]? = some x := by rfl) (hv : Vis X.env.scope x := by first | exact Or.inl rfl | exact Or.inr (Or.inl rfl) | exact Or.inr (Or.inr rfl))
    (hd : (x == ("__debug__" : Str)) = false := by decide) (hcd : (x == ("__classdict__" : Str)) = false := by decide) : DE X G ρ c (.Subscript (.Name x p) b pos) Q := fun σ H I Q' U => by
  obtain ⟨y, hy, rfl, vs, hv', r⟩ := I.slot i _ ho
  refine sem_of (pe_ix ix_list (pe_var (pos := p) hN hv hd hcd) pe_sem hs) ⟨_, hy, h σ H I _ fun u H1 d k s r2 q => ?_⟩
  replace q : ixD (.lst ds) d Q := q
  cases r2 <;> first | exact False.elim q | skip
  obtain ⟨d', hd', q⟩ := q
  obtain ⟨w, hw, rw'⟩ := r.atI hd'
  have hn : H1 o = some (.lst vs) := k.at o _ (fun b c e => by
    have := I.nO o (mem_owns ho (by simp [Sl.addr]))
    exact ⟨fun z => this (z ▸ (I.srcO b c e).1), fun z => this (z ▸ (I.srcO b c e).2.1)⟩) hv'
  refine ⟨o, vs, _, w, rfl, rfl, .of hn, hw, U w H1 d' k s ((I.rp k (c := true) (by unfold bs; rw [if_pos rfl]; exact rw')).mv (mv_sub fun a ha => ?_)) q⟩
  have := bs_mem ha
  unfold bs; rw [if_pos rfl]; exact this

/-! ### slices -/
def cutD (xs : List D) (lo hi : Option Int) : List D := (xs.drop (HT.sIx xs.length 0 lo)).take (HT.sIx xs.length xs.length hi - HT.sIx xs.length 0 lo)
theorem RpAll.cut {K : PySem.W.Frag} {O : List Addr} {H : Hp} {vs : List V} {ds : List D} (r : RpAll K O H vs ds) (lo hi : Option Int) : RpAll K O H (cutV vs lo hi) (cutD ds lo hi) := by
  unfold cutV cutD
  rw [r.length]
  exact (r.drop _).take _
def cutD' : D → Option Int → Option Int → (D → Prop) → Prop
  | .lst xs, lo, hi, Q => Q (.lst (cutD xs lo hi))
  | .tup xs, lo, hi, Q => Q (.tup (cutD xs lo hi))
  | _, _, _, _ => False
theorem cut_whole {ds : List D} {lo hi : Option Int} (h : HT.sIx ds.length 0 lo = 0 ∧ HT.sIx ds.length ds.length hi = ds.length) : cutD ds lo hi = ds := by
  unfold cutD
  rw [h.1, h.2]
  simp
/-- a part of a slice -/
def DO (X : Cx) (G : Gx) (ρ : List Sl) (e : Option Expr) (Q : Option Int → Prop) : Prop := ∀ σ H, StOk G ρ σ H → ∀ Q' : Option Int → Hp → Prop, (∀ o H', Kp G.T G.S H H' → SrcOk G.S H' → Q o → Q' o H') → ∃ t, PO X e t ∧ t σ H Q'
theorem do_none {Q : Option Int → Prop} (q : Q none) : DO X G ρ none Q := fun σ H I Q' U => ⟨_, po_none, U none H (Kp.refl _ _ _) I.src q⟩
def someD : D → (Option Int → Prop) → Prop
  | .int i, Q => Q (some i)
  | _, _ => False
theorem do_some {Q : Option Int → Prop} (h : DE X G ρ false e fun x => someD x Q) : DO X G ρ (some e) Q := fun σ H I Q' U => ⟨_, po_some pe_sem, h σ H I _ fun v H1 d k s r q => by
  cases r <;> first | exact q.elim | skip
  exact ⟨_, rfl, U _ H1 k s q⟩⟩
def oSem (X : Cx) (e : Option Expr) : TO := fun σ H Q => ∃ t, PO X e t ∧ t σ H Q
theorem po_sem {e : Option Expr} : PO X e (oSem X e) := ⟨fun pins s σ H Q I h => by
  obtain ⟨t, ht, hq⟩ := h
  exact ht.run pins s σ H Q I hq⟩
def rSlAny (K : PySem.W.Frag) : V → Option Int → Option Int → Hp → VK → Prop := fun x lo hi H Q => rSlL K x lo hi H Q ∨ rSlA K x lo hi H Q
theorem sl_any : SlR X (rSlAny X.K) := sl_list.or sl_tupA
theorem de_slice {lo hi : Option Expr} (hK : X.K = G.K) (h : DE X G ρ c e fun x => DO X G ρ lo fun l => DO X G ρ hi fun u => cutD' x l u Q) : DE X G ρ c (.Subscript e (.Slice lo hi none p2) pos) Q := fun σ H I Q' U =>
  sem_of (pe_slice (p2 := p2) sl_any pe_sem po_sem po_sem) (h σ H I _ fun v H1 d k s r q => q σ H1 (I.kp k s) _ fun l H2 k2 s2 q2 => q2 σ H2 ((I.kp k s).kp k2 s2) _ fun u H3 k3 s3 q3 => by
    have k13 := k2.trans k3
    have r3 := (I.kp k s).rp k13 r
    have I3 := ((I.kp k s).kp k2 s2).kp k3 s3
    have U3 := U.later (k.trans k13)
    replace q3 : cutD' d l u Q := q3
    unfold cutD' at q3
    split at q3
    · obtain ⟨a, vs, rfl, ha, _, r4⟩ := r3.lstI
      exact .inl ⟨a, vs, rfl, .of ha, U3.lst I3 (r4.cut l u) q3⟩
    · obtain ⟨a, vs, rfl, ha, r4⟩ := r3.tupI
      refine .inr ⟨a, vs, rfl, hK ▸ ha, fun w => ?_, fun _ => U3.tup I3 (r4.cut l u) q3⟩
      rw [r4.length] at w
      rw [cut_whole w] at q3
      exact U3.now I3 r3 q3
    · exact q3.elim)
/-- x[::-1] of a list -/
def revD : D → (D → Prop) → Prop
  | .lst xs, Q => Q (.lst xs.reverse)
  | _, _ => False
theorem de_rev {k : Nat} {p4 p5 : Pos} (h : DE X G ρ c e fun x => revD x Q) : DE X G ρ c (.Subscript e (.Slice none none (some (.UnaryOp .USub (.Constant (.int 1) k p4) p5)) p2) pos) Q := fun σ H I Q' U =>
  sem_of (pe_revL pe_sem) (h σ H I _ fun v H1 d k s r q => by
    replace q : revD d Q := q
    unfold revD at q
    split at q
    · obtain ⟨a, vs, rfl, ha, _, r4⟩ := r.lstI
      exact ⟨a, vs, rfl, .of ha, (U.later k).lst (I.kp k s) r4.reverse q⟩
    · exact q.elim)
end
end Dw

/-! statements, loops -/
namespace Dw
open PySem PySem.Spec PyProof.Rows L2

/-! ### slots set -/
theorem owns_cons (s : Sl) (ρ : List Sl) : owns (s :: ρ) = s.addr ++ owns ρ := rfl
theorem owns_set_mem {s : Sl} {x : Addr} : ∀ {ρ : List Sl} {i : Nat}, x ∈ owns (ρ.set i s) → x ∈ s.addr ∨ x ∈ owns ρ
  | [], _, h => .inr h
  | r :: ρ, 0, h => by
    rw [List.set_cons_zero, owns_cons, List.mem_append] at h
    rw [owns_cons, List.mem_append]
    rcases h with h | h
    · exact .inl h
    · exact .inr (.inr h)
  | r :: ρ, i + 1, h => by
    rw [List.set_cons_succ, owns_cons, List.mem_append] at h
    rw [owns_cons, List.mem_append]
    rcases h with h | h
    · exact .inr (.inl h)
    · rcases owns_set_mem h with h | h
      · exact .inl h
      · exact .inr (.inr h)
theorem owns_set_nodup {s : Sl} : ∀ {ρ : List Sl} {i : Nat}, (owns ρ).Nodup → s.addr.Nodup → (∀ a ∈ s.addr, a ∉ owns ρ) → (owns (ρ.set i s)).Nodup
  | [], _, h, _, _ => h
  | r :: ρ, 0, h, hs, n => by
    rw [List.set_cons_zero, owns_cons]
    rw [owns_cons] at h n
    exact List.nodup_append.mpr ⟨hs, (List.nodup_append.mp h).2.1, fun a ha b hb e => n a ha (List.mem_append_right _ (e ▸ hb))⟩
  | r :: ρ, i + 1, h, hs, n => by
    rw [List.set_cons_succ, owns_cons]
    rw [owns_cons] at h n
    have h3 := List.nodup_append.mp h
    refine List.nodup_append.mpr ⟨h3.1, owns_set_nodup h3.2.1 hs fun a ha q => n a ha (List.mem_append_right _ q), fun a ha b hb e => ?_⟩
    rcases owns_set_mem hb with q | q
    · exact n b q (List.mem_append_left _ (e ▸ ha))
    · exact h3.2.2 a ha b q e
theorem owns_set_same {s s0 : Sl} (e : s.addr = s0.addr) : ∀ {ρ : List Sl} {i : Nat}, ρ[i]? = some s0 → owns (ρ.set i s) = owns ρ
  | [], _, h => by simp at h
  | r :: ρ, 0, h => by
    have : r = s0 := by simpa using h
    rw [List.set_cons_zero, owns_cons, owns_cons, this, e]
  | r :: ρ, i + 1, h => by
    rw [List.set_cons_succ, owns_cons, owns_cons, owns_set_same e (by simpa using h)]
theorem StOk.notSrc {G : Gx} {ρ : List Sl} {σ : L2.St} {H : Hp} (I : StOk G ρ σ H) {o : Addr} (ho : o ∈ owns ρ) : ∀ b c, G.S = some (b, c) → o ≠ b ∧ o ≠ c := fun b c e =>
  ⟨fun z => I.nO o ho (z ▸ (I.srcO b c e).1), fun z => I.nO o ho (z ▸ (I.srcO b c e).2.1)⟩

section
variable {G : Gx} {ρ : List Sl} {σ : L2.St} {H : Hp}
theorem ofTrue {O : List Addr} {v : V} {d : D} (r : Rp G.K (bs G ρ true) H v d) : Rp G.K (G.O ++ owns ρ) H v d := by
  unfold bs at r; rw [if_pos rfl] at r; exact r
theorem ofTrueAll {v : List V} {d : List D} (r : RpAll G.K (bs G ρ true) H v d) : RpAll G.K (G.O ++ owns ρ) H v d := by
  unfold bs at r; rw [if_pos rfl] at r; exact r
theorem toTrue {v : V} {d : D} (r : Rp G.K (G.O ++ owns ρ) H v d) : Rp G.K (bs G ρ true) H v d := by
  unfold bs; rw [if_pos rfl]; exact r
theorem ofFalse {v : V} {d : D} (r : Rp G.K (bs G ρ false) H v d) : Rp G.K G.O H v d := by
  unfold bs at r; rw [if_neg (by decide)] at r; exact r
theorem SlOk.sub {K : PySem.W.Frag} {O O' : List Addr} {H : Hp} {s : Sl} {x : Option V} (h : ∀ a ∈ O', a ∈ O) (k : SlOk K O H s x) : SlOk K O' H s x := k.mv (mv_sub h) fun _ _ _ q _ => q
/-- a slot gets what is no list of the def's own -/
theorem StOk.set0 (I : StOk G ρ σ H) (i : Nat) {s : Sl} {x : Option V} (hs : s.addr = []) (k : SlOk G.K (G.O ++ owns ρ) H s x) : StOk G (ρ.set i s) (σ.set i x) H := by
  have sub : ∀ a ∈ G.O ++ owns (ρ.set i s), a ∈ G.O ++ owns ρ := fun a ha => by
    rw [List.mem_append] at ha ⊢
    rcases ha with h | h
    · exact .inl h
    · rcases owns_set_mem h with h | h
      · rw [hs] at h; cases h
      · exact .inr h
  have subo : ∀ a ∈ owns (ρ.set i s), a ∈ owns ρ := fun a ha => by
    rcases owns_set_mem ha with h | h
    · rw [hs] at h; cases h
    · exact h
  refine ⟨by rw [List.length_set, List.length_set]; exact I.len, fun j t hj => ?_, I.ext, I.src, I.srcO, I.trk, owns_set_nodup I.nd (by rw [hs]; exact List.nodup_nil) (by rw [hs]; intro a ha; cases ha), fun a ha => I.nO a (subo a ha), fun a ha => I.fr a (subo a ha), fun p hp => (I.pin p hp).mv (mv_sub sub)⟩
  by_cases e : i = j
  · subst e
    have hl : i < ρ.length := by
      have := (List.getElem?_eq_some_iff.mp hj).1
      rwa [List.length_set] at this
    rw [List.getElem?_set_self hl] at hj
    cases hj
    exact ⟨x, by rw [List.getElem?_set_self (by rw [I.len]; exact hl)], k.sub sub⟩
  · rw [List.getElem?_set_ne e] at hj
    obtain ⟨y, hy, ok⟩ := I.slot j t hj
    exact ⟨y, by rw [List.getElem?_set_ne e]; exact hy, ok.sub sub⟩
theorem StOk.dat (I : StOk G ρ σ H) (i : Nat) {v : V} {d : D} (r : Rp G.K (bs G ρ true) H v d) : StOk G (ρ.set i (.dat d)) (σ.set i (some v)) H := I.set0 i rfl ⟨v, rfl, ofTrue (O := []) r⟩
/-- the heap went on, and a new list of the def's own came -/
theorem StOk.newL {H1 : Hp} (I : StOk G ρ σ H) (i : Nat) {q : Addr} {vs : List V} {ds : List D} (k : Kp G.T G.S H H1) (s : SrcOk G.S H1) (np : H q = none) (hq : H1 q = some (.lst vs)) (r : RpAll G.K (q :: (G.O ++ owns ρ)) H1 vs ds) :
    StOk G (ρ.set i (.own q ds)) (σ.set i (some (.ref q))) H1 := by
  have I1 := I.kp k s
  have n1 : q ∉ G.O ++ owns ρ := fun m => by
    rcases List.mem_append.mp m with m | m
    · obtain ⟨o, e⟩ := I.trk q m
      rw [np] at e; cases e
    · obtain ⟨o, e⟩ := I.trkO q m
      rw [np] at e; cases e
  have sub : ∀ b ∈ G.O ++ owns (ρ.set i (.own q ds)), b ∈ q :: (G.O ++ owns ρ) := fun b hb => by
    rw [List.mem_append] at hb
    rw [List.mem_cons, List.mem_append]
    rcases hb with h | h
    · exact .inr (.inl h)
    · rcases owns_set_mem h with h | h
      · exact .inl (List.mem_singleton.mp h)
      · exact .inr (.inr h)
  have mv : Mv (G.O ++ owns ρ) (G.O ++ owns (ρ.set i (.own q ds))) H H1 := fun b o n e t_ => by
    have n2 : b ≠ q := fun z => by rw [z, np] at e; cases e
    refine ⟨fun m => ?_, k.to b o (fun c d z => ⟨fun w => n (w ▸ (I.srcA z).1), fun w => n (w ▸ (I.srcA z).2)⟩) e t_⟩
    rcases List.mem_cons.mp (sub b m) with m | m
    · exact n2 m
    · exact n m
  have subo : ∀ b ∈ owns (ρ.set i (.own q ds)), b = q ∨ b ∈ owns ρ := fun b hb => by
    rcases owns_set_mem hb with h | h
    · exact .inl (List.mem_singleton.mp h)
    · exact .inr h
  refine ⟨by rw [List.length_set, List.length_set]; exact I.len, fun j t hj => ?_, I1.ext, I1.src, I1.srcO, I1.trk, owns_set_nodup I.nd (by simp [Sl.addr]) (by simp [Sl.addr]; exact fun m => n1 (List.mem_append_right _ m)), fun b hb => ?_, fun b hb => ?_, fun p hp => (I.pin p hp).mv mv⟩
  · by_cases e : i = j
    · subst e
      have hl : i < ρ.length := by
        have := (List.getElem?_eq_some_iff.mp hj).1
        rwa [List.length_set] at this
      rw [List.getElem?_set_self hl] at hj
      cases hj
      exact ⟨_, by rw [List.getElem?_set_self (by rw [I.len]; exact hl)], rfl, vs, hq, r.mv (mv_sub sub)⟩
    · rw [List.getElem?_set_ne e] at hj
      obtain ⟨y, hy, ok⟩ := I.slot j t hj
      exact ⟨y, by rw [List.getElem?_set_ne e]; exact hy, ok.mv mv fun b hb o z t_ => k.to b o (I.notSrc (mem_owns hj hb)) z t_⟩
  · rcases subo b hb with h | h
    · rw [h]; exact fun m => n1 (List.mem_append_left _ m)
    · exact I.nO b h
  · rcases subo b hb with h | h
    · rw [h]
      cases e : G.H0 q with
      | none => rfl
      | some o =>
        have hS : ∀ c d, G.S = some (c, d) → q ≠ c ∧ q ≠ d := fun c d z => ⟨fun w => n1 (w ▸ (I.srcA z).1), fun w => n1 (w ▸ (I.srcA z).2)⟩
        obtain ⟨u, e2⟩ := I.ext.has q o e
        rw [e2] at np
        cases np
    · exact I.fr b h
/-- the def's own list, dict changes -/
theorem StOk.chg (I : StOk G ρ σ H) (i : Nat) {a : Addr} {s s0 : Sl} {u : HO} (h0 : ρ[i]? = some s0) (e0 : s0.addr = [a]) (e1 : s.addr = [a]) (k : ∀ x, σ[i]? = some x → SlOk G.K (G.O ++ owns ρ) (upd H a u) s x) : StOk G (ρ.set i s) σ (upd H a u) := by
  have ao : a ∈ owns ρ := mem_owns h0 (by rw [e0]; simp)
  have es : owns (ρ.set i s) = owns ρ := owns_set_same (e1.trans e0.symm) h0
  have mv : Mv (G.O ++ owns ρ) (G.O ++ owns ρ) H (upd H a u) := fun b o n e t_ => by
    have ne : b ≠ a := fun q => n (by rw [q]; exact List.mem_append_right _ ao)
    exact ⟨n, by rw [upd_ne ne]; exact e⟩
  have hn := I.notSrc ao
  have kx : Kp G.T G.S G.H0 (upd H a u) := by
    obtain ⟨x, _, ok⟩ := I.slot i s0 h0
    cases s0 with
    | any => cases e0
    | dat d => cases e0
    | own b ds =>
      cases e0
      obtain ⟨_, vs, e, _⟩ := ok
      exact I.ext.upd (I.fr a ao) e (.inl ⟨_, rfl⟩)
    | ownD b ds =>
      cases e0
      obtain ⟨_, vs, e, _⟩ := ok
      exact I.ext.upd (I.fr a ao) e (.inr ⟨_, rfl⟩)
  refine ⟨by rw [List.length_set]; exact I.len, fun j t hj => ?_, kx, fun b c e => ?_, I.srcO, fun b hb => ?_, by rw [es]; exact I.nd, by rw [es]; exact I.nO, by rw [es]; exact I.fr, fun p hp => by rw [es]; exact (I.pin p hp).mv mv⟩
  · rw [es]
    by_cases e : i = j
    · subst e
      have hl : i < ρ.length := by
        have := (List.getElem?_eq_some_iff.mp hj).1
        rwa [List.length_set] at this
      rw [List.getElem?_set_self hl] at hj
      cases hj
      obtain ⟨x, hx, _⟩ := I.slot i s0 h0
      exact ⟨x, hx, k x hx⟩
    · rw [List.getElem?_set_ne e] at hj
      obtain ⟨y, hy, ok⟩ := I.slot j t hj
      refine ⟨y, hy, ok.mv mv fun b hb o q t_ => ?_⟩
      rw [upd_ne (fun z => ?_)]
      · exact q
      · subst z
        -- the address stands in two slots
        exact absurd I.nd (fun nd => by
          have key : ∀ (l : List Sl) (i j : Nat) (s t : Sl), l[i]? = some s → l[j]? = some t → i ≠ j → b ∈ s.addr → b ∈ t.addr → (owns l).Nodup → False := fun l => by
            induction l with
            | nil => intro i j s t h; simp at h
            | cons r l ih =>
              intro i j s t h1 h2 ne m1 m2 nd
              rw [owns_cons] at nd
              have n3 := List.nodup_append.mp nd
              cases i with
              | zero =>
                cases j with
                | zero => exact ne rfl
                | succ j =>
                  have : r = s := by simpa using h1
                  subst this
                  exact n3.2.2 b m1 b (mem_owns (ρ := l) (i := j) (by simpa using h2) m2) rfl
              | succ i =>
                cases j with
                | zero =>
                  have : r = t := by simpa using h2
                  subst this
                  exact n3.2.2 b m2 b (mem_owns (ρ := l) (i := i) (by simpa using h1) m1) rfl
                | succ j => exact ih i j s t (by simpa using h1) (by simpa using h2) (fun q => ne (by rw [q])) m1 m2 n3.2.1
          exact key ρ i j s0 t h0 hj e (by rw [e0]; simp) hb nd)
  · obtain ⟨cells, l, m, t, e2, e3, e4⟩ := I.src b c e
    exact ⟨cells, l, m, t, by rw [upd_ne (hn b c e).1.symm]; exact e2, by rw [upd_ne (hn b c e).2.symm]; exact e3, e4⟩
  · by_cases z : b = a
    · exact ⟨u, by rw [z]; exact upd_same⟩
    · obtain ⟨o, e⟩ := I.trk b hb
      exact ⟨o, by rw [upd_ne z]; exact e⟩
end

/-! ### statements -/
section
variable {X : Cx} {G : Gx} {ρ : List Sl} {E : DEnds} {e a b : Expr} {es : List Expr} {st : Stmt} {sts rest : List Stmt} {pos p p2 p3 : Pos} {x : Str}
theorem UpS.nxt {D : Ends} (U : UpS G E D) {N : List Sl → Prop} {N' : L2.St → Hp → Prop} (h : ∀ ρ σ H, StOk G ρ σ H → N ρ → N' σ H) : UpS G { E with nx := N } { D with nx := N' } := ⟨h, U.rt, U.bk, U.ct⟩
theorem dss_nil (q : E.nx ρ) : DSs X G ρ [] E := fun σ H I D U => sssem_of pss_nil (U.nx ρ σ H I q)
theorem dss_cons (h : DS X G ρ st { E with nx := fun ρ' => DSs X G ρ' rest E }) : DSs X G ρ (st :: rest) E := fun σ H I D U =>
  sssem_of (pss_cons ps_sem pss_sem) (h σ H I _ (U.nxt fun ρ' σ' H' I' q => q σ' H' I' D U))
theorem dss_one (h : DS X G ρ st E) : DSs X G ρ [st] E := fun σ H I D U => sssem_of (pss_one ps_sem) (h σ H I D U)
theorem ds_set (i : Nat) (hN : X.N.Nodup) (h : DE X G ρ true e fun d => E.nx (ρ.set i (.dat d))) (hi : X.N[i]? = some x := by rfl) (hx : Loc X.env.scope x := by first | exact Or.inl rfl | exact Or.inr rfl)
    (hs : swapsWith e (some (.Name x p)) pos.line X.env = pure false := by rfl) (hf : X.fn x = true ∨ X.env.scope.names.lookup x = some .local := by first | exact .inl rfl | exact .inr rfl) : DS X G ρ (.Assign [.Name x p] e pos) E := fun σ H I D U =>
  ssem_of (L2.ps_set (pos' := p) hN hi hx pe_sem hs hf) (h σ H I _ fun v H1 d k s r q => U.nx _ _ H1 ((I.kp k s).dat i r) q)
theorem ds_setF (i : Nat) (hN : X.N.Nodup) (h : DF X G ρ e fun ds => ∀ o, E.nx (ρ.set i (.own o ds))) (hi : X.N[i]? = some x := by rfl) (hx : Loc X.env.scope x := by first | exact Or.inl rfl | exact Or.inr rfl)
    (hs : swapsWith e (some (.Name x p)) pos.line X.env = pure false := by rfl) (hf : X.fn x = true ∨ X.env.scope.names.lookup x = some .local := by first | exact .inl rfl | exact .inr rfl) : DS X G ρ (.Assign [.Name x p] e pos) E := fun σ H I D U =>
  ssem_of (L2.ps_set (pos' := p) hN hi hx pe_sem hs hf) (h σ H I _ fun q vs H1 ds k s np hq r w => U.nx _ _ H1 (I.newL i k s np hq r) (w q))
end
end Dw

/-! more statements, targets, loops, comprehensions -/
namespace Dw
open PySem PySem.Spec PyProof.Rows L2

section
variable {X : Cx} {G : Gx} {ρ : List Sl} {E : DEnds} {e a b : Expr} {es : List Expr} {st : Stmt} {sts sts2 rest : List Stmt} {pos p p2 p3 : Pos} {x : Str}
theorem ds_expr (h : DE X G ρ false e fun _ => E.nx ρ) (hs : swapsWith e none pos.line X.env = pure false := by rfl) : DS X G ρ (.Expr e pos) E := fun σ H I D U =>
  ssem_of (L2.ps_expr pe_sem hs) (h σ H I _ fun v H1 d k s r q => U.nx ρ σ H1 (I.kp k s) q)
theorem ds_doc {y j pos'} (h : E.nx ρ) : DS X G ρ (.Expr (.Constant (.str y) j pos) pos') E := fun σ H I D U => ssem_of ps_doc (U.nx ρ σ H I h)
theorem ds_ret (h : DE X G ρ false e E.rt) : DS X G ρ (.Return (some e) pos) E := fun σ H I D U =>
  ssem_of (L2.ps_ret pe_sem) (h σ H I _ fun v H1 d k s r q => U.rt v H1 d (I.ext.trans k) s (ofFalse r) q)
theorem ds_retN (h : E.rt .non) : DS X G ρ (.Return none pos) E := fun σ H I D U => ssem_of ps_retN (U.rt .non H .non I.ext I.src .non h)
theorem ds_if (h : DT X G ρ e fun t => if t = true then DSs X G ρ sts E else DSs X G ρ sts2 E) : DS X G ρ (.If e sts sts2 pos) E := fun σ H I D U =>
  ssem_of (L2.ps_if pt_sem pss_sem pss_sem) (h σ H I _ fun t H1 k s q => by
    cases t with
    | true => exact q σ H1 (I.kp k s) D U
    | false => exact q σ H1 (I.kp k s) D U)
theorem ds_pass (h : E.nx ρ) : DS X G ρ (.Pass pos) E := fun σ H I D U => ssem_of ps_pass (U.nx ρ σ H I h)
theorem ds_break (h : E.bk ρ) : DS X G ρ (.Break pos) E := fun σ H I D U => ssem_of ps_break (U.bk ρ σ H I h)
theorem ds_continue (h : E.ct ρ) : DS X G ρ (.Continue pos) E := fun σ H I D U => ssem_of ps_continue (U.ct ρ σ H I h)
/-- a way that can't be taken -/
theorem ds_never (h : False) : DS X G ρ st E := h.elim

/-- x.append(e), a list of the def's own -/
theorem ds_append {o : Addr} {ds : List D} (i : Nat) (h : ρ[i]? = some (.own o ds)) (hl : ds.length ≤ 100000) (he : DE X G ρ true e fun d => E.nx (ρ.set i (.own o (ds ++ [d])))) (hN : X.N[i]? = some x := by rfl) (hv : Vis X.env.scope x := by first | exact Or.inl rfl | exact Or.inr (Or.inl rfl) | exact Or.inr (Or.inr rfl))
    (hd : (x == ("__debug__" : Str)) = false := by decide) (hcd : (x == ("__classdict__" : Str)) = false := by decide)
    (hbase : attributeBase (.Name x p) "append" X.env (eval (.Name x p) X.env) = eval (.Name x p) X.env := by rfl)
    (hfew : ((backTo pos (starEach [e] X.env)).all (fun x => !x.1) && (backToKw pos (keywordEach [] X.env)).all (fun x => x.1.isSome)
      && decide (([e]).length + ([] : List Keyword).length + (if ([] : List Keyword).isEmpty then 0 else 1) < 30)) = true := by rfl)
    (hline : (p2.endLine == pos.line) = true := by rfl) (hs : starEach [e] X.env = (false, eval e X.env) :: starEach [] X.env := by rfl) (hplain : (backTo pos (starEach [] X.env)).any (·.1) = false := by rfl)
    (hs2 : swapsWith (.Call (.Attribute (.Name x p) "append" p2) [e] [] pos) none p3.line X.env = pure false := by rfl) : DS X G ρ (.Expr (.Call (.Attribute (.Name x p) "append" p2) [e] [] pos) p3) E := fun σ H I D U => by
  obtain ⟨y, hy, rfl, vs, hv', r⟩ := I.slot i _ h
  refine ssem_of (L2.ps_expr (pe_bm PySem.F.plainAttrs_list PySem.F.slot_list_append PySem.F.type_list_append mt_append (pe_var (pos := p) hN hv hd hcd) (pa_cons pe_sem pa_nil hs) hbase hfew hline hs hplain) hs2) ?_
  refine ⟨_, hy, .inl ⟨rfl, _, .of hv'⟩, he σ H I _ fun v H1 d k s r1 q => ?_⟩
  have I1 := I.kp k s
  have hn : H1 o = some (.lst vs) := k.at o _ (I.notSrc (mem_owns h (by simp [Sl.addr]))) hv'
  refine ⟨o, vs, v, rfl, rfl, hn, by rw [r.length]; exact Nat.lt_of_le_of_lt hl (by rw [sizeLine_eq]; decide), ?_⟩
  have ra : RpAll G.K (G.O ++ owns ρ) H1 (vs ++ [v]) (ds ++ [d]) := ((I.rpAll k (c := true) (by unfold bs; rw [if_pos rfl]; exact r)).mv (mv_sub fun a ha => by unfold bs; rw [if_pos rfl]; exact ha)).append (.cons (ofTrue (O := []) r1) .nil)
  refine U.nx _ σ _ (I1.chg i h (by simp [Sl.addr]) (by simp [Sl.addr]) fun x hx => ?_) q
  rw [hy] at hx
  cases hx
  exact ⟨rfl, _, upd_same, ra.mv fun b u n e _ => ⟨n, by rw [upd_ne (fun z => n (by rw [z]; exact List.mem_append_right _ (mem_owns h (by simp [Sl.addr]))))]; exact e⟩⟩

/-! ### targets -/
def DG (X : Cx) (G : Gx) (ρ : List Sl) (tg : Expr) (d : D) (Q : List Sl → Prop) : Prop := ∀ σ H v, StOk G ρ σ H → Rp G.K (G.O ++ owns ρ) H v d → ∀ Q' : L2.St → Hp → Prop, (∀ ρ' σ' H', StOk G ρ' σ' H' → Q ρ' → Q' σ' H') → ∃ g, PG X tg g ∧ g v σ H Q'
def gSem (X : Cx) (tg : Expr) : TG := fun v σ H Q => ∃ g, PG X tg g ∧ g v σ H Q
theorem pg_sem {tg : Expr} : PG X tg (gSem X tg) := ⟨fun pins s σ H v u Q I r h => by
  obtain ⟨g, hg, q⟩ := h
  exact hg.run pins s σ H v u Q I r q⟩
theorem dg_name {d : D} {Q : List Sl → Prop} (i : Nat) (hN : X.N.Nodup) (q : Q (ρ.set i (.dat d))) (hi : X.N[i]? = some x := by rfl) (hx : Loc X.env.scope x := by first | exact Or.inl rfl | exact Or.inr rfl) (hf : X.fn x = true ∨ X.env.scope.names.lookup x = some .local := by first | exact .inl rfl | exact .inr rfl) : DG X G ρ (.Name x pos) d Q := fun σ H v I r Q' U =>
  ⟨_, L2.pg_name hN hi hx hf, U _ _ H (I.dat i (toTrue r)) q⟩
def DGs (X : Cx) (G : Gx) (ρ : List Sl) (ts : List Expr) (ds : List D) (Q : List Sl → Prop) : Prop := ∀ σ H vs, StOk G ρ σ H → RpAll G.K (G.O ++ owns ρ) H vs ds → ∀ Q' : L2.St → Hp → Prop, (∀ ρ' σ' H', StOk G ρ' σ' H' → Q ρ' → Q' σ' H') → ∃ g, PGs X ts g ∧ g vs σ H Q'
theorem dgs_nil {Q : List Sl → Prop} (q : Q ρ) : DGs X G ρ [] [] Q := fun σ H vs I r Q' U => by
  cases r
  exact ⟨_, pgs_nil, rfl, U ρ σ H I q⟩
/-- two names, three names -/
theorem dgs_2 {d1 d2 : D} {Q : List Sl → Prop} {y : Str} (i j : Nat) (hN : X.N.Nodup) (q : Q ((ρ.set i (.dat d1)).set j (.dat d2))) (hi : X.N[i]? = some x := by rfl) (hj : X.N[j]? = some y := by rfl) (hx : Loc X.env.scope x := by first | exact Or.inl rfl | exact Or.inr rfl) (hy : Loc X.env.scope y := by first | exact Or.inl rfl | exact Or.inr rfl)
    (hf : X.fn x = true ∨ X.env.scope.names.lookup x = some .local := by first | exact .inl rfl | exact .inr rfl) (hf2 : X.fn y = true ∨ X.env.scope.names.lookup y = some .local := by first | exact .inl rfl | exact .inr rfl)
    (ha : (assignEach [.Name x p, .Name y p2] X.env) = (assignEach [.Name x p] X.env) ++ (assignEach [.Name y p2] X.env) := by rfl) : DGs X G ρ [.Name x p, .Name y p2] [d1, d2] Q := fun σ H vs I r Q' U => by
  cases r with
  | cons r1 r =>
    cases r with
    | cons r2 r =>
      cases r
      have I1 := I.dat i (toTrue r1)
      have r2' : Rp G.K (bs G (ρ.set i (.dat d1)) true) H _ d2 := r2.mv (mv_sub fun b hb => by
        unfold bs at hb; rw [if_pos rfl] at hb
        rcases List.mem_append.mp hb with m | m
        · exact List.mem_append_left _ m
        · rcases owns_set_mem m with m | m
          · cases m
          · exact List.mem_append_right _ m)
      have I2 := I1.dat j r2'
      refine ⟨gCons (gName i) (gCons (gName j) gNil), pgs_cons (L2.pg_name hN hi hx hf) (pgs_cons (L2.pg_name hN hj hy hf2) pgs_nil), ?_⟩
      exact ⟨_, _, rfl, _, _, rfl, rfl, U _ _ H I2 q⟩
theorem dg_tup {d : List D} {es : List Expr} {k : Nat} {Q : List Sl → Prop} (hK : X.K = G.K) (hc : X.calm = true) (h : DGs X G ρ es d Q) (hl : d.length = es.length)
    (hn : (assignEach es X.env).length = es.length := by rfl) (hst : (assignEach es X.env).findIdx? (·.1) = none := by rfl) : DG X G ρ (.Tuple es k pos) (.tup d) Q := fun σ H v I r Q' U => by
  obtain ⟨a, vs, rfl, ha, r⟩ := r.tupI
  obtain ⟨g, hg, q⟩ := h σ H vs I r Q' U
  exact ⟨_, pg_tup (n := es.length) hc hg hn hst, a, vs, rfl, hK ▸ ha, by rw [r.length, hl], q⟩
/-- target = e -/
theorem ds_asg {tg : Expr} (h : DE X G ρ true e fun d => DG X G ρ tg d E.nx) (hs : swapsWithSole [tg] e pos.line X.env = pure false := by rfl) (hw : swappedStores [tg] e X.env = pure none := by rfl) (h1 : (assignEach [tg] X.env).map (·.2) = [assign tg X.env] := by rfl) : DS X G ρ (.Assign [tg] e pos) E := fun σ H I D U =>
  ssem_of (L2.ps_asg pe_sem pg_sem hs hw h1) (h σ H I _ fun v H1 d k s r q => q σ H1 v (I.kp k s) (ofTrue (O := []) r) _ fun ρ' σ' H' I' w => U.nx ρ' σ' H' I' w)
/-- a, b = e1, e2 -/
theorem ds_par {y : Str} {a b : Expr} {px py pt : Pos} {kt k2 pt2} (i j : Nat) (hc : X.calm = true) (hN : X.N.Nodup) (h : DA X G ρ true [a, b] fun ds => ∃ d1 d2, ds = [d1, d2] ∧ E.nx ((ρ.set i (.dat d1)).set j (.dat d2))) (hij : i ≠ j := by decide) (hi : X.N[i]? = some x := by rfl) (hj : X.N[j]? = some y := by rfl)
    (hx : X.env.scope.names.lookup x = some .local := by rfl) (hy : X.env.scope.names.lookup y = some .local := by rfl) (hw : swappedStores [.Tuple [.Name x px, .Name y py] kt pt] (.Tuple [a, b] k2 pt2) X.env = pure (some [x, y]) := by rfl)
    (hs : swapsWithSole [.Tuple [.Name x px, .Name y py] kt pt] (.Tuple [a, b] k2 pt2) pos.line X.env = pure false := by rfl) : DS X G ρ (.Assign [.Tuple [.Name x px, .Name y py] kt pt] (.Tuple [a, b] k2 pt2) pos) E := fun σ H I D U =>
  ssem_of (L2.ps_par hc hN hi hj hij hx hy pa_sem hw hs) (h σ H I _ fun vs H1 ds k s r q => by
    obtain ⟨d1, d2, rfl, q⟩ := q
    obtain ⟨v, u, rfl, r1, r2⟩ := r.twoI
    have I1 := (I.kp k s).dat i r1
    have r2' : Rp G.K (bs G (ρ.set i (.dat d1)) true) H1 u d2 := (ofTrue (O := []) r2).mv (mv_sub fun b hb => by
      unfold bs at hb; rw [if_pos rfl] at hb
      rcases List.mem_append.mp hb with m | m
      · exact List.mem_append_left _ m
      · rcases owns_set_mem m with m | m
        · cases m
        · exact List.mem_append_right _ m)
    exact ⟨v, u, rfl, U.nx _ _ H1 (I1.dat j r2') q⟩)
/-- x += e -/
def PIpAdd (K : PySem.W.Frag) : TIp := ipI (· + ·)
theorem ds_augI {d : D} (i : Nat) (hN : X.N.Nodup) (h0 : ρ[i]? = some (.dat d)) (h : DE X G ρ false e fun y => addD d y fun z => (∃ k, z = .int k) ∧ E.nx (ρ.set i (.dat z))) (hi : X.N[i]? = some x := by rfl) (hx : Loc X.env.scope x := by first | exact Or.inl rfl | exact Or.inr rfl) (hf : X.fn x = true ∨ X.env.scope.names.lookup x = some .local := by first | exact .inl rfl | exact .inr rfl)
    (hps : PS X (.AugAssign (.Name x p) .Add e pos) (tAug i (eSem X e) (ipI (· + ·))) := by exact L2.ps_aug (by assumption) rfl (by first | exact Or.inl rfl | exact Or.inr rfl) pe_sem ip_add) : DS X G ρ (.AugAssign (.Name x p) .Add e pos) E := fun σ H I D U => by
  obtain ⟨y, hy, v, rfl, r⟩ := I.slot i _ h0
  refine ssem_of hps ⟨v, hy, h σ H I _ fun u H1 d2 k s r2 q => ?_⟩
  replace q : addD d d2 (fun z => (∃ k, z = Dw.D.int k) ∧ E.nx (ρ.set i (.dat z))) := q
  unfold addD at q
  split at q
  · cases r; cases r2
    exact ⟨_, _, rfl, rfl, U.nx _ _ H1 ((I.kp k s).dat i (.int _)) q.2.2⟩
  · obtain ⟨_, ⟨_, h⟩, _⟩ := q; cases h
  · obtain ⟨_, ⟨_, h⟩, _⟩ := q; cases h
  · obtain ⟨_, ⟨_, h⟩, _⟩ := q; cases h
  · exact q.elim

/-! ### what is walked -/
/-- the turns of an iterator yield the items, as long as what is held stands -/
def ItOk (K : PySem.W.Frag) (J : It) (items : List D) (pins : List (V × D)) : Prop :=
  ∀ (i : Nat) (H : Hp) (O : List Addr), (∀ p ∈ pins, Rp K O H p.1 p.2) → (∀ a ∈ O, ∃ o, H a = some o) →
    (i = items.length → J.stop i H) ∧ ∀ d, items[i]? = some d → J.go i H ∧ ∀ x H', J.yld i H x H' → (∀ b o, H b = some o → H' b = some o) ∧ Rp K O H' x d
def iSem (X : Cx) (tg iter : Expr) : TI := fun σ H R => ∃ wi, PI X tg iter wi ∧ wi σ H R
theorem pi_sem {tg iter : Expr} : PI X tg iter (iSem X tg iter) := ⟨fun pins s σ H R I h => by
  obtain ⟨wi, hw, q⟩ := h
  exact hw.run pins s σ H R I q⟩
def DI (X : Cx) (G : Gx) (ρ : List Sl) (tg iter : Expr) (Q : List D → Prop) : Prop := ∀ σ H, StOk G ρ σ H → ∀ R : It → Hp → Prop,
  (∀ J H' items pins, Kp G.T G.S H H' → SrcOk G.S H' → (∀ p ∈ pins, Rp G.K (G.O ++ owns ρ) H' p.1 p.2) → ItOk G.K J items pins → Q items → R J H') → iSem X tg iter σ H R
/-- a list or a tuple -/
def iSeq (K : PySem.W.Frag) (tl : TE) : TI := fun σ H R => tl σ H fun x H1 => ∃ a, x = .ref a ∧ (((∃ xs, SqL K H1 a xs) ∧ R (Itl K a) H1) ∨ ((∃ xs, SqT K H1 a xs) ∧ R (Itt K a) H1))
theorem pi_seq {tg l : Expr} {tl : TE} (hl : PE X l tl) : PI X tg l (iSeq X.K tl) := by
  refine ⟨fun pins s σ H R I h => ?_⟩
  refine thn (hl.run pins s σ H _ I h) fun v s1 ⟨x, H1, I1, r1, q1⟩ => ?_
  obtain ⟨a, e, q1⟩ := q1
  subst e
  cases r1
  rcases q1 with ⟨⟨xs, hq⟩, q⟩ | ⟨⟨xs, hq⟩, q⟩
  · obtain ⟨its, rv, p, hz⟩ := I1.list hq
    refine wpAny_pyIter_list p.isList ?_
    refine ⟨s1.heap.objs.size, [s1.heap.objs.size], _, _, H1, rfl, I1.kept (t' := s1.toks) fun b o e => Heap.get?_push_of_some _ e, turn_list a _, ⟨_, Heap.get?_push_size _ rfl, rfl, rfl⟩, fun b hb => ?_, q⟩
    have e : b = s1.heap.objs.size := by simpa using hb
    subst e
    exact I1.fpOk (Nat.le_refl _) (I1.hok.fresh (Nat.le_refl _))
  · obtain ⟨its, rv, p, hz⟩ := I1.tuple hq
    refine wpAny_pyIter_tuple (show s1.heap.IsTuple a its.toArray from p) ?_
    refine ⟨s1.heap.objs.size, [s1.heap.objs.size], _, _, H1, rfl, I1.kept (t' := s1.toks) fun b o e => Heap.get?_push_of_some _ e, turn_tuple a _, ⟨_, Heap.get?_push_size _ rfl, rfl, rfl⟩, fun b hb => ?_, q⟩
    have e : b = s1.heap.objs.size := by simpa using hb
    subst e
    exact I1.fpOk (Nat.le_refl _) (I1.hok.fresh (Nat.le_refl _))
theorem getOf {α β : Type} {R : α → β → Prop} {xs : List α} {ys : List β} {i : Nat} {x : α} (h : xs[i]? = some x) (hl : i < ys.length) : ys[i]? = some ys[i] := by simp [hl]
theorem itOk_lst {K : PySem.W.Frag} {a : Addr} {ds : List D} : ItOk K (Itl K a) ds [(.ref a, .lst ds)] := fun i H O hp ht => by
  obtain ⟨a', vs, e, ha, n, r⟩ := (hp _ (List.mem_singleton.mpr rfl)).lstI
  cases e
  refine ⟨fun e => ⟨vs, .of ha, by rw [r.length, e]; exact Nat.le_refl _⟩, fun d hd => ?_⟩
  obtain ⟨v, hv, rv⟩ := r.getD' hd
  refine ⟨⟨vs, v, .of ha, hv⟩, fun x H' hy => ?_⟩
  obtain ⟨e, y⟩ := hy
  subst e
  have := y vs (.of ha)
  rw [hv] at this
  cases this
  exact ⟨fun _ _ h => h, rv⟩
theorem itOk_tup {K : PySem.W.Frag} {a : Addr} {ds : List D} : ItOk K (Itt K a) ds [(.ref a, .tup ds)] := fun i H O hp ht => by
  obtain ⟨a', vs, e, ha, r⟩ := (hp _ (List.mem_singleton.mpr rfl)).tupI
  cases e
  refine ⟨fun e => ⟨vs, ha, by rw [r.length, e]; exact Nat.le_refl _⟩, fun d hd => ?_⟩
  obtain ⟨v, hv, rv⟩ := r.getD' hd
  refine ⟨⟨vs, v, ha, hv⟩, fun x H' hy => ?_⟩
  obtain ⟨e, y⟩ := hy
  subst e
  have := y vs ha
  rw [hv] at this
  cases this
  exact ⟨fun _ _ h => h, rv⟩
theorem di_seq {tg : Expr} {Q : List D → Prop} (hK : X.K = G.K) (h : DE X G ρ true e fun d => seqD d Q) : DI X G ρ tg e Q := fun σ H I R U =>
  ⟨_, pi_seq pe_sem, h σ H I _ fun v H1 d k s r q => by
    replace q : seqD d Q := q
    unfold seqD at q
    split at q
    · obtain ⟨a, vs, rfl, ha, n, r2⟩ := r.lstI
      exact ⟨a, rfl, .inl ⟨⟨vs, .of ha⟩, U (Itl X.K a) H1 _ [(.ref a, .lst _)] k s (fun p hp => by rw [List.mem_singleton.mp hp]; exact ofTrue (O := []) r) (by rw [hK]; exact itOk_lst) q⟩⟩
    · obtain ⟨a, vs, rfl, ha, r2⟩ := r.tupI
      exact ⟨a, rfl, .inr ⟨⟨vs, hK ▸ ha⟩, U (Itt X.K a) H1 _ [(.ref a, .tup _)] k s (fun p hp => by rw [List.mem_singleton.mp hp]; exact ofTrue (O := []) r) (by rw [hK]; exact itOk_tup) q⟩⟩
    · exact q.elim⟩
theorem rg_length (i j : Int) : (rg i j).length = (j - i).toNat := by unfold rg; rw [List.length_map, List.length_range]
theorem itOk_rng {K : PySem.W.Frag} {lo hi : Int} {n : Nat} (hn : n = (hi - lo).toNat) : ItOk K (Itr lo n) ((rg lo hi).map D.int) [] := fun i H O hp ht => by
  refine ⟨fun e => ?_, fun d hd => ?_⟩
  · rw [List.length_map, rg_length, ← hn] at e
    exact Nat.le_of_eq e.symm
  · have hl := (List.getElem?_eq_some_iff.mp hd).1
    rw [List.length_map, rg_length, ← hn] at hl
    refine ⟨hl, fun x H' y => ?_⟩
    obtain ⟨e, rfl⟩ := y
    subst e
    have : d = D.int (lo + i) := by
      rw [List.getElem?_map] at hd
      unfold rg at hd
      rw [List.getElem?_map, List.getElem?_range (by rw [← hn]; exact hl)] at hd
      exact (Option.some.inj hd).symm
    rw [this]
    exact ⟨fun _ _ h => h, .int _⟩
def rng1D : List D → (List D → Prop) → Prop
  | [.int j], Q => SmallRg 0 j ∧ Q ((rg 0 j).map D.int)
  | _, _ => False
def rng2D : List D → (List D → Prop) → Prop
  | [.int i, .int j], Q => SmallRg i j ∧ Q ((rg i j).map D.int)
  | _, _ => False
theorem di_rng1 {tg : Expr} {Q : List D → Prop} (hm : X.mg "range" = none) (h : DA X G ρ false [a] fun ds => rng1D ds Q) (hg : Gl X "range" := by rfl) (hs : starEach [a] X.env = [(false, eval a X.env)] := by rfl) : DI X G ρ tg (.Call (.Name "range" p) [a] [] pos) Q := fun σ H I R U =>
  ⟨_, pi_range1 hg hm pa_sem hs, h σ H I _ fun vs H1 ds k s r q => by
    replace q : rng1D ds Q := q
    unfold rng1D at q
    split at q
    · obtain ⟨v, rfl, r1⟩ := r.oneI
      cases r1
      have h1 := q.1.2.2.1
      have h2 := q.1.2.2.2
      exact ⟨_, rfl, by omega, by omega, U _ H1 _ [] k s (fun p hp => nomatch hp) (itOk_rng (by rw [Int.sub_zero])) q.2⟩
    · exact q.elim⟩
theorem di_rng2 {tg : Expr} {Q : List D → Prop} (hm : X.mg "range" = none) (h : DA X G ρ false [a, b] fun ds => rng2D ds Q) (hg : Gl X "range" := by rfl) (hs : starEach [a, b] X.env = [(false, eval a X.env), (false, eval b X.env)] := by rfl) (hs2 : starEach [b] X.env = [(false, eval b X.env)] := by rfl) : DI X G ρ tg (.Call (.Name "range" p) [a, b] [] pos) Q := fun σ H I R U =>
  ⟨_, pi_range2 hg hm pa_sem hs hs2, h σ H I _ fun vs H1 ds k s r q => by
    replace q : rng2D ds Q := q
    unfold rng2D at q
    split at q
    · obtain ⟨v, u, rfl, r1, r2⟩ := r.twoI
      cases r1; cases r2
      have h0 := q.1.1
      have h00 := q.1.2.1
      have h1 := q.1.2.2.1
      have h2 := q.1.2.2.2
      exact ⟨_, _, rfl, ⟨by omega, by omega, by omega, by omega⟩, U _ H1 _ [] k s (fun p hp => nomatch hp) (itOk_rng rfl) q.2⟩
    · exact q.elim⟩
end
end Dw

/-! loops, comprehensions -/
namespace Dw
open PySem PySem.Spec PyProof.Rows L2

/-- less is known: some slots forgotten -/
def Le : List Sl → List Sl → Prop
  | [], [] => True
  | .any :: r, _ :: r' => Le r r'
  | s :: r, s' :: r' => s = s' ∧ Le r r'
  | _, _ => False
theorem Le.refl : ∀ ρ : List Sl, Le ρ ρ
  | [] => trivial
  | s :: r => by cases s <;> simp [Le, Le.refl r]
theorem Le.length : ∀ {ρ ρ' : List Sl}, Le ρ ρ' → ρ.length = ρ'.length
  | [], [], _ => rfl
  | [], _ :: _, h => by simp [Le] at h
  | s :: r, [], h => by cases s <;> simp [Le] at h
  | s :: r, s' :: r', h => by
    have : Le r r' := by cases s <;> simp [Le] at h <;> first | exact h.2 | exact h
    rw [List.length_cons, List.length_cons, Le.length this]
theorem Le.get : ∀ {ρ ρ' : List Sl} {i : Nat} {s : Sl}, Le ρ ρ' → ρ[i]? = some s → s = .any ∨ ρ'[i]? = some s
  | [], _, _, _, _, e => by simp at e
  | s :: r, [], _, _, h, _ => by cases s <;> simp [Le] at h
  | s :: r, s' :: r', 0, t, h, e => by
    have e : s = t := by simpa using e
    subst e
    cases s with
    | any => exact .inl rfl
    | dat d => simp [Le] at h; exact .inr (by simp [h.1])
    | own a ds => simp [Le] at h; exact .inr (by simp [h.1])
    | ownD a ds => simp [Le] at h; exact .inr (by simp [h.1])
  | s :: r, s' :: r', i + 1, t, h, e => by
    have hr : Le r r' := by cases s <;> simp [Le] at h <;> first | exact h.2 | exact h
    have := Le.get hr (by simpa using e)
    simpa using this
theorem Le.owns : ∀ {ρ ρ' : List Sl}, Le ρ ρ' → (owns ρ).Sublist (owns ρ')
  | [], [], _ => List.Sublist.refl _
  | [], _ :: _, h => by simp [Le] at h
  | s :: r, [], h => by cases s <;> simp [Le] at h
  | s :: r, s' :: r', h => by
    have hr : Le r r' := by cases s <;> simp [Le] at h <;> first | exact h.2 | exact h
    rw [owns_cons, owns_cons]
    refine List.Sublist.append ?_ (Le.owns hr)
    cases s with
    | any => exact List.nil_sublist _
    | dat d => exact List.nil_sublist _
    | own a ds => simp [Le] at h; rw [← h.1]; exact List.Sublist.refl _
    | ownD a ds => simp [Le] at h; rw [← h.1]; exact List.Sublist.refl _
theorem StOk.le {G : Gx} {ρ ρ' : List Sl} {σ : L2.St} {H : Hp} (I : StOk G ρ' σ H) (h : Le ρ ρ') : StOk G ρ σ H := by
  have so := h.owns
  have sub : ∀ a ∈ G.O ++ Dw.owns ρ, a ∈ G.O ++ Dw.owns ρ' := fun a ha => by
    rw [List.mem_append] at ha ⊢
    exact ha.imp id fun q => so.subset q
  refine ⟨I.len.trans h.length.symm, fun i s e => ?_, I.ext, I.src, I.srcO, I.trk, I.nd.sublist so, fun a ha => I.nO a (so.subset ha), fun a ha => I.fr a (so.subset ha), fun p hp => (I.pin p hp).mv (mv_sub sub)⟩
  rcases h.get e with z | z
  · subst z
    have hl : i < σ.length := by
      rw [I.len, ← h.length]
      exact (List.getElem?_eq_some_iff.mp e).1
    exact ⟨σ[i], by simp [hl], trivial⟩
  · obtain ⟨x, hx, ok⟩ := I.slot i s z
    exact ⟨x, hx, ok.sub sub⟩
/-- what is wanted, of less -/
def Wk (I : List Sl → Prop) (ρ : List Sl) : Prop := ∃ ρ', Le ρ' ρ ∧ I ρ'
theorem wk {I : List Sl → Prop} {ρ : List Sl} (h : I ρ) : Wk I ρ := ⟨ρ, Le.refl ρ, h⟩

/-- pins -/
abbrev Gx.pn (G : Gx) (P : List (V × D)) : Gx := { G with P := P }
theorem StOk.unpin {G : Gx} {ρ : List Sl} {σ : L2.St} {H : Hp} {P : List (V × D)} (I : StOk (G.pn (P ++ G.P)) ρ σ H) : StOk G ρ σ H :=
  ⟨I.len, I.slot, I.ext, I.src, I.srcO, I.trk, I.nd, I.nO, I.fr, fun p hp => I.pin p (List.mem_append_right _ hp)⟩
theorem StOk.dopin {G : Gx} {ρ : List Sl} {σ : L2.St} {H : Hp} {P : List (V × D)} (I : StOk G ρ σ H) (h : ∀ p ∈ P, Rp G.K (G.O ++ owns ρ) H p.1 p.2) : StOk (G.pn (P ++ G.P)) ρ σ H :=
  ⟨I.len, I.slot, I.ext, I.src, I.srcO, I.trk, I.nd, I.nO, I.fr, fun p hp => (List.mem_append.mp hp).elim (h p) (I.pin p)⟩

section
variable {X : Cx} {G : Gx} {ρ : List Sl} {E : DEnds} {e a b iter tg elt : Expr} {es ifs : List Expr} {st : Stmt} {sts sts2 rest body : List Stmt} {pos p p2 p3 : Pos} {x : Str}
theorem UpS.pin {D : Ends} {P : List (V × Dw.D)} (U : UpS G E D) : UpS (G.pn (P ++ G.P)) E D := ⟨fun ρ σ H I => U.nx ρ σ H I.unpin, U.rt, fun ρ σ H I => U.bk ρ σ H I.unpin, fun ρ σ H I => U.ct ρ σ H I.unpin⟩

theorem SrcOk.of_all {S : Option (Addr × Addr)} {H H' : Hp} (s : SrcOk S H) (h : ∀ b o, H b = some o → H' b = some o) : SrcOk S H' := fun a c e => by
  obtain ⟨cells, l, m, t, e1, e2, e3⟩ := s a c e
  exact ⟨cells, l, m, t, h _ _ e1, h _ _ e2, e3⟩

theorem ds_for (hp : PassesOwn (model X.prog X.w) X.A X.env X.xe) (hc : X.calm = true)
    (h : DI X G ρ tg iter fun items => ∃ Inv : Nat → List Sl → Prop, Inv 0 ρ ∧ (∀ P i d ρ', items[i]? = some d → Inv i ρ' → DG X (G.pn P) ρ' tg d fun ρ2 => DSs X (G.pn P) ρ2 body { nx := Wk (Inv (i + 1)), ct := Wk (Inv (i + 1)), bk := E.nx, rt := E.rt }) ∧ ∀ ρ', Inv items.length ρ' → E.nx ρ')
    (hs : ∀ x, foldedSetIterable iter X.env x = pure x := by intro _; rfl) : DS X G ρ (.For tg iter body [] pos) E := fun σ H I D U =>
  ssem_of (L2.ps_for hp hc pi_sem pg_sem pss_sem hs) (h σ H I _ fun J H1 items pins k s hpin ok q => by
    obtain ⟨Inv, i0, turn, fin⟩ := q
    have I0 := (I.kp k s).dopin hpin
    refine ⟨fun i m σ H => m = items.length - i ∧ i ≤ items.length ∧ ∃ ρ, Inv i ρ ∧ StOk (G.pn (pins ++ G.P)) ρ σ H, ⟨items.length, rfl, Nat.zero_le _, ρ, i0, I0⟩, ?_⟩
    rintro i m σ H ⟨rfl, hi, ρ', hI, I'⟩
    obtain ⟨h1, h2⟩ := ok i H (G.O ++ owns ρ') (fun p hp => I'.pin p (List.mem_append_left _ hp)) fun a ha => (List.mem_append.mp ha).elim (I'.trk a) (I'.trkO a)
    by_cases hl : i < items.length
    · obtain ⟨go, yld⟩ := h2 items[i] (by simp [hl])
      refine .inr ⟨go, fun σ H => ∃ ρ, Inv (i + 1) ρ ∧ StOk (G.pn (pins ++ G.P)) ρ σ H, fun σ' H' ⟨ρ2, a, b⟩ => ⟨items.length - (i + 1), by omega, rfl, hl, ρ2, a, b⟩, fun x H' y => ?_⟩
      obtain ⟨k2, r2⟩ := yld x H' y
      have I2 : StOk (G.pn (pins ++ G.P)) ρ' σ H' := I'.kp (Kp.of_all k2) (I'.src.of_all k2)
      refine turn (pins ++ G.P) i items[i] ρ' (by simp [hl]) hI σ H' x I2 r2 _ fun ρ3 σ3 H3 I3 w => w σ3 H3 I3 _ ⟨fun ρ4 σ4 H4 I4 ⟨ρ5, l5, v5⟩ => ⟨ρ5, v5, I4.le l5⟩, U.rt, fun ρ4 σ4 H4 I4 v => U.nx ρ4 σ4 H4 I4.unpin v, fun ρ4 σ4 H4 I4 ⟨ρ5, l5, v5⟩ => ⟨ρ5, v5, I4.le l5⟩⟩
    · have e : i = items.length := by omega
      exact .inl ⟨h1 e, U.nx ρ' σ H I'.unpin (fin ρ' (e ▸ hI))⟩)
theorem ds_while (hp : PassesOwn (model X.prog X.w) X.A X.env X.xe)
    (h : ∃ Inv : Nat → List Sl → Prop, (∃ m, Inv m ρ) ∧ ∀ m ρ', Inv m ρ' → DT X G ρ' e fun t => if t = true then DSs X G ρ' body { nx := fun ρ3 => ∃ m', m' < m ∧ Wk (Inv m') ρ3, ct := fun ρ3 => ∃ m', m' < m ∧ Wk (Inv m') ρ3, bk := E.nx, rt := E.rt } else E.nx ρ') : DS X G ρ (.While e body [] pos) E := fun σ H I D U =>
  ssem_of (L2.ps_while hp pt_sem pss_sem) (by
    obtain ⟨Inv, ⟨m0, i0⟩, turn⟩ := h
    refine ⟨fun m σ H => ∃ ρ, Inv m ρ ∧ StOk G ρ σ H, ⟨m0, ρ, i0, I⟩, ?_⟩
    rintro m σ H ⟨ρ', hI, I'⟩
    refine turn m ρ' hI σ H I' _ fun t H1 k s q => ?_
    have I1 := I'.kp k s
    cases t with
    | false => exact U.nx ρ' σ H1 I1 q
    | true =>
      refine ⟨fun σ H => ∃ m', m' < m ∧ ∃ ρ, Inv m' ρ ∧ StOk G ρ σ H, fun σ' H' ⟨m', a, b⟩ => ⟨m', a, b⟩, q σ H1 I1 _ ⟨fun ρ4 σ4 H4 I4 ⟨m', l, ρ5, l5, v5⟩ => ⟨m', l, ρ5, v5, I4.le l5⟩, U.rt, fun ρ4 σ4 H4 I4 v => U.nx ρ4 σ4 H4 I4 v, fun ρ4 σ4 H4 I4 ⟨m', l, ρ5, l5, v5⟩ => ⟨m', l, ρ5, v5, I4.le l5⟩⟩⟩)

/-! ### comprehensions -/
def wipeS (ρ : List Sl) : List Nat → List Sl
  | [] => ρ
  | v :: vs => (wipeS ρ vs).set v .any
theorem StOk.wipe {σ : L2.St} {H : Hp} (I : StOk G ρ σ H) : ∀ vs : List Nat, StOk G (wipeS ρ vs) (L2.wipe σ vs) H
  | [] => I
  | v :: vs => (I.wipe vs).set0 v rfl trivial
theorem wipe_set {σ : L2.St} {v : Nat} {x : Option V} : ∀ {vs : List Nat}, v ∈ vs → L2.wipe (σ.set v x) vs = L2.wipe σ vs
  | [], h => by cases h
  | w :: vs, h => by
    unfold L2.wipe
    by_cases e : v ∈ vs
    · rw [wipe_set e]
    · obtain rfl : v = w := by
        rcases List.mem_cons.mp h with q | q
        · exact q
        · exact absurd q e
      have key : ∀ us : List Nat, L2.wipe (σ.set v x) us = (L2.wipe σ us).set v (if v ∈ us then none else x) ∨ L2.wipe (σ.set v x) us = L2.wipe σ us := fun us => by
        induction us with
        | nil => exact .inl (by simp [L2.wipe])
        | cons u us ih =>
          unfold L2.wipe
          rcases ih with ih | ih
          · rw [ih]
            by_cases z : v = u
            · subst z
              exact .inr (by rw [List.set_set])
            · refine .inl ?_
              rw [List.set_comm _ _ z]
              simp [z]
          · rw [ih]; exact .inr rfl
      rcases key vs with q | q
      · rw [q, List.set_set]
      · rw [q]
theorem wipe_wipe (σ : L2.St) : ∀ vs ws : List Nat, (∀ v ∈ ws, v ∈ vs) → L2.wipe (L2.wipe σ ws) vs = L2.wipe σ vs
  | vs, [], _ => rfl
  | vs, w :: ws, h => by
    show L2.wipe ((L2.wipe σ ws).set w none) vs = _
    rw [wipe_set (h w (by simp)), wipe_wipe σ vs ws fun v hv => h v (by simp [hv])]
/-- a target of a comprehension: it stores to the block's own names alone -/
def DGw (X : Cx) (G : Gx) (ρ : List Sl) (vs : List Nat) (tg : Expr) (d : D) (g : TG) (Q : List Sl → Prop) : Prop := ∀ σ H v, StOk G ρ σ H → Rp G.K (G.O ++ owns ρ) H v d → ∀ Q' : L2.St → Hp → Prop, (∀ ρ' σ', StOk G ρ' σ' H → L2.wipe σ' vs = L2.wipe σ vs → (∀ a ∈ owns ρ, a ∈ owns ρ') → Q ρ' → Q' σ' H) → g v σ H Q'
theorem owns_dat {d : D} {i : Nat} (h : ρ[i]? = some .any) : ∀ a ∈ owns ρ, a ∈ owns (ρ.set i (.dat d)) := fun a ha => by
  rw [owns_set_same (s := .dat d) (s0 := .any) rfl h]; exact ha
theorem dgw_name {d : D} {Q : List Sl → Prop} (i : Nat) {vs : List Nat} (q : Q (ρ.set i (.dat d))) (hi : i ∈ vs := by decide) (h0 : ρ[i]? = some .any := by rfl) : DGw X G ρ vs (.Name x pos) d (gName i) Q := fun σ H v I r Q' U => U _ _ (I.dat i (toTrue r)) (wipe_set hi) (owns_dat h0) q
theorem dgw_tup2 {d : List D} {d1 d2 : D} {Q : List Sl → Prop} (i j : Nat) {vs : List Nat} {es : List Expr} {k : Nat} (hd : d = [d1, d2]) (q : Q ((ρ.set i (.dat d1)).set j (.dat d2))) (hi : i ∈ vs := by decide) (hj : j ∈ vs := by decide) (h0 : ρ[i]? = some .any := by rfl) (h1 : ρ[j]? = some .any := by rfl) (hij : i ≠ j := by decide) : DGw X G ρ vs (.Tuple es k pos) (.tup d) (gTup G.K 2 (gCons (gName i) (gCons (gName j) gNil))) Q := fun σ H v I r Q' U => by
  subst hd
  obtain ⟨a, us, rfl, ha, r⟩ := r.tupI
  cases r with
  | cons r1 r =>
    cases r with
    | cons r2 r =>
      cases r
      have I1 := I.dat i (toTrue r1)
      have r2' : Rp G.K (bs G (ρ.set i (.dat d1)) true) H _ d2 := r2.mv (mv_sub fun b hb => by
        unfold bs at hb; rw [if_pos rfl] at hb
        rcases List.mem_append.mp hb with m | m
        · exact List.mem_append_left _ m
        · rcases owns_set_mem m with m | m
          · cases m
          · exact List.mem_append_right _ m)
      exact ⟨a, _, rfl, ha, rfl, _, _, rfl, _, _, rfl, rfl, U _ _ (I1.dat j r2') (by rw [wipe_set hj, wipe_set hi]) (fun a ha => owns_dat (by rw [List.getElem?_set_ne hij]; exact h1) a (owns_dat h0 a ha)) q⟩
/-- the surroundings of a comprehension's block: the new list at q -/
abbrev Gx.lc (G : Gx) (q : Addr) (P : List (V × D)) : Gx := { G with O := q :: G.O, P := P }
theorem StOk.lc {σ : L2.St} {H : Hp} {q : Addr} {u : HO} {P : List (V × D)} (I : StOk G ρ σ H) (hq : H q = none) (h : ∀ p ∈ P, Rp G.K (G.O ++ owns ρ) H p.1 p.2) : StOk (G.lc q P) ρ σ (upd H q u) := by
  have n1 : q ∉ owns ρ := fun m => by
    obtain ⟨o, e⟩ := I.trkO q m
    rw [hq] at e; cases e
  have mv : Mv (G.O ++ owns ρ) (q :: G.O ++ owns ρ) H (upd H q u) := fun b o n e t_ => by
    have ne := ne_of_none e hq
    exact ⟨fun m => (List.mem_cons.mp m).elim ne n, by rw [upd_ne ne]; exact e⟩
  refine ⟨I.len, fun i s e => ?_, I.ext.trans (Kp.new hq), I.src.new hq, fun a c e => ?_, fun a ha => ?_, I.nd, fun a ha m => ?_, I.fr, fun p hp => (h p hp).mv mv⟩
  · obtain ⟨x, hx, ok⟩ := I.slot i s e
    refine ⟨x, hx, ok.mv mv fun a ha o z t_ => ?_⟩
    rw [upd_ne (ne_of_none z hq)]; exact z
  · obtain ⟨h1, h2, h3⟩ := I.srcO a c e
    exact ⟨List.mem_cons_of_mem _ h1, List.mem_cons_of_mem _ h2, h3⟩
  · rcases List.mem_cons.mp ha with z | z
    · exact ⟨u, by rw [z]; exact upd_same⟩
    · obtain ⟨o, e⟩ := I.trk a z
      exact ⟨o, by rw [upd_ne (ne_of_none e hq)]; exact e⟩
  · rcases List.mem_cons.mp m with z | z
    · exact n1 (z ▸ ha)
    · exact I.nO a ha z
/-- the list at q grows -/
theorem StOk.lcg {σ : L2.St} {H : Hp} {q : Addr} {u w : HO} {P : List (V × D)} (I : StOk (G.lc q P) ρ σ H) (hw : H q = some w) (hk : (∃ xs, w = .lst xs) ∨ ∃ xs, w = .dK xs) (h0 : G.H0 q = none) (nS : ∀ a c, G.S = some (a, c) → q ≠ a ∧ q ≠ c) : StOk (G.lc q P) ρ σ (upd H q u) := by
  have mv : Mv (q :: G.O ++ owns ρ) (q :: G.O ++ owns ρ) H (upd H q u) := fun b o n e t_ => by
    have ne : b ≠ q := fun z => n (by rw [z]; simp)
    exact ⟨n, by rw [upd_ne ne]; exact e⟩
  refine ⟨I.len, fun i s e => ?_, I.ext.upd h0 hw hk, fun a c e => ?_, I.srcO, fun a ha => ?_, I.nd, I.nO, I.fr, fun p hp => (I.pin p hp).mv mv⟩
  · obtain ⟨x, hx, ok⟩ := I.slot i s e
    refine ⟨x, hx, ok.mv mv fun a ha o z t_ => ?_⟩
    have ne : a ≠ q := fun w => I.nO a (mem_owns e ha) (by rw [w]; simp)
    rw [upd_ne ne]; exact z
  · obtain ⟨cells, l, m, t, e2, e3, e4⟩ := I.src a c e
    exact ⟨cells, l, m, t, by rw [upd_ne (nS a c e).1.symm]; exact e2, by rw [upd_ne (nS a c e).2.symm]; exact e3, e4⟩
  · by_cases z : a = q
    · exact ⟨u, by rw [z]; exact upd_same⟩
    · obtain ⟨o, e⟩ := I.trk a ha
      exact ⟨o, by rw [upd_ne z]; exact e⟩

/-- the block's run in any of its contexts -/
def blkAll (X : Cx) (scope : Scope) (P : Cx → Prop) : Prop := ∀ (s : Shared) (H : Hp) (C : Addr) (cl : List (Str × Addr)) (fp : List Addr), P (X.blk s H scope (compEnvC scope cl C X.env) fp)
def eAll (X : Cx) (scope : Scope) (e : Expr) : TE := fun σ H Q => blkAll X scope fun Y => eSem Y e σ H Q
def tAll (X : Cx) (scope : Scope) : List Expr → TT
  | [] => tYes
  | e :: _ => fun σ H Q => blkAll X scope fun Y => tSem Y e σ H Q
/-- the tests: none, or one -/
def DTs (X : Cx) (G : Gx) (ρ : List Sl) : List Expr → (Bool → Prop) → Prop
  | [], Q => Q true
  | e :: _, Q => DT X G ρ e Q
/-- a comprehension: Acc by the turn and the items that are made -/
def DLc (X : Cx) (G : Gx) (ρ : List Sl) (c : Bool) (elt tg iter : Expr) (ifs : List Expr) (scope : Scope) (vs : List Nat) (g : TG) (Q : List D → Prop) : Prop :=
  DI X G ρ tg iter fun items => items.length ≤ 100000 ∧ ∃ Acc : Nat → List D → Prop, Acc 0 [] ∧ (∀ q P i d acc, items[i]? = some d → Acc i acc →
    DGw X (G.lc q P) (wipeS ρ vs) vs tg d g fun ρ2 => blkAll X scope fun Y => DTs Y (G.lc q P) ρ2 ifs fun t =>
      if t = true then blkAll X scope fun Z => DE Z (G.lc q P) ρ2 c elt fun y => Acc (i + 1) (acc ++ [y]) else Acc (i + 1) acc) ∧
    ∀ acc, Acc items.length acc → Q acc
theorem owns_wipe : ∀ (vs : List Nat) {ρ : List Sl} {a : Addr}, a ∈ owns (wipeS ρ vs) → a ∈ owns ρ
  | [], _, _, h => h
  | v :: vs, ρ, a, h => by
    rcases owns_set_mem h with q | q
    · cases q
    · exact owns_wipe vs q
/-- the block's run -/
theorem lc_run {σ : L2.St} {H : Hp} {c : Bool} {scope : Scope} {vs : List Nat} {g : TG} {Q : List D → Prop} {Q' : VK} (I : StOk G ρ σ H) (h : DLc X G ρ c elt tg iter ifs scope vs g Q) 
    (fin : ∀ p us H' ds, Kp G.T G.S H H' → SrcOk G.S H' → H p = none → H' p = some (.lst us) → RpAll G.K (p :: bs G (wipeS ρ vs) c) H' us ds → Q ds → Q' (.ref p) H') :
    tLc (iSem X tg iter) g (tAll X scope ifs) (eAll X scope elt) vs σ H Q' := by
  refine h σ H I _ fun J H1 items pins k s hpin ok ⟨hlen, Acc, a0, turn, fin2⟩ q hq => ?_
  have I1 := I.kp k s
  have h0 : G.H0 q = none := I.ext.trans k |>.back s hq
  have hH : H q = none := k.back s hq
  have nS : ∀ a c, G.S = some (a, c) → q ≠ a ∧ q ≠ c := fun a c e => by
    obtain ⟨_, _, _, _, e3, e4, _⟩ := s a c e
    exact ⟨fun z => (by rw [z, e3] at hq; cases hq), fun z => (by rw [z, e4] at hq; cases hq)⟩
  have nO : q ∉ G.O := fun m => by
    obtain ⟨o, e⟩ := I1.trk q m
    rw [hq] at e; cases e
  have Iw : StOk G (wipeS ρ vs) (L2.wipe σ vs) H1 := I1.wipe vs
  have hpin' : ∀ p ∈ pins, Rp G.K (G.O ++ owns (wipeS ρ vs)) H1 p.1 p.2 := fun p hp => (hpin p hp).mv (mv_sub fun a ha => by
    rw [List.mem_append] at ha ⊢
    exact ha.imp id fun z => owns_wipe vs z)
  -- the invariant
  refine ⟨fun i m H => m = items.length - i ∧ i ≤ items.length ∧ ∃ us acc, H q = some (.lst us) ∧ RpAll G.K (q :: bs G (wipeS ρ vs) c) H us acc ∧ Acc i acc ∧ acc.length ≤ i ∧ StOk (G.lc q pins) (wipeS ρ vs) (L2.wipe σ vs) H ∧ Kp G.T G.S H1 H,
    ⟨items.length, rfl, Nat.zero_le _, [], [], upd_same, .nil, a0, Nat.le_refl _, Iw.lc hq hpin', Kp.new hq⟩, ?_⟩
  rintro i m H2 ⟨rfl, hi2, us, acc, hu, ra, ha, hla, I2, k2⟩
  obtain ⟨h1, h2⟩ := ok i H2 (q :: G.O ++ owns (wipeS ρ vs)) (fun p hp => I2.pin p hp) fun a ha => (List.mem_append.mp ha).elim (I2.trk a) (I2.trkO a)
  by_cases hl : i < items.length
  · obtain ⟨go, yld⟩ := h2 items[i] (by simp [hl])
    refine .inr ⟨go, fun H => ∃ us acc, H q = some (.lst us) ∧ RpAll G.K (q :: bs G (wipeS ρ vs) c) H us acc ∧ Acc (i + 1) acc ∧ acc.length ≤ i + 1 ∧ StOk (G.lc q pins) (wipeS ρ vs) (L2.wipe σ vs) H ∧ Kp G.T G.S H1 H, fun H' w => ⟨items.length - (i + 1), by omega, rfl, hl, w⟩, fun x H3 y => ?_⟩
    obtain ⟨k3, r3⟩ := yld x H3 y
    have I3 : StOk (G.lc q pins) (wipeS ρ vs) (L2.wipe σ vs) H3 := I2.kp (Kp.of_all k3) (I2.src.of_all k3)
    have ra3 : RpAll G.K (q :: bs G (wipeS ρ vs) c) H3 us acc := ra.mv fun a o n e _ => ⟨n, k3 a o e⟩
    refine turn q pins i items[i] acc (by simp [hl]) ha (L2.wipe σ vs) H3 x I3 r3 _ fun ρ4 σ4 I4 w4 o4 blk => ⟨by rw [w4, wipe_wipe σ vs vs fun _ h => h], ?_⟩
    have ent : ∀ {H4 : Hp}, StOk (G.lc q pins) ρ4 σ4 H4 → Kp G.T G.S H3 H4 → (blkAll X scope fun Y => DE Y (G.lc q pins) ρ4 c elt fun y => Acc (i + 1) (acc ++ [y])) → eAll X scope elt σ4 H4 fun y H5 => ∃ acc', H5 q = some (.lst acc') ∧ acc'.length < sizeLine ∧
        ∃ us acc, upd H5 q (.lst (acc' ++ [y])) q = some (.lst us) ∧ RpAll G.K (q :: bs G (wipeS ρ vs) c) (upd H5 q (.lst (acc' ++ [y]))) us acc ∧ Acc (i + 1) acc ∧ acc.length ≤ i + 1 ∧ StOk (G.lc q pins) (wipeS ρ vs) (L2.wipe σ vs) (upd H5 q (.lst (acc' ++ [y]))) ∧ Kp G.T G.S H1 (upd H5 q (.lst (acc' ++ [y]))) := fun {H4} I5 k4 hb s' Hb C cl fp => by
      refine hb s' Hb C cl fp σ4 H4 I5 _ fun v H5 d k5 s5 r5 w5 => ?_
      have k35 := k4.trans k5
      have u5 : H5 q = some (.lst us) := k35.at q _ nS (k3 q _ hu)
      have I6 : StOk (G.lc q pins) (wipeS ρ vs) (L2.wipe σ vs) H5 := I3.kp k35 s5
      have r5' : Rp G.K (q :: bs G (wipeS ρ vs) c) H5 v d := r5.mv (mv_sub fun a ha => by
        unfold bs at ha ⊢
        cases c with
        | false => simpa using ha
        | true =>
          rw [if_pos rfl] at ha ⊢
          rcases List.mem_cons.mp ha with z | z
          · rw [z]; simp
          · rcases List.mem_append.mp z with z | z
            · exact List.mem_append_left _ (List.mem_cons_of_mem _ z)
            · exact List.mem_append_right _ (o4 a z))
      refine ⟨us, u5, by rw [ra.length]; exact Nat.lt_of_le_of_lt hla (Nat.lt_of_lt_of_le hl (Nat.le_trans hlen (by rw [sizeLine_eq]; decide))), us ++ [v], acc ++ [d], upd_same, ?_, w5, by simp; exact hla, I6.lcg u5 (.inl ⟨_, rfl⟩) h0 nS, ((k2.trans (Kp.of_all k3)).trans k35).upd hq u5 (.inl ⟨_, rfl⟩)⟩
      · have ra5 : RpAll G.K (q :: bs G (wipeS ρ vs) c) H5 us acc := ra3.mv (k35.mv fun a b e => ⟨List.mem_cons_of_mem _ (Iw.srcB e).1, List.mem_cons_of_mem _ (Iw.srcB e).2⟩)
        exact (ra5.append (.cons r5' .nil)).mv fun b o n e _ => ⟨n, by rw [upd_ne (fun z => n (by rw [z]; simp))]; exact e⟩
    have skip : ∀ {H4 : Hp}, Kp G.T G.S H3 H4 → SrcOk G.S H4 → Acc (i + 1) acc → ∃ us acc, H4 q = some (.lst us) ∧ RpAll G.K (q :: bs G (wipeS ρ vs) c) H4 us acc ∧ Acc (i + 1) acc ∧ acc.length ≤ i + 1 ∧ StOk (G.lc q pins) (wipeS ρ vs) (L2.wipe σ vs) H4 ∧ Kp G.T G.S H1 H4 := fun {H4} k4 s4 w4 =>
      ⟨us, acc, k4.at q _ nS (k3 q _ hu), ra3.mv (k4.mv fun a b e => ⟨List.mem_cons_of_mem _ (Iw.srcB e).1, List.mem_cons_of_mem _ (Iw.srcB e).2⟩), w4, Nat.le_succ_of_le hla, I3.kp k4 s4, (k2.trans (Kp.of_all k3)).trans k4⟩
    cases ifs with
    | nil =>
      have z := blk X.s_0 X.H_0 0 [] []
      replace z : blkAll X scope fun Z => DE Z (G.lc q pins) ρ4 c elt fun y => Acc (i + 1) (acc ++ [y]) := by
        have z' : (if true = true then blkAll X scope fun Z => DE Z (G.lc q pins) ρ4 c elt fun y => Acc (i + 1) (acc ++ [y]) else Acc (i + 1) acc) := z
        rwa [if_pos rfl] at z'
      unfold tAll tYes
      simp only [if_true]
      exact ent I4 (Kp.refl _ _ _) z
    | cons cnd more =>
      unfold tAll
      intro s' Hb C cl fp
      refine blk s' Hb C cl fp σ4 H3 I4 _ fun t H4 k4 s4 w => ?_
      cases t with
      | false =>
        rw [if_neg (by decide)] at w ⊢
        exact skip k4 s4 w
      | true =>
        rw [if_pos rfl] at w ⊢
        exact ent (I4.kp k4 s4) k4 w
  · have e : i = items.length := by omega
    exact .inl ⟨h1 e, fin q us H2 acc (k.trans k2) I2.src hH hu ra (fin2 acc (e ▸ ha))⟩

theorem pe_eAll {scope : Scope} (s : Shared) (H : Hp) (C : Addr) (cl : List (Str × Addr)) (fp : List Addr) : PE (X.blk s H scope (compEnvC scope cl C X.env) fp) e (eAll X scope e) := ⟨fun pins s1 σ H1 Q I h => h s H C cl fp pins s1 I⟩
theorem pts_tAll {scope : Scope} (hl : ifs.length ≤ 1) (s : Shared) (H : Hp) (C : Addr) (cl : List (Str × Addr)) (fp : List Addr) : PTs (X.blk s H scope (compEnvC scope cl C X.env) fp) ifs (tAll X scope ifs) := by
  cases ifs with
  | nil => exact pts_nil
  | cons a r =>
    cases r with
    | nil => exact pts_one ⟨fun pins s1 σ H1 Q I h => h s H C cl fp pins s1 I⟩
    | cons _ _ => simp at hl
/-- [elt for tg in iter (if ..)] -/
theorem de_lc {scope : Scope} {own : List (Str × Nat)} {g : TG} {c : Bool} {Q : D → Prop} (hc : X.calm = true) (hN : X.N.Nodup) (hb : blkC X.N X.env.scope scope own = true)
    (hg : ∀ (s : Shared) (H : Hp) (C : Addr) (cl : List (Str × Addr)) (fp : List Addr), PG (X.blk s H scope (compEnvC scope cl C X.env) fp) tg g)
    (h : DLc X G ρ c elt tg iter ifs scope (own.map (·.2)) g fun ds => Q (.lst ds)) (how : ∀ a, a ∈ owns ρ → a ∈ owns (wipeS ρ (own.map (·.2)))) (hl : ifs.length ≤ 1 := by decide) (hs : ∀ x, foldedSetIterable iter X.env x = pure x := by intro _; rfl) : DE X G ρ c (.ListComp elt [⟨tg, iter, ifs, 0⟩] scope pos) Q := fun σ H I Q' U =>
  sem_of (L2.pe_lc (own := own) hc hN pi_sem (blkOk_by hb) hg (fun s H C cl fp => pts_tAll hl s H C cl fp) (fun s H C cl fp => pe_eAll s H C cl fp) hs) (lc_run I h fun p us H' ds k s np hp r q => by
    have np2 : p ∉ bs G ρ c := I.fresh np
    refine U _ H' _ k s (.lst hp np2 (r.mv (mv_sub fun a ha => List.mem_cons_of_mem _ ?_))) q
    unfold bs at ha ⊢
    cases c with
    | false => simpa using ha
    | true =>
      rw [if_pos rfl] at ha ⊢
      rw [List.mem_append] at ha ⊢
      exact ha.imp id (how a))
theorem df_lc {scope : Scope} {own : List (Str × Nat)} {g : TG} {Q : List D → Prop} (hc : X.calm = true) (hN : X.N.Nodup) (hb : blkC X.N X.env.scope scope own = true)
    (hg : ∀ (s : Shared) (H : Hp) (C : Addr) (cl : List (Str × Addr)) (fp : List Addr), PG (X.blk s H scope (compEnvC scope cl C X.env) fp) tg g)
    (h : DLc X G ρ true elt tg iter ifs scope (own.map (·.2)) g Q) (how : ∀ a, a ∈ owns ρ → a ∈ owns (wipeS ρ (own.map (·.2)))) (hl : ifs.length ≤ 1 := by decide) (hs : ∀ x, foldedSetIterable iter X.env x = pure x := by intro _; rfl) : DF X G ρ (.ListComp elt [⟨tg, iter, ifs, 0⟩] scope pos) Q := fun σ H I Q' U =>
  sem_of (L2.pe_lc (own := own) hc hN pi_sem (blkOk_by hb) hg (fun s H C cl fp => pts_tAll hl s H C cl fp) (fun s H C cl fp => pe_eAll s H C cl fp) hs) (lc_run I h fun p us H' ds k s np hp r q =>
    U p us H' ds k s np hp (r.mv (mv_sub fun a ha => by
      rcases List.mem_cons.mp ha with z | z
      · rw [z]; simp
      · refine List.mem_cons_of_mem _ ?_
        unfold bs
        rw [if_pos rfl]
        rw [List.mem_append] at z ⊢
        exact z.imp id (how a))) q)
/-- name = [..] on one line -/
theorem ds_setLc {y : Str} {py : Pos} {scope : Scope} {own : List (Str × Nat)} {g : TG} (i : Nat) (hc : X.calm = true) (hN : X.N.Nodup) (hb : blkC X.N X.env.scope scope own = true)
    (hg : ∀ (s : Shared) (H : Hp) (C : Addr) (cl : List (Str × Addr)) (fp : List Addr), PG (X.blk s H scope (compEnvC scope cl C X.env) fp) tg g)
    (h : DLc X G ρ true elt tg iter ifs scope (own.map (·.2)) g fun ds => E.nx (ρ.set i (.dat (.lst ds)))) (how : ∀ a, a ∈ owns ρ → a ∈ owns (wipeS ρ (own.map (·.2))))
    (hsw : swapsWith (.ListComp elt [⟨tg, iter, ifs, 0⟩] scope p) (some (.Name y py)) pos.line X.env = pure true) (hy : X.N[i]? = some y := by rfl) (hyl : X.env.scope.names.lookup y = some .local := by rfl) (hl : ifs.length ≤ 1 := by decide) (hs : ∀ x, foldedSetIterable iter X.env x = pure x := by intro _; rfl) : DS X G ρ (.Assign [.Name y py] (.ListComp elt [⟨tg, iter, ifs, 0⟩] scope p) pos) E := fun σ H I D U =>
  ssem_of (L2.ps_setLc (i := i) (own := own) hc hN hy hyl hsw pi_sem (blkOk_by hb) hg (fun s H C cl fp => pts_tAll hl s H C cl fp) (fun s H C cl fp => pe_eAll s H C cl fp) hs) (lc_run I h fun q us H' ds k s np hp r w => by
    have r' : RpAll G.K (bs G ρ true) H' us ds := r.mv (mv_sub fun a ha => List.mem_cons_of_mem _ (by
      unfold bs at ha ⊢
      rw [if_pos rfl] at ha ⊢
      rw [List.mem_append] at ha ⊢
      exact ha.imp id (how a)))
    exact U.nx _ _ H' ((I.kp k s).dat i (.lst hp (I.fresh np) r')) w)
theorem ds_setLcF {y : Str} {py : Pos} {scope : Scope} {own : List (Str × Nat)} {g : TG} (i : Nat) (hc : X.calm = true) (hN : X.N.Nodup) (hb : blkC X.N X.env.scope scope own = true)
    (hg : ∀ (s : Shared) (H : Hp) (C : Addr) (cl : List (Str × Addr)) (fp : List Addr), PG (X.blk s H scope (compEnvC scope cl C X.env) fp) tg g)
    (h : DLc X G ρ true elt tg iter ifs scope (own.map (·.2)) g fun ds => ∀ o, E.nx (ρ.set i (.own o ds))) (how : ∀ a, a ∈ owns ρ → a ∈ owns (wipeS ρ (own.map (·.2))))
    (hsw : swapsWith (.ListComp elt [⟨tg, iter, ifs, 0⟩] scope p) (some (.Name y py)) pos.line X.env = pure true) (hy : X.N[i]? = some y := by rfl) (hyl : X.env.scope.names.lookup y = some .local := by rfl) (hl : ifs.length ≤ 1 := by decide) (hs : ∀ x, foldedSetIterable iter X.env x = pure x := by intro _; rfl) : DS X G ρ (.Assign [.Name y py] (.ListComp elt [⟨tg, iter, ifs, 0⟩] scope p) pos) E := fun σ H I D U =>
  ssem_of (L2.ps_setLc (i := i) (own := own) hc hN hy hyl hsw pi_sem (blkOk_by hb) hg (fun s H C cl fp => pts_tAll hl s H C cl fp) (fun s H C cl fp => pe_eAll s H C cl fp) hs) (lc_run I h fun q us H' ds k s np hp r w =>
    U.nx _ _ H' (I.newL i k s np hp (r.mv (mv_sub fun a ha => by
      rcases List.mem_cons.mp ha with z | z
      · rw [z]; simp
      · refine List.mem_cons_of_mem _ ?_
        unfold bs
        rw [if_pos rfl]
        rw [List.mem_append] at z ⊢
        exact z.imp id (how a)))) (w q))
/-- the maps: each item gives one thing -/
theorem acc_map {items : List D} (f : Nat → D → D) : ∀ {i : Nat} {d : D}, items[i]? = some d → (items.take i).mapIdx f ++ [f i d] = (items.take (i + 1)).mapIdx f := fun {i d} h => by
  have hl := (List.getElem?_eq_some_iff.mp h).1
  rw [List.take_add_one, h]
  simp [List.mapIdx_append, Nat.min_eq_left (Nat.le_of_lt hl)]
end
end Dw

/-! defs: promises over data; repr; the law's call -/
namespace Dw
open PySem PySem.Spec PyProof.Rows L2

/-- what a def does to data: the source's place, the arguments, what is wanted of the answer -/
abbrev FS := Option (Addr × Addr) → List D → (D → Prop) → Prop
/-- as the hand layer's promise -/
def spD (K : PySem.W.Frag) (fs : FS) : Sp := fun vs H Q _ => ∃ (S : Option (Addr × Addr)) (O : List Addr) (ds : List D) (R : D → Prop), RpAll K O H vs ds ∧ SrcOk S H ∧ (∀ a c, S = some (a, c) → a ∈ O ∧ c ∈ O ∧ a ≠ c) ∧ (∀ a ∈ O, ∃ o, H a = some o) ∧
  fs S ds R ∧ ∃ Θ, ∀ v H' d, Kp Θ S H H' → SrcOk S H' → Rp K O H' v d → R d → Q v H'
def dstart (N : List Str) (ds : List D) : List Sl := ds.map .dat ++ List.replicate (N.length - ds.length) .any
theorem owns_start (N : List Str) (ds : List D) : owns (dstart N ds) = [] := by
  unfold dstart owns
  rw [List.flatMap_append]
  have h1 : ∀ l : List D, (l.map Sl.dat).flatMap Sl.addr = [] := fun l => by
    induction l with
    | nil => rfl
    | cons d r ih => rw [List.map_cons, List.flatMap_cons, ih]; rfl
  have h2 : ∀ n : Nat, (List.replicate n Sl.any).flatMap Sl.addr = [] := fun n => by
    induction n with
    | zero => rfl
    | succ n ih => rw [List.replicate_succ, List.flatMap_cons, ih]; rfl
  rw [h1, h2]
  rfl
theorem stOk_start {K : PySem.W.Frag} {S : Option (Addr × Addr)} {O : List Addr} {H : Hp} {N : List Str} {vs : List V} {ds : List D} (r : RpAll K O H vs ds) (s : SrcOk S H) (hS : ∀ a c, S = some (a, c) → a ∈ O ∧ c ∈ O ∧ a ≠ c) (ht : ∀ a ∈ O, ∃ o, H a = some o) {Θ : List (Addr × Str)} :
    StOk ⟨K, S, H, O, [], Θ⟩ (dstart N ds) (L2.start N vs) H := by
  have e : O ++ owns (dstart N ds) = O := by rw [owns_start, List.append_nil]
  refine ⟨?_, fun i sl h => ?_, Kp.refl _ _ _, s, hS, ht, (by rw [owns_start]; exact List.nodup_nil), fun a ha => (by rw [owns_start] at ha; cases ha), fun a ha => (by rw [owns_start] at ha; cases ha), fun p hp => nomatch hp⟩
  · unfold L2.start dstart
    rw [List.length_append, List.length_append, List.length_map, List.length_map, List.length_replicate, List.length_replicate, r.length]
  · show ∃ x, _ ∧ SlOk K (O ++ owns (dstart N ds)) H sl x
    rw [e]
    unfold dstart at h
    unfold L2.start
    have hl := r.length
    by_cases hi : i < ds.length
    · rw [List.getElem?_append_left (by rw [List.length_map]; exact hi), List.getElem?_map, List.getElem?_eq_getElem hi] at h
      have h' : Sl.dat ds[i] = sl := Option.some.inj h
      subst h'
      obtain ⟨v, hv, rv⟩ := r.getD' (i := i) (d := ds[i]) (by simp [hi])
      exact ⟨some v, by rw [List.getElem?_append_left (by rw [List.length_map, hl]; exact hi), List.getElem?_map, hv]; rfl, v, rfl, rv⟩
    · have hi2 : ds.length ≤ i := Nat.le_of_not_lt hi
      rw [List.getElem?_append_right (by rw [List.length_map]; exact hi2), List.length_map, List.getElem?_replicate] at h
      split at h
      · rename_i hlt
        have h' : Sl.any = sl := Option.some.inj h
        subst h'
        exact ⟨none, by rw [List.getElem?_append_right (by rw [List.length_map, hl]; exact hi2), List.length_map, hl, List.getElem?_replicate, if_pos hlt], trivial⟩
      · cases h
/-- THE RULE for a def -/
theorem dfun {P : Program} {w : World} {K : PySem.W.Frag} {mg : Str → Option Value} {base : Heap} {x qual : Str} {st : Stmt} {f : Addr} {fd : FuncData} {N ps : List Str} {k : Nat} {fs : FS} (F : Fun K x qual st f fd) (Sc : FnScope N ps (defScope st))
    (len : ∀ S ds R, fs S ds R → ds.length = ps.length)
    (body : ∀ {Θ : List (Addr × Str)} (cdv : Value) (A : Around) (outer : List Env) (s : Shared) (H : Hp) (E : XK) (S : Option (Addr × Addr)) (O : List Addr) (ds : List D) (R : D → Prop), Room k (A.deeper (envOfC qual (defScope st) s.heap.objs.size f cdv)) → fs S ds R →
      DSs (cxOf CX0 P w K mg base N qual (defScope st) f cdv A outer s H E).nox ⟨K, S, H, O, [], Θ⟩ (dstart N ds) (defBody st) { nx := fun _ => R .non, rt := R }) : FnOk P w K mg base CX0 (k + 1) f fd ps (spD K fs) := by
  refine F.ok Sc (fun vs H Q E h => ?_) fun cdv A outer s H vs Q E hr h => ?_
  · obtain ⟨S, O, ds, R, r, _, _, _, h, _⟩ := h
    rw [r.length]
    exact len S ds R h
  · obtain ⟨S, O, ds, R, r, hs, hS, ht, h, Θ, q⟩ := h
    exact ⟨_, pss_sem, body cdv A outer s H E S O ds R hr h _ H (stOk_start r hs hS ht) _ ⟨fun ρ σ H' I w => q .non H' .non I.ext I.src .non w, fun v H' d k s r w => q v H' d k s r w, fun _ _ _ _ z => z, fun _ _ _ _ z => z⟩⟩

section
variable {X : Cx} {G : Gx} {ρ : List Sl} {c : Bool} {Q : D → Prop} {e a b : Expr} {es : List Expr} {pos p p2 p3 : Pos}
theorem spD_of {fs : FS} {vs : List V} {ds : List D} {H : Hp} {σ : L2.St} {Q' : VK} {E : XK} (I : StOk G ρ σ H) (r : RpAll G.K (bs G ρ c) H vs ds) (h : fs G.S ds Q) (U : Up G (bs G ρ c) H Q Q') : spD G.K fs vs H Q' E :=
  ⟨G.S, bs G ρ c, ds, Q, r, I.src, fun a c e => ⟨(I.srcB e).1, (I.srcB e).2, (I.srcO a c e).2.2⟩, I.trkB, h, G.T, fun v H' d k s r q => U v H' d k s r q⟩
/-- a call of a def -/
theorem de_call {k : Nat} {f : Addr} {fd : FuncData} {ps : List Str} {fs : FS} {x : Str} (F : FnOk X.prog X.w X.K X.mg X.base CX0 k f fd ps (spD X.K fs)) (hK : X.K = G.K) (hr : Room k X.A) (hm : X.mg x = some (.ref f)) (hk : PySem.W.keepIn X.K (.ref f) = true) (hb : Binds X.K fd ps [])
    (h : DA X G ρ c (e :: es) fun ds => fs G.S ds Q) (hg : Gl X x := by rfl) (hdb : (x == ("__debug__" : Str)) = false := by decide)
    (he : starEach (e :: es) X.env = (false, eval e X.env) :: starEach es X.env := by rfl) (hpl : (backTo pos (starEach es X.env)).any (·.1) = false := by rfl) : DE X G ρ c (.Call (.Name x p) (e :: es) [] pos) Q := fun σ H I Q' U =>
  sem_of (L2.pe_call (E := E0) F hr hg hm hk hb .nil pass0 pa_sem hdb he hpl) (h σ H I _ fun vs H1 ds k s r q => by
    show spD X.K fs (vs ++ []) H1 Q' E0
    rw [List.append_nil, hK]
    exact spD_of (I.kp k s) r q (U.later k))
end

/-! ### defs that may look at the guards around -/
structure FnG (P : Program) (w : World) (K : PySem.W.Frag) (mg : Str → Option Value) (base : Heap) (k : Nat) (f : Addr) (fd : FuncData) (ps : List Str) (sp : Sp) : Prop where
  len : ∀ vs H Q E, sp vs H Q E → vs.length = ps.length
  run : ∀ (A : Around) (outer : List Env) (s : Shared) (H : Hp) (args : Args) (us : List Value) (vs : List V) (Q : VK), Room k A → A.guards = some [] → Env0 P w K mg base A outer s H → BindsTo s fd args (ps.zip us) → Vals vs us → sp vs H Q E0 →
    codeAny (model P w) A (.call (.ref f) args) (CR CX0 outer P w H s Q E0) s
section
variable {P : Program} {w : World} {K : PySem.W.Frag} {mg : Str → Option Value} {base : Heap}
theorem bodyG {k : Nat} {f : Addr} {name qual : Str} {params : Arguments} {body : List Stmt} {scope : Scope} {dV kV doc pm cdv ct oc : Value} {an od : Option Addr} {osl : Array (Option Value)} {N ps : List Str} {sp : Sp}
    (lk : K.lookup f = some ⟨oc, od, .func (PySem.W.fnOf name qual params body scope dV kV doc pm an cdv ct), osl⟩) (hcd : PySem.W.codeIn K cdv qual = true) (Sc : FnScope N ps scope) (len : ∀ vs H Q E, sp vs H Q E → vs.length = ps.length)
    (hb : ∀ (A : Around) (outer : List Env) (s : Shared) (H : Hp) (vs : List V) (Q : VK), Room k (A.deeper (envOfC qual scope s.heap.objs.size f cdv)) → A.guards = some [] → sp vs H Q E0 →
      ∃ t, PSs (cxOf CX0 P w K mg base N qual scope f cdv A outer s H E0).nox body t ∧ t { nx := fun _ H' => Q .non H', rt := Q } (L2.start N vs) H) :
    FnG P w K mg base (k + 1) f (PySem.W.fnOf name qual params body scope dV kV doc pm an cdv ct) ps sp := by
  refine ⟨len, fun A outer s H args us vs Q hr hgu e0 hbind r hsp => ?_⟩
  have inK : K.In s.heap := e0.mod.kin.keeps fun b o z => (e0.bs b o z).1
  have lim : s.heap.NoLimit := e0.mod.nolimit.keeps fun b o z => (e0.bs b o z).1
  have kinds : ∀ y ∈ ps.zip us, scope.names.lookup y.1 = some .local ∨ (scope.names.lookup y.1 = some .cell ∧ ((cellsFrom (s.heap.objs.size + 1) scope.names []).lookup y.1).isSome = true) := by
    rintro ⟨n, v⟩ hy
    exact (Sc.par n (List.of_mem_zip hy).1).imp id fun q => ⟨q, PySem.W.cellsFrom_some _ _ _ (.inl q)⟩
  refine codeAny_call_function hr.depth (inK _ _ lk) rfl Sc.co Sc.gen rfl (PySem.W.codeRec_of inK hcd) (hbind _ _ _ _ (wpAny_newFunctionEnv_cells Sc.kind kinds ?_))
  rintro env rfl s1 x
  refine ⟨lim.keeps x.toInCall.keep, codeAny_func ?_⟩
  obtain ⟨t, ht, hq⟩ := hb A outer s H vs Q (hr.deeper _) hgu hsp
  have I : Inv (cxOf CX0 P w K mg base N qual scope f cdv A outer s H E0) [] (L2.start N vs) H s1 := inv_start Sc hr.hd e0 (len _ _ _ _ hsp) r x
  refine wpAny_mono (ht.nox.run [] s1 (L2.start N vs) H _ I hq) ?_ fun e s' z => z
  intro fl s' hs
  cases fl with
  | ret u => exact let ⟨v, _, H', J, rv, q⟩ := hs; ⟨v, H', J.os, J.bare, J.base, J.hok, rv, q⟩
  | next => exact let ⟨_, H', J, q⟩ := hs; ⟨V.non, H', J.os, J.bare, J.base, J.hok, rfl, q⟩
  | brk => exact let ⟨_, _, _, q⟩ := hs; False.elim q
  | cont => exact let ⟨_, _, _, q⟩ := hs; False.elim q
/-- THE RULE for a def that shows data -/
theorem dfunG {x qual : Str} {st : Stmt} {f : Addr} {fd : FuncData} {N ps : List Str} {k : Nat} {fs : FS} (F : Fun K x qual st f fd) (Sc : FnScope N ps (defScope st))
    (len : ∀ S ds R, fs S ds R → ds.length = ps.length)
    (body : ∀ {Θ : List (Addr × Str)} (cdv : Value) (A : Around) (outer : List Env) (s : Shared) (H : Hp) (S : Option (Addr × Addr)) (O : List Addr) (ds : List D) (R : D → Prop), Room k (A.deeper (envOfC qual (defScope st) s.heap.objs.size f cdv)) → A.guards = some [] → fs S ds R →
      DSs (cxOf CX0 P w K mg base N qual (defScope st) f cdv A outer s H E0).nox ⟨K, S, H, O, [], Θ⟩ (dstart N ds) (defBody st) { nx := fun _ => R .non, rt := R }) : FnG P w K mg base (k + 1) f fd ps (spD K fs) := by
  obtain ⟨oc, od, kV, doc, pm, an, cdv, ct, osl, rfl, lk, hcd⟩ := F.ex
  refine bodyG lk hcd Sc (fun vs H Q E h => ?_) fun A outer s H vs Q hr hgu h => ?_
  · obtain ⟨S, O, ds, R, r, _, _, _, h, _⟩ := h
    rw [r.length]
    exact len S ds R h
  · obtain ⟨S, O, ds, R, r, hs, hS, ht, h, Θ, q⟩ := h
    exact ⟨_, pss_sem, body cdv A outer s H S O ds R hr hgu h _ H (stOk_start r hs hS ht) _ ⟨fun ρ σ H' I w => q .non H' .non I.ext I.src .non w, fun v H' d k s r w => q v H' d k s r w, fun _ _ _ _ z => z, fun _ _ _ _ z => z⟩⟩
end
section
variable {X : Cx} {G : Gx} {ρ : List Sl} {c : Bool} {Q : D → Prop} {e a b : Expr} {es : List Expr} {pos p p2 p3 : Pos}
theorem run_fnG {k : Nat} {f : Addr} {fd : FuncData} {ps : List Str} {sp : Sp} {pins : List (Addr × Obj)} {σ : L2.St} {H : Hp} {s : Shared} {Q : VK} {us : List Value} {vs : List V} (F : FnG X.prog X.w X.K X.mg X.base k f fd ps sp) (hr : Room k X.A) (hgu : X.A.guards = some []) (hb : Binds X.K fd ps [])
    (I : Inv X pins σ H s) (r : Vals vs us) (h : sp vs H Q E0) : wpAny (model X.prog X.w) X.A (call (.ref f) us) (EP X pins σ Q) X.xe s := by
  have hl : (us ++ []).length = ps.length := by rw [List.append_nil, ← r.length]; exact F.len _ _ _ _ h
  have hz := hb s us I.kIn hl
  rw [List.append_nil] at hz
  refine wpAny_call (codeAny_mono (F.run X.A X.stack s H ⟨us, []⟩ us vs Q hr hgu I.env0 hz r h) ?_)
  rintro (e | fl) s' hq
  · exact False.elim hq
  · cases fl with
    | ret u => exact I.after hq
    | next => exact False.elim hq
    | brk => exact False.elim hq
    | cont => exact False.elim hq
theorem de_callG {k : Nat} {f : Addr} {fd : FuncData} {ps : List Str} {fs : FS} {x : Str} (F : FnG X.prog X.w X.K X.mg X.base k f fd ps (spD X.K fs)) (hgu : X.A.guards = some []) (hK : X.K = G.K) (hr : Room k X.A) (hm : X.mg x = some (.ref f)) (hk : PySem.W.keepIn X.K (.ref f) = true) (hb : Binds X.K fd ps [])
    (h : DA X G ρ c (e :: es) fun ds => fs G.S ds Q) (hg : Gl X x := by rfl) (hdb : (x == ("__debug__" : Str)) = false := by decide)
    (he : starEach (e :: es) X.env = (false, eval e X.env) :: starEach es X.env := by rfl) (hpl : (backTo pos (starEach es X.env)).any (·.1) = false := by rfl) : DE X G ρ c (.Call (.Name x p) (e :: es) [] pos) Q := fun σ H I Q' U pins s J => by
  refine wpAny_Call_Name_kw (ld_glob J hg hm ?_ hdb)
  refine PySem.W.callWith_K (h₀ := X.base) J.ok.mod.kin hk (thn (h σ H I (fun vs H1 => spD X.K fs vs H1 Q' E0) (fun vs H1 ds k s r q => ?_) pos pins s J) fun us s1 ⟨vs, H1, I1, r, q⟩ => ⟨I1.kIn, run_fnG F hr hgu hb I1 r q⟩) he hpl
  show spD X.K fs vs H1 Q' E0
  rw [hK]
  exact spD_of (I.kp k s) r q (U.later k)
/-! ### repr -/
def reprD (d : D) : Str := d.py.shown
theorem cr_repr (hgu : X.A.guards = some []) (hu : X.A.units + 64 < cLine) : CallR X (.builtin "repr") (fun vs H Q => ∃ v d, vs = [v] ∧ Dp X.K H v d ∧ PyData.canLay0 d = true ∧ d.depth ≤ 60 ∧ d.showable = true ∧ d.shown.length ≤ sizeLine ∧ Q (.str d.shown) H) := by
  intro pins s σ H vs us Q I r h
  obtain ⟨v, d, rfl, hd, hl, hdp, hs, hz, q⟩ := h
  obtain ⟨u, rfl, ru⟩ := vals1 r
  obtain ⟨as, rd⟩ := Dp.reads I d v u hd ru
  have fin : ∀ h' tk t', (∀ b o, s.heap.get? b = some o → h'.get? b = some o) → EP X pins σ Q (.str d.shown t') { s with heap := h', toks := tk } := fun h' tk t' hk => ⟨.str d.shown, H, I.kept hk, ⟨t', rfl⟩, q⟩
  cases rd with
  | none => exact PySem.P.repr_of_none (fin s.heap _ _ fun _ _ e => e)
  | bool b =>
    have := fin s.heap (s.toks + 1) s.toks fun _ _ e => e
    simp only [PyData.shown] at this
    exact PySem.P.repr_of_bool this
  | int i t =>
    have := fin s.heap (s.toks + 1) s.toks fun _ _ e => e
    simp only [PyData.shown] at this
    exact PySem.P.repr_of_int (by simpa [PyData.showable] using hs) this
  | str x t =>
    have := fin s.heap (s.toks + 1) s.toks fun _ _ e => e
    simp only [PyData.shown] at this hz
    exact PySem.P.repr_of_str this hz
  | list h1 h2 h3 h4 => exact repr_of_reads' (.list h1 h2 h3 h4) hs (PyData.noDict_hsm (PyData.hasDict_of_canLay _ hl)) hgu (by omega) (fun _ _ e => e) (fun h' u tk hk => fin h' tk u hk) hz
  | tuple h1 h2 h3 h4 => exact repr_of_reads' (.tuple h1 h2 h3 h4) hs (PyData.noDict_hsm (PyData.hasDict_of_canLay _ hl)) hgu (by omega) (fun _ _ e => e) (fun h' u tk hk => fin h' tk u hk) hz
  | dict => simp [PyData.canLay0] at hl
def reprs : List D → (D → Prop) → Prop
  | [d], Q => (flat 60 d = true ∧ d.py.showable = true ∧ (reprD d).length ≤ 1000000) ∧ Q (.str (reprD d))
  | _, _ => False
theorem de_repr (hgu : X.A.guards = some []) (hu : X.A.units + 64 < cLine) (hK : X.K = G.K) (hm : X.mg "repr" = none) (h : DA X G ρ false [e] fun ds => reprs ds Q) (hg : Gl X "repr" := by rfl)
    (he : starEach [e] X.env = (false, eval e X.env) :: starEach [] X.env := by rfl) (hpl : (backTo pos (starEach [] X.env)).any (·.1) = false := by rfl) : DE X G ρ c (.Call (.Name "repr" p) [e] [] pos) Q :=
  de_callB (cr_repr hgu hu) hm (by decide +kernel) (R := reprs) (fun vs σ H ds Q' I r U q => by
    unfold reprs at q
    split at q
    · rename_i d
      obtain ⟨v, rfl, r1⟩ := r.oneI
      have f := flat_can q.1.1
      exact ⟨v, d.py, rfl, by rw [hK]; exact flat_dp q.1.1 r1, f.1, f.2, q.1.2.1, Nat.le_trans q.1.2.2 (by rw [sizeLine_eq]; decide), U.str I.src q.2⟩
    · exact q.elim) h hg (by decide) (by decide) he hpl
end

/-! ### the law's call -/
theorem lawG {P : Program} {w : World} {K : PySem.W.Frag} {mg mb : Str → Option Value} {k : Nat} {fa a : Addr} {fd : FuncData} {x : Str} {sp : Sp} {s₁ : Shared} {vs : List Value} {ns : List Int} (KX : K.In s₁.heap) (hns : s₁.heap.Ns mainGlobals mg)
    (hb : s₁.heap.Ns builtinsNs mb) (hbb : ∀ x : Str, x ≠ "__name__" → mb x = bootBuiltins x) (hlim : s₁.heap.NoLimit) (hg : s₁.gens = #[]) (ha : s₁.heap.get? a = some { cls := .type "list", data := .seq vs.toArray }) (hi : IntsAre vs ns) (hl : ns.length ≤ sizeLine) (hr : Room k callerA)
    (F : ∀ base : Heap, K.In base → base.Ns mainGlobals mg → FnG P w K mg base k fa fd [x] sp) (hbind : ∀ (s : Shared) (u : Value), BindsTo s fd ⟨[u], []⟩ [(x, u)])
    (hsp : ∀ H : Hp, Only H → SqL K H a (ns.map V.int) → sp [.ref a] H (fun v _ => v = .bl true) E0) :
    codeAny (model P w) callerA (.call (.ref fa) ⟨[.ref a], []⟩) (fun r s' => r = .ok (.ret (.bool true)) ∧ OldK s₁.heap s'.heap ∧ s'.os = s₁.os ∧ AllBare s'.gens) s₁ := by
  have rv : Vals (ns.map V.int) vs := vals_ints hi
  have lv := hi.length
  have run : ∀ H : Hp, Only H → SqL K H a (ns.map V.int) → HOk P w H s₁.heap → (∀ b, H b ≠ none → b = a) → (H a ≠ none → K.lookup a = none) →
      codeAny (model P w) callerA (.call (.ref fa) ⟨[.ref a], []⟩) (fun r s' => r = .ok (.ret (.bool true)) ∧ OldK s₁.heap s'.heap ∧ s'.os = s₁.os ∧ AllBare s'.gens) s₁ := fun H hO hS hok hA hKa => by
    have toB : ∀ {b : Addr} {o : Obj}, s₁.heap.get? b = some o → H b = none → (hidT s₁.heap H).get? b = some o := fun e n => hidT_get e n
    have offA : ∀ {b : Addr}, b ≠ a → H b = none := fun {b} ne => Classical.byContradiction fun z => ne (hA b z)
    have dictB : ∀ {b : Addr} {o : Obj} {es : Array DictEntry} {ep : Nat}, s₁.heap.get? b = some o → o.data = .dict es ep → H b = none := fun {b o es ep} e d => offA fun z => by
      rw [z, ha] at e
      cases e
      have d' : Data.seq vs.toArray _ = Data.dict es ep := d
      cases d'
    have nsB : ∀ {b : Addr} {m : Str → Option Value}, s₁.heap.Ns b m → (hidT s₁.heap H).Ns b m := fun {b m} ⟨o, es, ep, e, d, r⟩ => ⟨o, es, ep, toB e (dictB e d), d, r⟩
    have kB : K.In (hidT s₁.heap H) := fun b o e => toB (KX b o e) (Classical.byContradiction fun z => by
      have eb := hA b z
      subst eb
      rw [hKa z] at e
      cases e)
    have md : Mod K mg (hidT s₁.heap H) := by
      refine ⟨kB, nsB hns, ⟨mb, nsB hb, hbb⟩, ?_⟩
      obtain ⟨mc, h1, h2⟩ := hlim
      exact ⟨mc, nsB h1, h2⟩
    have env : Env0 P w K mg (hidT s₁.heap H) callerA [] s₁ H := ⟨rfl, md, fun b o e => of_hidT e, Nat.le_of_eq (hidT_size _ _), trivial, (fun b hb => nomatch hb), hok, .of_eq hg⟩
    refine codeAny_mono ((F _ kB (nsB hns)).run callerA [] s₁ H ⟨[.ref a], []⟩ [.ref a] [.ref a] _ hr rfl env (hbind s₁ (.ref a)) (.cons rfl .nil) (hsp H hO hS)) ?_
    rintro (e | fl) s' h
    · exact False.elim h
    · cases fl with
      | next => exact False.elim h
      | brk => exact False.elim h
      | cont => exact False.elim h
      | ret u =>
        obtain ⟨v, H', os, bare, un, hok', r', q⟩ := h
        replace q : v = .bl true := q
        subst q
        replace r' : u = Value.bool true := r'
        subst r'
        refine ⟨rfl, OldK.of_keep ?_, os, bare⟩
        intro b o e
        cases q : H b with
        | none => exact un.keep b o e q (fun z => nomatch z) (fun z => nomatch z)
        | some u =>
          rcases hO b with z | ⟨ob, xs, z⟩
          · rw [q] at z; cases z
          · obtain ⟨e1, _⟩ := hok b _ z
            obtain ⟨e2, _⟩ := hok' b _ (un.frzs b ob _ z)
            rw [e] at e1
            cases e1
            exact e2
  have lst : (ns.map V.int).length ≤ sizeLine := by rw [List.length_map]; exact hl
  cases hk : K.lookup a with
  | some o =>
    have e := KX a o hk
    rw [ha] at e
    cases e
    exact run (fun _ => none) (fun _ => .inl rfl) (.inr ⟨_, vs.toArray, _, hk, rfl, rfl, rfl, by rw [List.size_toArray, lv]; exact hl, by simpa using rv⟩) (fun b u z => nomatch z) (fun b z => absurd rfl z) (fun z => absurd rfl z)
  | none =>
    have at1 : ∀ {b : Addr}, b ≠ a → (if b = a then some (HO.frz { cls := .type "list", data := .seq vs.toArray } (.lst (ns.map V.int))) else none) = none := fun h => if_neg h
    refine run (fun b => if b = a then some (.frz { cls := .type "list", data := .seq vs.toArray } (.lst (ns.map V.int))) else none) (fun b => ?_) (.inl (.inr ⟨_, if_pos rfl⟩)) (fun b u z => ?_) (fun b z => Classical.byContradiction fun ne => z (at1 ne)) (fun _ => hk)
    · by_cases hb : b = a
      · exact .inr ⟨_, _, if_pos hb⟩
      · exact .inl (at1 hb)
    · by_cases hb : b = a
      · subst hb
        have z' := (if_pos rfl).symm.trans z
        cases z'
        exact ⟨ha, lst, vs, _, rv, ha⟩
      · have z' := (at1 hb).symm.trans z
        cases z'
/-- the goal that k_head leaves, from the law's promise -/
theorem walkG {l : PySem.W.OpenLaw} {n k : Nat} {q : Program} {loose : List Str} {XP : (Str → Option Value) → Heap → Prop} {YP : World → Heap → Prop} {d : DefRec} {K : Params → PySem.W.Frag} {sp : PySem.W.Frag → Sp} {x : Str}
    (hn : l.most = some n) (hn2 : n ≤ sizeLine) (hdf : d.params.defaults = []) (hr : Room k callerA) (hY : ∀ (w : World) (h : Heap), YP w h → (K w.params).In h)
    (F : ∀ (w : World) (mg : Str → Option Value) (fa : Addr) (h : Heap), (K w.params).In h → h.Ns mainGlobals mg → mg d.name = some (.ref fa) →
      ∃ fd : FuncData, (∀ (s : Shared) (u : Value), BindsTo s fd ⟨[u], []⟩ [(x, u)]) ∧ ∀ base : Heap, (K w.params).In base → base.Ns mainGlobals mg → FnG l.prog w (K w.params) mg base k fa fd [x] (sp (K w.params)))
    (hsp : ∀ (K : PySem.W.Frag) (H : Hp) (a : Addr) (ns : List Int), ns.length ≤ n → Only H → SqL K H a (ns.map V.int) → sp K [.ref a] H (fun v _ => v = .bl true) E0) :
    PySem.W.WalkO q loose XP YP l.row.toRowW d [] (fun f vs => PySem.call f vs) := by
  refine Att.attach_call hn hdf ?_
  intro w s₀ s₁ mg mb fa o pm cd doc a vs ns G Y ho hd hcd hmg hobj hints hlen hg
  have inK := hY w _ Y
  obtain ⟨fd, hb, hF⟩ := F w mg fa _ inK G.T.g hmg
  exact lawG inK G.T.g G.T.b G.T.builtins G.T.nolimit hg hobj hints (Nat.le_trans hlen hn2) hr hF hb fun H hO hS => hsp _ H a ns hlen hO hS
end Dw

/-! the source of draws -/
namespace Dw
open PySem PySem.Spec PyProof.Rows L2

def srcL (c : Addr) (l m t : V) : List (Key × V) := [(.inr "cells", .ref c), (.inr "left", l), (.inr "mixed", m), (.inr "turn", t)]
theorem kne1 : ¬ ("cells" : Str) = "left" := by decide +kernel
theorem kne2 : ¬ ("cells" : Str) = "mixed" := by decide +kernel
theorem kne3 : ¬ ("cells" : Str) = "turn" := by decide +kernel
theorem kne4 : ¬ ("left" : Str) = "mixed" := by decide +kernel
theorem kne5 : ¬ ("left" : Str) = "turn" := by decide +kernel
theorem kne6 : ¬ ("mixed" : Str) = "turn" := by decide +kernel
section
variable {c : Addr} {l m t v : V}
theorem src_cells : valV (srcL c l m t) (.inr "cells") = some (.ref c) := by simp [valV, srcL]
theorem src_left : valV (srcL c l m t) (.inr "left") = some l := by simp [valV, srcL, kne1]
theorem src_mixed : valV (srcL c l m t) (.inr "mixed") = some m := by simp [valV, srcL, kne2, kne4]
theorem src_turn : valV (srcL c l m t) (.inr "turn") = some t := by simp [valV, srcL, kne3, kne5, kne6]
theorem put_left : putK (srcL c l m t) (.inr "left") v = srcL c v m t := by simp [putK, srcL, kne1, Ne.symm kne4, Ne.symm kne5]
theorem put_mixed : putK (srcL c l m t) (.inr "mixed") v = srcL c l v t := by simp [putK, srcL, kne2, kne4, Ne.symm kne6]
theorem put_turn : putK (srcL c l m t) (.inr "turn") v = srcL c l m v := by simp [putK, srcL, kne3, kne5, kne6]
end
/-- the source stands: its dict at a, its cells at c -/
def SrcAt (H : Hp) (a c : Addr) (cells : List Int) (l m t : Int) : Prop := H a = some (.dK (srcL c (.int l) (.int m) (.int t))) ∧ H c = some (.lst (cells.map V.int)) ∧ cells.length ≤ 1000
theorem SrcOk.at {H : Hp} {a c : Addr} (s : SrcOk (some (a, c)) H) : ∃ cells l m t, SrcAt H a c cells l m t := s a c rfl
theorem SrcAt.ok {H : Hp} {a c : Addr} {cells : List Int} {l m t : Int} (s : SrcAt H a c cells l m t) : SrcOk (some (a, c)) H := fun a' c' e => by
  cases e
  exact ⟨cells, l, m, t, s⟩
theorem SrcAt.dput {H : Hp} {a c : Addr} {cells : List Int} {l m t : Int} (s : SrcAt H a c cells l m t) (ne : a ≠ c) {l' m' t' : Int} : SrcAt (upd H a (.dK (srcL c (.int l') (.int m') (.int t')))) a c cells l' m' t' :=
  ⟨upd_same, by rw [upd_ne ne.symm]; exact s.2.1, s.2.2⟩
/-- only the source changed -/
def Off (a c : Addr) (H H' : Hp) : Prop := ∀ b o, b ≠ a → b ≠ c → H b = some o → H' b = some o
theorem Off.refl {a c : Addr} {H : Hp} : Off a c H H := fun _ _ _ _ h => h
theorem Off.upd {a c : Addr} {H H' : Hp} {u : HO} (f : Off a c H H') : Off a c H (upd H' a u) := fun b o n1 n2 e => by rw [upd_ne n1]; exact f b o n1 n2 e
theorem Off.updc {a c : Addr} {H H' : Hp} {u : HO} (f : Off a c H H') : Off a c H (L2.upd H' c u) := fun b o n1 n2 e => by rw [upd_ne n2]; exact f b o n1 n2 e
theorem Off.kp {Θ : List (Addr × Str)} {a c : Addr} {H H' : Hp} (f : Off a c H H') (s : SrcOk (some (a, c)) H) (s' : SrcOk (some (a, c)) H') : Kp Θ (some (a, c)) H H' := by
  obtain ⟨cells, l, m, t, e1, e2, _⟩ := s a c rfl
  refine ⟨fun b o n e _ => f b o (n a c rfl).1 (n a c rfl).2 e, fun b o e => ?_, fun tt p hp => ?_⟩
  · obtain ⟨cells', l', m', t', e1', e2', _⟩ := s' a c rfl
    by_cases h1 : b = a
    · exact ⟨_, h1 ▸ e1'⟩
    · by_cases h2 : b = c
      · exact ⟨_, h2 ▸ e2'⟩
      · exact ⟨o, f b o h1 h2 e⟩
  · obtain ⟨ps, h1, h2, h3⟩ := tt p hp
    have na : ∀ {b o}, H b = some o → (∀ xs, o ≠ .dK xs) → b ≠ a := fun e n z => by rw [z, e1] at e; exact n _ (Option.some.inj e).symm
    have nc : ∀ {b o}, H b = some o → (∀ xs, o ≠ .lst xs) → b ≠ c := fun e n z => by rw [z, e2] at e; exact n _ (Option.some.inj e).symm
    refine ⟨ps, f p.1 _ (na h1 fun _ z => by cases z) (nc h1 fun _ z => by cases z) h1, h2, fun pos cv hc => ?_⟩
    obtain ⟨k, e3, e4⟩ := h3 pos cv hc
    exact ⟨k, e3, f k _ (na e4 fun _ => codeO_dK) (nc e4 fun _ => codeO_lst) e4⟩

/-- a draw below many -/
def fsPick : FS := fun S ds R => ∃ a c many, S = some (a, c) ∧ ds = [.ref a, .int many] ∧ many < 1000000000 ∧ ∀ r, 0 ≤ r → r < max 1 many → R (.int r)
/-- a drawn member -/
def fsOf : FS := fun S ds R => ∃ a c d xs, S = some (a, c) ∧ ds = [.ref a, d] ∧ (d = .lst xs ∨ d = .tup xs) ∧ xs ≠ [] ∧ xs.length ≤ 100000 ∧ ∀ x ∈ xs, R x
/-- things in a drawn order -/
def fsMixed : FS := fun S ds R => ∃ a c d xs, S = some (a, c) ∧ ds = [.ref a, d] ∧ (d = .lst xs ∨ d = .tup xs) ∧ xs.length ≤ 100000 ∧ ∀ ys, ys.Perm xs → R (.lst ys)
end Dw

/-! defs in short -/
namespace Dw
open PySem PySem.Spec PyProof.Rows L2

section
variable (P : Program) (w : World) (K : PySem.W.Frag) (mg : Str → Option Value) (base : Heap)
/-- the def st of the text stands under its name -/
structure At (x : Str) (st : Stmt) (ps : List Str) : Prop where
  ex : ∃ f fd, Fun K x x st f fd ∧ mg x = some (.ref f) ∧ Binds K fd ps []
/-- .. and keeps a promise over data -/
structure Df (x : Str) (k : Nat) (ps : List Str) (fs : FS) : Prop where
  ex : ∃ f fd, FnOk P w K mg base CX0 k f fd ps (spD K fs) ∧ mg x = some (.ref f) ∧ PySem.W.keepIn K (.ref f) = true ∧ Binds K fd ps []
structure Dg (x : Str) (k : Nat) (ps : List Str) (fs : FS) : Prop where
  ex : ∃ f fd, FnG P w K mg base k f fd ps (spD K fs) ∧ mg x = some (.ref f) ∧ PySem.W.keepIn K (.ref f) = true ∧ Binds K fd ps []
end
section
variable {P : Program} {w : World} {K : PySem.W.Frag} {mg : Str → Option Value} {base : Heap}
theorem At.mk' {x : Str} {st : Stmt} {ps : List Str} {f : Addr} {oc : Value} {od an : Option Addr} {osl : Array (Option Value)} {kV doc pm cdv ct : Value} (m : mg x = some (.ref f)) (l : K.lookup f = some ⟨oc, od, .func (PySem.W.fnOf x x (defArgs st) (defBody st) (defScope st) .none kV doc pm an cdv ct), osl⟩)
    (c : PySem.W.codeIn K cdv x = true) (k : PySem.W.keepIn K (.ref f) = true)
    (hb : ∀ (kV doc pm : Value) (an : Option Addr) (cdv ct : Value) (us : List Value), us.length = ps.length → bindArgs (PySem.W.fnOf x x (defArgs st) (defBody st) (defScope st) .none kV doc pm an cdv ct) ⟨us, []⟩ = pure (ps.zip us)) : At K mg x st ps :=
  ⟨f, _, fun_mk l c k, m, (fun_mk (st := st) l c k).binds hb⟩
theorem At.df {x : Str} {st : Stmt} {ps N : List Str} {k : Nat} {fs : FS} (A : At K mg x st ps) (Sc : FnScope N ps (defScope st)) (len : ∀ S ds R, fs S ds R → ds.length = ps.length)
    (body : ∀ {Θ : List (Addr × Str)} (f : Addr) (cdv : Value) (A : Around) (outer : List Env) (s : Shared) (H : Hp) (E : XK) (S : Option (Addr × Addr)) (O : List Addr) (ds : List D) (R : D → Prop), Room k (A.deeper (envOfC x (defScope st) s.heap.objs.size f cdv)) → fs S ds R →
      DSs (cxOf CX0 P w K mg base N x (defScope st) f cdv A outer s H E).nox ⟨K, S, H, O, [], Θ⟩ (dstart N ds) (defBody st) { nx := fun _ => R .non, rt := R }) : Df P w K mg base x (k + 1) ps fs := by
  obtain ⟨f, fd, F, m, b⟩ := A.ex
  exact ⟨f, fd, dfun F Sc len fun cdv A outer s H E S O ds R => body f cdv A outer s H E S O ds R, m, F.kp, b⟩
theorem At.dg {x : Str} {st : Stmt} {ps N : List Str} {k : Nat} {fs : FS} (A : At K mg x st ps) (Sc : FnScope N ps (defScope st)) (len : ∀ S ds R, fs S ds R → ds.length = ps.length)
    (body : ∀ {Θ : List (Addr × Str)} (f : Addr) (cdv : Value) (A : Around) (outer : List Env) (s : Shared) (H : Hp) (S : Option (Addr × Addr)) (O : List Addr) (ds : List D) (R : D → Prop), Room k (A.deeper (envOfC x (defScope st) s.heap.objs.size f cdv)) → A.guards = some [] → fs S ds R →
      DSs (cxOf CX0 P w K mg base N x (defScope st) f cdv A outer s H E0).nox ⟨K, S, H, O, [], Θ⟩ (dstart N ds) (defBody st) { nx := fun _ => R .non, rt := R }) : Dg P w K mg base x (k + 1) ps fs := by
  obtain ⟨f, fd, F, m, b⟩ := A.ex
  exact ⟨f, fd, dfunG F Sc len fun cdv A outer s H S O ds R => body f cdv A outer s H S O ds R, m, F.kp, b⟩
theorem Df.mono {x : Str} {j k : Nat} {ps : List Str} {fs : FS} (d : Df P w K mg base x j ps fs) (h : j ≤ k) : Df P w K mg base x k ps fs := by
  obtain ⟨f, fd, F, r⟩ := d.ex
  exact ⟨f, fd, F.mono h, r⟩
end
section
variable {X : Cx} {G : Gx} {ρ : List Sl} {c : Bool} {Q : D → Prop} {e a b : Expr} {es : List Expr} {pos p p2 p3 : Pos}
theorem de_f {k : Nat} {ps : List Str} {fs : FS} {x : Str} (F : Df X.prog X.w X.K X.mg X.base x k ps fs) (hr : Room k X.A) (h : DA X G ρ c (e :: es) fun ds => fs G.S ds Q) (hK : X.K = G.K := by rfl) (hg : Gl X x := by rfl) (hdb : (x == ("__debug__" : Str)) = false := by decide)
    (he : starEach (e :: es) X.env = (false, eval e X.env) :: starEach es X.env := by rfl) (hpl : (backTo pos (starEach es X.env)).any (·.1) = false := by rfl) : DE X G ρ c (.Call (.Name x p) (e :: es) [] pos) Q := by
  obtain ⟨f, fd, F, m, kp, b⟩ := F.ex
  exact de_call F hK hr m kp b h hg hdb he hpl
theorem de_g {k : Nat} {ps : List Str} {fs : FS} {x : Str} (F : Dg X.prog X.w X.K X.mg X.base x k ps fs) (hr : Room k X.A) (hgu : X.A.guards = some []) (h : DA X G ρ c (e :: es) fun ds => fs G.S ds Q) (hK : X.K = G.K := by rfl) (hg : Gl X x := by rfl) (hdb : (x == ("__debug__" : Str)) = false := by decide)
    (he : starEach (e :: es) X.env = (false, eval e X.env) :: starEach es X.env := by rfl) (hpl : (backTo pos (starEach es X.env)).any (·.1) = false := by rfl) : DE X G ρ c (.Call (.Name x p) (e :: es) [] pos) Q := by
  obtain ⟨f, fd, F, m, kp, b⟩ := F.ex
  exact de_callG F hgu hK hr m kp b h hg hdb he hpl
end
/-! ### tests -/
theorem iteB {b : Bool} {A B : Prop} (h1 : b = true → A) (h2 : b = false → B) : if b = true then A else B := by
  cases b with
  | true => exact h1 rfl
  | false => exact h2 rfl
theorem iteFf {b : Bool} {A B : Prop} (h : b = false) (h2 : B) : if b = true then A else B := by
  subst h; exact h2
theorem iteTt {b : Bool} {A B : Prop} (h : b = true) (h2 : A) : if b = true then A else B := by
  subst h; exact h2
/-! ### items -/
theorem ixN_nat {n : Nat} {i : Int} (h0 : 0 ≤ i) (h1 : i < n) : ixN n i = some i.toNat := by
  have h := atI_nat (xs := List.range n) (j := i.toNat) (v := i.toNat) (by rw [List.getElem?_range (by omega)])
  unfold atI at h
  rw [List.length_range] at h
  have e : ((i.toNat : Nat) : Int) = i := by omega
  rw [e] at h
  cases z : ixN n i with
  | none => rw [z] at h; cases h
  | some j =>
    rw [z] at h
    have h' : (List.range n)[j]? = some i.toNat := h
    have hj : j < n := by
      have := (List.getElem?_eq_some_iff.mp h').1
      rwa [List.length_range] at this
    rw [List.getElem?_range hj] at h'
    exact h'
theorem atI_map {α : Type} [Inhabited α] {f : α → D} {l : List α} {i : Int} (h0 : 0 ≤ i) (h1 : i < l.length) : atI (l.map f) i = some (f (l.getD i.toNat default)) := by
  unfold atI
  rw [List.length_map, ixN_nat h0 h1]
  show (l.map f)[i.toNat]? = _
  have hl : i.toNat < l.length := by omega
  rw [List.getElem?_map, List.getElem?_eq_getElem hl]
  simp [List.getD_eq_getElem?_getD, List.getElem?_eq_getElem hl]
theorem atI_ints {l : List Int} {i : Int} (h0 : 0 ≤ i) (h1 : i < l.length) : atI (l.map D.int) i = some (.int (l.getD i.toNat 0)) := atI_map h0 h1

/-! ### little joins, for «apply» -/
theorem mk_ix {xs : List D} {i : Int} {Q : D → Prop} {d : D} (h : atI xs i = some d) (q : Q d) : ∃ d, atI xs i = some d ∧ Q d := ⟨d, h, q⟩
theorem mk_join {A B : Bool → Prop} {y : Bool} (h1 : A y) (h2 : B y) : ∃ y, A y ∧ B y := ⟨y, h1, h2⟩
theorem mk_join2 {A : D → Prop} {B : D → Prop} {C : D → D → Prop} {y z : D} (h1 : A y) (h2 : B z) (h3 : C y z) : ∃ y z, A y ∧ B z ∧ C y z := ⟨y, z, h1, h2, h3⟩
/-! ### loops by a family of states -/
section
variable {X : Cx} {G : Gx} {ρ : List Sl} {E : DEnds} {e a b iter tg elt : Expr} {es ifs : List Expr} {body : List Stmt} {pos p p2 p3 : Pos} {x : Str}
theorem ds_forE (hp : PassesOwn (model X.prog X.w) X.A X.env X.xe) (hc : X.calm = true) {σ : Type} (F : σ → List Sl) (s0 : σ) (e0 : ρ = F s0)
    (h : DI X G ρ tg iter fun items => ∃ I : Nat → σ → Prop, I 0 s0 ∧ (∀ P i d s, items[i]? = some d → I i s → DG X (G.pn P) (F s) tg d fun ρ2 => DSs X (G.pn P) ρ2 body { nx := fun ρ3 => ∃ s', Le (F s') ρ3 ∧ I (i + 1) s', ct := fun ρ3 => ∃ s', Le (F s') ρ3 ∧ I (i + 1) s', bk := E.nx, rt := E.rt }) ∧ ∀ s, I items.length s → E.nx (F s))
    (hs : ∀ x, foldedSetIterable iter X.env x = pure x := by intro _; rfl) : DS X G ρ (.For tg iter body [] pos) E := ds_for hp hc (fun σ' H I R U => h σ' H I R fun J H' items pins k s hp ok q => U J H' items pins k s hp ok (by
      obtain ⟨I', i0, turn, fin⟩ := q
      refine ⟨fun i ρ' => ∃ s, ρ' = F s ∧ I' i s, ⟨s0, e0, i0⟩, fun P i d ρ' hd ⟨s, er, hI⟩ => ?_, fun ρ' ⟨s, er, hI⟩ => er ▸ fin s hI⟩
      subst er
      have t := turn P i d s hd hI
      refine fun σ2 H2 v I2 r2 Q' U2 => t σ2 H2 v I2 r2 Q' fun ρ3 σ3 H3 I3 w => U2 ρ3 σ3 H3 I3 ?_
      refine fun σ4 H4 I4 D4 U4 => w σ4 H4 I4 D4 ⟨fun ρ5 σ5 H5 I5 ⟨s', l, hs'⟩ => U4.nx ρ5 σ5 H5 I5 ⟨F s', l, s', rfl, hs'⟩, U4.rt, U4.bk, fun ρ5 σ5 H5 I5 ⟨s', l, hs'⟩ => U4.ct ρ5 σ5 H5 I5 ⟨F s', l, s', rfl, hs'⟩⟩)) hs
theorem ds_whileE (hp : PassesOwn (model X.prog X.w) X.A X.env X.xe) {σ : Type} (F : σ → List Sl) (s0 : σ) (e0 : ρ = F s0) (I : σ → Prop) (m : σ → Nat) (i0 : I s0)
    (h : ∀ s, I s → DT X G (F s) e fun t => if t = true then DSs X G (F s) body { nx := fun ρ3 => ∃ s', Le (F s') ρ3 ∧ I s' ∧ m s' < m s, ct := fun ρ3 => ∃ s', Le (F s') ρ3 ∧ I s' ∧ m s' < m s, bk := E.nx, rt := E.rt } else E.nx (F s)) : DS X G ρ (.While e body [] pos) E := ds_while hp (by
  refine ⟨fun n ρ' => ∃ s, ρ' = F s ∧ I s ∧ n = m s, ⟨m s0, s0, e0, i0, rfl⟩, ?_⟩
  rintro n ρ' ⟨s, rfl, hI, rfl⟩
  refine (h s hI).imp fun t q => ?_
  cases t with
  | false => exact q
  | true => exact fun σ4 H4 I4 D4 U4 => q σ4 H4 I4 D4 ⟨fun ρ5 σ5 H5 I5 ⟨s', l, hs', hm⟩ => U4.nx ρ5 σ5 H5 I5 ⟨m s', hm, F s', l, s', rfl, hs', rfl⟩, U4.rt, U4.bk, fun ρ5 σ5 H5 I5 ⟨s', l, hs', hm⟩ => U4.ct ρ5 σ5 H5 I5 ⟨m s', hm, F s', l, s', rfl, hs', rfl⟩⟩)
/-! ### comprehensions by maps -/
/-- [elt for tg in iter]: each x gives f x -/
theorem dlc_map {c : Bool} {scope : Scope} {vs : List Nat} {g : TG} {Q : List D → Prop} {α : Type} (enc : α → D) (f : α → D)
    (h : DI X G ρ tg iter fun items => ∃ xs : List α, items = xs.map enc ∧ xs.length ≤ 100000 ∧ (∀ q P x, x ∈ xs → DGw X (G.lc q P) (wipeS ρ vs) vs tg (enc x) g fun ρ2 => blkAll X scope fun Y => DE Y (G.lc q P) ρ2 c elt fun y => y = f x) ∧ Q (xs.map f)) :
    DLc X G ρ c elt tg iter [] scope vs g Q := fun σ H I R U => h σ H I R fun J H' items pins k s hp ok q => U J H' items pins k s hp ok (by
  obtain ⟨xs, rfl, hl, ht, q⟩ := q
  refine ⟨by rw [List.length_map]; exact hl, fun i acc => acc = (xs.take i).map f, rfl, fun q P i d acc hd ha => ?_, fun acc ha => ?_⟩
  · subst ha
    rw [List.getElem?_map] at hd
    cases e : xs[i]? with
    | none => rw [e] at hd; cases hd
    | some x =>
      rw [e] at hd
      cases hd
      have t := ht q P x (List.mem_of_getElem? e)
      refine fun σ2 H2 v I2 r2 Q' U2 => t σ2 H2 v I2 r2 Q' fun ρ3 σ3 I3 w3 o3 b => U2 ρ3 σ3 I3 w3 o3 ?_
      intro s' Hb C cl fp
      simp only [DTs, if_true]
      intro s'' Hb' C' cl' fp'
      refine (b s'' Hb' C' cl' fp').imp fun y ey => ?_
      rw [ey]
      show _ = _
      rw [List.take_add_one, e]
      simp
  · rw [List.length_map, List.take_length] at ha
    rw [ha]; exact q)
/-- with a test -/
theorem dlc_filter {c : Bool} {scope : Scope} {vs : List Nat} {g : TG} {Q : List D → Prop} {α : Type} (enc : α → D) (p' : α → Bool) (f : α → D) {cnd : Expr}
    (h : DI X G ρ tg iter fun items => ∃ xs : List α, items = xs.map enc ∧ xs.length ≤ 100000 ∧ (∀ q P x, x ∈ xs → DGw X (G.lc q P) (wipeS ρ vs) vs tg (enc x) g fun ρ2 => blkAll X scope fun Y => DT Y (G.lc q P) ρ2 cnd fun t => t = p' x ∧ (p' x = true → blkAll X scope fun Y => DE Y (G.lc q P) ρ2 c elt fun y => y = f x)) ∧ Q ((xs.filter p').map f)) :
    DLc X G ρ c elt tg iter [cnd] scope vs g Q := fun σ H I R U => h σ H I R fun J H' items pins k s hp ok q => U J H' items pins k s hp ok (by
  obtain ⟨xs, rfl, hl, ht, q⟩ := q
  refine ⟨by rw [List.length_map]; exact hl, fun i acc => acc = ((xs.take i).filter p').map f, rfl, fun q P i d acc hd ha => ?_, fun acc ha => ?_⟩
  · subst ha
    rw [List.getElem?_map] at hd
    cases e : xs[i]? with
    | none => rw [e] at hd; cases hd
    | some x =>
      rw [e] at hd
      cases hd
      have t := ht q P x (List.mem_of_getElem? e)
      refine fun σ2 H2 v I2 r2 Q' U2 => t σ2 H2 v I2 r2 Q' fun ρ3 σ3 I3 w3 o3 b => U2 ρ3 σ3 I3 w3 o3 ?_
      intro s' Hb C cl fp
      refine (b s' Hb C cl fp).imp fun t ⟨et, he⟩ => ?_
      cases z : p' x with
      | false =>
        rw [et, z, if_neg (by decide)]
        show _ = _
        rw [List.take_add_one, e]
        simp [z]
      | true =>
        rw [et, z, if_pos rfl]
        intro s'' Hb' C' cl' fp'
        refine (he z s'' Hb' C' cl' fp').imp fun y ey => ?_
        rw [ey]
        show _ = _
        rw [List.take_add_one, e]
        simp [z]
  · rw [List.length_map, List.take_length] at ha
    rw [ha]; exact q)
/-- two lists, place by place -/
inductive All2 {α β : Type} (R : α → β → Prop) : List α → List β → Prop
  | nil : All2 R [] []
  | cons {a : α} {b : β} {as : List α} {bs : List β} : R a b → All2 R as bs → All2 R (a :: as) (b :: bs)
theorem All2.snoc {α β : Type} {R : α → β → Prop} {a : α} {b : β} (h : R a b) : ∀ {as : List α} {bs : List β}, All2 R as bs → All2 R (as ++ [a]) (bs ++ [b])
  | _, _, .nil => .cons h .nil
  | _, _, .cons g r => .cons g (All2.snoc h r)
theorem All2.length {α β : Type} {R : α → β → Prop} : ∀ {as : List α} {bs : List β}, All2 R as bs → as.length = bs.length
  | _, _, .nil => rfl
  | _, _, .cons _ r => by rw [List.length_cons, List.length_cons, All2.length r]
/-- each x gives some y -/
theorem dlc_rel {c : Bool} {scope : Scope} {vs : List Nat} {g : TG} {Q : List D → Prop} {α β : Type} (enc : α → D) (enc2 : β → D) (R : α → β → Prop)
    (h : DI X G ρ tg iter fun items => ∃ xs : List α, items = xs.map enc ∧ xs.length ≤ 100000 ∧ (∀ q P x, x ∈ xs → DGw X (G.lc q P) (wipeS ρ vs) vs tg (enc x) g fun ρ2 => blkAll X scope fun Y => DE Y (G.lc q P) ρ2 c elt fun y => ∃ b, y = enc2 b ∧ R x b) ∧ ∀ ys : List β, All2 R xs ys → Q (ys.map enc2)) :
    DLc X G ρ c elt tg iter [] scope vs g Q := fun σ H I R' U => h σ H I R' fun J H' items pins k s hp ok q => U J H' items pins k s hp ok (by
  obtain ⟨xs, rfl, hl, ht, q⟩ := q
  refine ⟨by rw [List.length_map]; exact hl, fun i acc => ∃ ys : List β, acc = ys.map enc2 ∧ All2 R (xs.take i) ys, ⟨[], rfl, .nil⟩, fun q P i d acc hd ha => ?_, fun acc ha => ?_⟩
  · obtain ⟨ys, rfl, ha⟩ := ha
    rw [List.getElem?_map] at hd
    cases e : xs[i]? with
    | none => rw [e] at hd; cases hd
    | some x =>
      rw [e] at hd
      cases hd
      have t := ht q P x (List.mem_of_getElem? e)
      refine fun σ2 H2 v I2 r2 Q' U2 => t σ2 H2 v I2 r2 Q' fun ρ3 σ3 I3 w3 o3 b => U2 ρ3 σ3 I3 w3 o3 ?_
      intro s' Hb C cl fp
      simp only [DTs, if_true]
      intro s'' Hb' C' cl' fp'
      refine (b s'' Hb' C' cl' fp').imp fun y ⟨z, ey, hz⟩ => ?_
      refine ⟨ys ++ [z], by rw [ey]; simp, ?_⟩
      rw [List.take_add_one, e]
      exact ha.snoc hz
  · obtain ⟨ys, rfl, ha⟩ := ha
    rw [List.length_map, List.take_length] at ha
    exact q ys ha)
end
end Dw

/-! more rules -/
namespace Dw
open PySem PySem.Spec PyProof.Rows L2

/-- a length told by a number that is the same -/
theorem mk_len {xs : List D} {n : Nat} {Q : D → Prop} (h : xs.length = n) (q : Q (.int n)) : True ∧ Q (.int xs.length) := ⟨trivial, h ▸ q⟩
theorem walk_own {ρ : List Sl} {vs : List Nat} {a : Addr} (h : a ∈ owns ρ) (e : owns (wipeS ρ vs) = owns ρ := by rfl) : a ∈ owns (wipeS ρ vs) := e ▸ h
local macro_rules | `(tactic| walk_at "le") => `(tactic| (repeat (refine And.intro ?_ ?_; first | rfl | (simp; done))); exact trivial)

section
variable {X : Cx} {G : Gx} {ρ : List Sl} {E : DEnds} {e a b cc : Expr} {es : List Expr} {st : Stmt} {sts sts2 rest : List Stmt} {pos p p2 p3 : Pos} {x y z : Str} {c : Bool} {Q : D → Prop}
/-- both ways of an if go on: they meet in a family of states -/
theorem ds_ifE {σ : Type} (F : σ → List Sl) (I : σ → Prop) (h : DT X G ρ e fun t => if t = true then DSs X G ρ sts { E with nx := fun ρ' => ∃ s, Le (F s) ρ' ∧ I s } else DSs X G ρ sts2 { E with nx := fun ρ' => ∃ s, Le (F s) ρ' ∧ I s })
    (k : ∀ s, I s → E.nx (F s)) : DS X G ρ (.If e sts sts2 pos) E := ds_if (h.imp fun t q => by
  have U : ∀ {D : Ends}, UpS G E D → UpS G { E with nx := fun ρ' => ∃ s, Le (F s) ρ' ∧ I s } D := fun U => ⟨fun ρ σ H I' ⟨s, l, hs⟩ => U.nx _ σ H (I'.le l) (k s hs), U.rt, U.bk, U.ct⟩
  cases t with
  | true => exact fun σ H I' D U' => q σ H I' D (U U')
  | false => exact fun σ H I' D U' => q σ H I' D (U U'))

/-! ### several names at once, lists of the def's own among them -/
/-- what a new own list's address does to the rest: it is kept off -/
theorem StOk.lcN {σ : L2.St} {H H1 : Hp} {q : Addr} {u : HO} (I : StOk G ρ σ H) (k : Kp G.T G.S H H1) (s : SrcOk G.S H1) (np : H q = none) (hq : H1 q = some u) : StOk (G.lc q G.P) ρ σ H1 := by
  have I1 := I.kp k s
  have n1 : q ∉ owns ρ := fun m => by
    obtain ⟨o, e⟩ := I.trkO q m
    rw [np] at e; cases e
  have mv : Mv (G.O ++ owns ρ) (q :: G.O ++ owns ρ) H H1 := fun b o n e t_ => by
    have ne := ne_of_none e np
    exact ⟨fun m => (List.mem_cons.mp m).elim ne n, k.to b o (fun c d z => ⟨fun w => n (w ▸ (I.srcA z).1), fun w => n (w ▸ (I.srcA z).2)⟩) e t_⟩
  refine ⟨I1.len, fun i s e => ?_, I1.ext, I1.src, fun a c e => ?_, fun a ha => ?_, I.nd, fun a ha m => ?_, I.fr, fun p hp => (I.pin p hp).mv mv⟩
  · obtain ⟨x, hx, ok⟩ := I.slot i s e
    exact ⟨x, hx, ok.mv mv fun a ha o z t_ => k.to a o (I.notSrc (mem_owns e ha)) z t_⟩
  · obtain ⟨h1, h2, h3⟩ := I.srcO a c e
    exact ⟨List.mem_cons_of_mem _ h1, List.mem_cons_of_mem _ h2, h3⟩
  · rcases List.mem_cons.mp ha with z | z
    · exact ⟨u, by rw [z]; exact hq⟩
    · exact I1.trk a z
  · rcases List.mem_cons.mp m with z | z
    · exact n1 (z ▸ ha)
    · exact I.nO a ha z
theorem StOk.datL {σ : L2.St} {H : Hp} {q : Addr} {v : V} {d : D} (I : StOk G ρ σ H) (i : Nat) (r : Rp G.K (bs (G.lc q G.P) ρ true) H v d) : StOk G (ρ.set i (.dat d)) (σ.set i (some v)) H := I.dat i (r.mv (mv_sub fun a ha => by
  unfold bs at ha ⊢
  rw [if_pos rfl] at ha ⊢
  rcases List.mem_append.mp ha with m | m
  · exact List.mem_append_left _ (List.mem_cons_of_mem _ m)
  · exact List.mem_append_right _ m))
/-- own, data -/
theorem ds_parFD {a b : Expr} {px py pt : Pos} {kt k2 pt2} (i j : Nat) (hc : X.calm = true) (hN : X.N.Nodup) (h : DF X G ρ a fun ds => ∀ q, DE X (G.lc q G.P) ρ true b fun d => E.nx ((ρ.set i (.own q ds)).set j (.dat d))) (hij : i ≠ j := by decide) (hi : X.N[i]? = some x := by rfl) (hj : X.N[j]? = some y := by rfl)
    (hx : X.env.scope.names.lookup x = some .local := by rfl) (hy : X.env.scope.names.lookup y = some .local := by rfl) (hw : swappedStores [.Tuple [.Name x px, .Name y py] kt pt] (.Tuple [a, b] k2 pt2) X.env = pure (some [x, y]) := by rfl)
    (hs : swapsWithSole [.Tuple [.Name x px, .Name y py] kt pt] (.Tuple [a, b] k2 pt2) pos.line X.env = pure false := by rfl)
    (he : starEach [a, b] X.env = (false, eval a X.env) :: starEach [b] X.env := by rfl) (he2 : starEach [b] X.env = (false, eval b X.env) :: starEach [] X.env := by rfl) : DS X G ρ (.Assign [.Tuple [.Name x px, .Name y py] kt pt] (.Tuple [a, b] k2 pt2) pos) E := fun σ H I D U =>
  ssem_of (L2.ps_par hc hN hi hj hij hx hy (pa_cons pe_sem (pa_cons pe_sem pa_nil he2) he) hw hs) (h σ H I _ fun q vs H1 ds k s np hq r w => by
    refine w q σ H1 (I.lcN k s np hq) _ fun v H2 d k2 s2 r2 w2 => ?_
    have k12 := k.trans k2
    have nS : ∀ c d, G.S = some (c, d) → q ≠ c ∧ q ≠ d := fun c d e => by
      obtain ⟨_, _, _, _, e3, e4, _⟩ := I.src c d e
      exact ⟨fun z => (by rw [z, e3] at np; cases np), fun z => (by rw [z, e4] at np; cases np)⟩
    have rr : RpAll G.K (q :: (G.O ++ owns ρ)) H2 vs ds := r.mv (k2.mv fun a b e => ⟨List.mem_cons_of_mem _ (I.srcA e).1, List.mem_cons_of_mem _ (I.srcA e).2⟩)
    have I2 := I.newL i k12 s2 np (k2.at q _ nS hq) rr
    refine ⟨.ref q, v, rfl, U.nx _ _ H2 (I2.dat j (r2.mv (mv_sub fun a ha => ?_))) w2⟩
    unfold bs at ha ⊢
    rw [if_pos rfl] at ha ⊢
    rcases List.mem_append.mp ha with m | m
    · exact List.mem_append_left _ (List.mem_cons_of_mem _ m)
    · rcases owns_set_mem m with m | m
      · have : a = q := List.mem_singleton.mp m
        rw [this]; simp
      · exact List.mem_append_right _ m)
/-- data, own, data -/
theorem ds_par3DFD {a b c' : Expr} {px py pz pt : Pos} {kt k2 pt2} (i j l : Nat) (hc : X.calm = true) (hN : X.N.Nodup) (h : DE X G ρ true a fun d1 => DF X G ρ b fun ds => ∀ q, DE X (G.lc q G.P) ρ true c' fun d => E.nx (((ρ.set i (.dat d1)).set j (.own q ds)).set l (.dat d)))
    (hij : i ≠ j := by decide) (hil : i ≠ l := by decide) (hjl : j ≠ l := by decide) (hi : X.N[i]? = some x := by rfl) (hj : X.N[j]? = some y := by rfl) (hl : X.N[l]? = some z := by rfl)
    (hx : X.env.scope.names.lookup x = some .local := by rfl) (hy : X.env.scope.names.lookup y = some .local := by rfl) (hz : X.env.scope.names.lookup z = some .local := by rfl)
    (hps : ∀ ta, PA X [a, b, c'] ta → PS X (.Assign [.Tuple [.Name x px, .Name y py, .Name z pz] kt pt] (.Tuple [a, b, c'] k2 pt2) pos) (tPar3 i j l ta))
    (he : starEach [a, b, c'] X.env = (false, eval a X.env) :: starEach [b, c'] X.env := by rfl) (he2 : starEach [b, c'] X.env = (false, eval b X.env) :: starEach [c'] X.env := by rfl) (he3 : starEach [c'] X.env = (false, eval c' X.env) :: starEach [] X.env := by rfl) :
    DS X G ρ (.Assign [.Tuple [.Name x px, .Name y py, .Name z pz] kt pt] (.Tuple [a, b, c'] k2 pt2) pos) E := fun σ H I D U =>
  ssem_of (hps _ (pa_cons pe_sem (pa_cons pe_sem (pa_cons pe_sem pa_nil he3) he2) he)) (h σ H I _ fun v1 H0 d1 k0 s0 r1 h => by
    have I0 := I.kp k0 s0
    refine h σ H0 I0 _ fun q vs H1 ds k s np hq r w => ?_
    refine w q σ H1 (I0.lcN k s np hq) _ fun v H2 d k2 s2 r2 w2 => ?_
    have k12 := k.trans k2
    have nS : ∀ c d, G.S = some (c, d) → q ≠ c ∧ q ≠ d := fun c d e => by
      obtain ⟨_, _, _, _, e3, e4, _⟩ := I0.src c d e
      exact ⟨fun z => (by rw [z, e3] at np; cases np), fun z => (by rw [z, e4] at np; cases np)⟩
    -- the first name, in the heap where it came
    have Ia := I0.dat i r1
    have sub : ∀ a ∈ G.O ++ owns (ρ.set i (.dat d1)), a ∈ G.O ++ owns ρ := fun a ha => by
      rcases List.mem_append.mp ha with m | m
      · exact List.mem_append_left _ m
      · rcases owns_set_mem m with m | m
        · cases m
        · exact List.mem_append_right _ m
    have rr : RpAll G.K (q :: (G.O ++ owns (ρ.set i (.dat d1)))) H2 vs ds := (r.mv (k2.mv fun a b e => ⟨List.mem_cons_of_mem _ (I.srcA e).1, List.mem_cons_of_mem _ (I.srcA e).2⟩)).mv (mv_sub fun a ha => by
      rcases List.mem_cons.mp ha with m | m
      · rw [m]; simp
      · exact List.mem_cons_of_mem _ (sub a m))
    have Ib := Ia.newL j k12 s2 np (k2.at q _ nS hq) rr
    refine ⟨v1, .ref q, v, rfl, U.nx _ _ H2 (Ib.dat l (r2.mv (mv_sub fun a ha => ?_))) w2⟩
    unfold bs at ha ⊢
    rw [if_pos rfl] at ha ⊢
    rcases List.mem_append.mp ha with m | m
    · exact List.mem_append_left _ (List.mem_cons_of_mem _ m)
    · rcases owns_set_mem m with m | m
      · have : a = q := List.mem_singleton.mp m
        rw [this]; simp
      · rcases List.mem_append.mp (sub a (List.mem_append_right _ m)) with m | m
        · exact List.mem_append_left _ (List.mem_cons_of_mem _ m)
        · exact List.mem_append_right _ m)
end

/-! ### dicts of the def's own -/
def keyV : Key → D
  | .inl i => .int i
  | .inr s => .str s
theorem keyV_kV {K : PySem.W.Frag} {O : List Addr} {H : Hp} {v : V} {k : Key} (r : Rp K O H v (keyV k)) : v = kV k := by
  cases k <;> (cases r; rfl)
def dValD (es : List (Key × D)) (k : Key) : Option D := (es.find? fun p => decide (p.1 = k)).map (·.2)
def putD (es : List (Key × D)) (k : Key) (d : D) : List (Key × D) := if (es.any fun p => decide (p.1 = k)) = true then es.map (fun p => if p.1 = k then (p.1, d) else p) else es ++ [(k, d)]
def mergeD (es more : List (Key × D)) : List (Key × D) := more.foldl (fun acc p => putD acc p.1 p.2) es
section
variable {K : PySem.W.Frag} {O : List Addr} {H : Hp}
theorem RpKv.any {k : Key} : ∀ {kvs : List (Key × V)} {es : List (Key × D)}, RpKv K O H kvs es → (kvs.any fun p => decide (p.1 = k)) = (es.any fun p => decide (p.1 = k))
  | _, _, .nil => rfl
  | _, _, .cons _ r => by rw [List.any_cons, List.any_cons, RpKv.any r]
theorem RpKv.map {k : Key} {v : V} {d : D} (h : Rp K O H v d) : ∀ {kvs : List (Key × V)} {es : List (Key × D)}, RpKv K O H kvs es → RpKv K O H (kvs.map fun p => if p.1 = k then (p.1, v) else p) (es.map fun p => if p.1 = k then (p.1, d) else p)
  | _, _, .nil => .nil
  | _, _, .cons (k := k') g r => by
    rw [List.map_cons, List.map_cons]
    by_cases e : k' = k
    · simp only [e, if_true]; exact .cons h (RpKv.map h r)
    · simp only [e, if_false]; exact .cons g (RpKv.map h r)
theorem RpKv.snoc {k : Key} {v : V} {d : D} (h : Rp K O H v d) : ∀ {kvs : List (Key × V)} {es : List (Key × D)}, RpKv K O H kvs es → RpKv K O H (kvs ++ [(k, v)]) (es ++ [(k, d)])
  | _, _, .nil => .cons h .nil
  | _, _, .cons g r => .cons g (RpKv.snoc h r)
theorem RpKv.put {k : Key} {v : V} {d : D} (h : Rp K O H v d) {kvs : List (Key × V)} {es : List (Key × D)} (r : RpKv K O H kvs es) : RpKv K O H (putK kvs k v) (putD es k d) := by
  unfold putK putD
  rw [r.any]
  split
  · exact r.map h
  · exact r.snoc h
theorem RpKv.merge : ∀ {more : List (Key × V)} {ms : List (Key × D)}, RpKv K O H more ms → ∀ {kvs : List (Key × V)} {es : List (Key × D)}, RpKv K O H kvs es → RpKv K O H (mergeK kvs more) (mergeD es ms)
  | _, _, .nil, _, _, r => r
  | _, _, .cons (k := k) h q, kvs, es, r => by
    have := RpKv.merge q (r.put (k := k) h)
    first | exact this | (unfold mergeK mergeD at this ⊢; exact this) | (simp only [mergeK, mergeD, List.foldl_cons] at this ⊢; exact this)
theorem RpKv.val {k : Key} : ∀ {kvs : List (Key × V)} {es : List (Key × D)}, RpKv K O H kvs es → (valV kvs k).isSome = (dValD es k).isSome
  | _, _, .nil => rfl
  | _, _, .cons (k := k') (v := v) (d := d) g r => by
    have ih := RpKv.val (k := k) r
    unfold valV dValD at ih ⊢
    rw [List.find?_cons, List.find?_cons]
    by_cases e : k' = k
    · simp [e]
    · simp [e]
      simpa using ih
end
section
variable {X : Cx} {G : Gx} {ρ : List Sl} {E : DEnds} {e a b : Expr} {es : List Expr} {st : Stmt} {pos p p2 p3 : Pos} {x : Str} {c : Bool} {Q : D → Prop}
/-- d.update(e), two dicts -/
def rDUpd : V → List V → Hp → VK → Prop := fun x vs H Q => ∃ d o kvs more, x = .ref d ∧ vs = [.ref o] ∧ H d = some (.dK kvs) ∧ H o = some (.dK more) ∧ d ≠ o ∧ kvs.length + more.length ≤ sizeLine ∧ Q .non (upd H d (.dK (mergeK kvs more)))
theorem mt_dupd : MtM X "dict.update" rDUpd := by
  intro pins s σ H x vs v us Q I rx rv h
  obtain ⟨d, o, kvs, more, rfl, rfl, hd, ho, ne, hl, q⟩ := h
  cases rx
  obtain ⟨u, rfl, ru⟩ := vals1 rv
  cases ru
  obtain ⟨z1, hs1, vs1, rel1, dd1⟩ := dk_of I.hok hd
  obtain ⟨z2, hs2, vs2, rel2, dd2⟩ := dk_of I.hok ho
  refine call_meetsIn PySem.F.slot_dict_update dd1.typeIs PySem.F.entry_dict_update (PySem.F.args_dict_update_2 _ _) (meets_dict_update (mixKind X.prog X.w) d o ne hs2) ⟨vs1, vs2, dd1, dd2, ?_, fun h' e1 e2 sb => ?_⟩
  · rw [← rel1.length, ← rel2.length]; exact hl
  · have he : ∃ q, h'.get? d = some q := by
      obtain ⟨q, _, _, hq, _⟩ := e1
      exact ⟨q, hq⟩
    exact ⟨.non, _, d_write (t' := s.toks) I (by rw [hd]; trivial) sb he (dk_new (Nat.le_trans (length_mergeK more kvs) hl) hs1 (KV.merge rel2 rel1) e1), rfl, q⟩
/-- k not in d, of the def's own dict -/
def keyOf (d : D) (Q : Key → Prop) : Prop := match d with
  | .int i => Q (.inl i)
  | .str s => Q (.inr s)
  | _ => False
theorem de_notinOwn {o : Addr} {ds : List (Key × D)} (i : Nat) (hu : X.A.units + 1 < cLine) (ho : ρ[i]? = some (.ownD o ds)) (h : DE X G ρ false a fun d => keyOf d fun k => Q (.bl (!(dValD ds k).isSome))) (hN : X.N[i]? = some x := by rfl) (hv : Vis X.env.scope x := by first | exact Or.inl rfl | exact Or.inr (Or.inl rfl) | exact Or.inr (Or.inr rfl))
    (hd : (x == ("__debug__" : Str)) = false := by decide) (hcd : (x == ("__classdict__" : Str)) = false := by decide) (h1 : behindInMarks .NotIn (.Name x p) = false := by rfl) : DE X G ρ c (.Compare a [.NotIn] [.Name x p] pos) Q := fun σ H I Q' U => by
  obtain ⟨y, hy, rfl, kvs, hv', r⟩ := I.slot i _ ho
  refine sem_of (pe_cmp (pc_dnotin hu pe_sem (pe_var (pos := p) hN hv hd hcd)) h1) (h σ H I _ fun v H1 d k s r1 q => ?_)
  have hn : H1 o = some (.dK kvs) := k.at o _ (I.notSrc (mem_owns ho (by simp [Sl.addr]))) hv'
  have key : ∀ kk, v = kV kk → Q (.bl (!(dValD ds kk).isSome)) → (∃ w, σ[i]? = some (some w) ∧ ∃ a o', w = V.ref a ∧ DGet H1 a v o' ∧ Q' (.bl (!o'.isSome)) H1) := fun kk e q => by
    subst e
    exact ⟨_, hy, o, _, rfl, DGet.k hn, by rw [r.val]; exact (U.later k).bl s q⟩
  replace q : keyOf d (fun k => Q (.bl (!(dValD ds k).isSome))) := q
  unfold keyOf at q
  split at q
  · cases r1; exact key (.inl _) rfl q
  · cases r1; exact key (.inr _) rfl q
  · exact q.elim
/-- dict(..) of a list of pairs -/
def dictD : List D → (D → Prop) → Prop
  | [.lst xs], Q => ∃ ps : List (Key × D), xs = ps.map (fun p => .tup [keyV p.1, p.2]) ∧ Q (.dic (mergeD [] ps))
  | _, _ => False
theorem RpAll.pairsI {K : PySem.W.Frag} {O : List Addr} {H : Hp} : ∀ {ps : List (Key × D)} {vs : List V}, RpAll K O H vs (ps.map fun p => .tup [keyV p.1, p.2]) → ∃ (as : List Addr) (kvs : List (Key × V)), vs = as.map V.ref ∧ Paired (fun p kv => SqT K H p [kV kv.1, kv.2]) as kvs ∧ RpKv K O H kvs ps
  | [], _, .nil => ⟨[], [], rfl, .nil, .nil⟩
  | p :: r, _, .cons h q => by
    obtain ⟨as, kvs, rfl, h1, h2⟩ := RpAll.pairsI q
    obtain ⟨a, us, rfl, ha, r2⟩ := h.tupI
    obtain ⟨v, u, rfl, q1, q2⟩ := r2.twoI
    have e := keyV_kV q1
    subst e
    exact ⟨a :: as, (p.1, u) :: kvs, rfl, .cons ha h1, .cons q2 h2⟩
theorem de_dict (hK : X.K = G.K) (hc : X.calm = true) (hm : X.mg "dict" = none) (h : DA X G ρ c [e] fun ds => dictD ds Q) (hg : Gl X "dict" := by rfl)
    (he : starEach [e] X.env = (false, eval e X.env) :: starEach [] X.env := by rfl) (hpl : (backTo pos (starEach [] X.env)).any (·.1) = false := by rfl) : DE X G ρ c (.Call (.Name "dict" p) [e] [] pos) Q :=
  de_callTy (call_dictP hc) hm PyProof.Rows.boot_dict (R := dictD) (fun vs σ H ds Q' I r U q => by
    unfold dictD at q
    split at q
    · obtain ⟨ps, rfl, q⟩ := q
      obtain ⟨v, rfl, r1⟩ := r.oneI
      obtain ⟨a, us, rfl, ha, _, r2⟩ := r1.lstI
      obtain ⟨as, kvs, rfl, h1, h2⟩ := r2.pairsI
      refine ⟨a, as, kvs, rfl, .of ha, by rw [hK]; exact h1, fun p hp => U _ _ _ (Kp.new hp) (I.src.new hp) (.dic upd_same (I.fresh hp) ((h2.merge .nil).mv fun b u n e _ => ⟨n, by rw [upd_ne (ne_of_none e hp)]; exact e⟩)) q⟩
    · exact q.elim) h hg (by decide) (by decide) he hpl
/-- d.update(e) as a statement, d the def's own -/
theorem ds_dupd {o : Addr} {ds : List (Key × D)} (i : Nat) (ho : ρ[i]? = some (.ownD o ds)) (h : DE X G ρ true e fun d => ∃ ms, d = .dic ms ∧ ds.length + ms.length ≤ 100000 ∧ E.nx (ρ.set i (.ownD o (mergeD ds ms)))) (hN : X.N[i]? = some x := by rfl) (hv : Vis X.env.scope x := by first | exact Or.inl rfl | exact Or.inr (Or.inl rfl) | exact Or.inr (Or.inr rfl))
    (hd : (x == ("__debug__" : Str)) = false := by decide) (hcd : (x == ("__classdict__" : Str)) = false := by decide)
    (hbase : attributeBase (.Name x p) "update" X.env (eval (.Name x p) X.env) = eval (.Name x p) X.env := by rfl)
    (hfew : ((backTo pos (starEach [e] X.env)).all (fun x => !x.1) && (backToKw pos (keywordEach [] X.env)).all (fun x => x.1.isSome)
      && decide (([e]).length + ([] : List Keyword).length + (if ([] : List Keyword).isEmpty then 0 else 1) < 30)) = true := by rfl)
    (hline : (p2.endLine == pos.line) = true := by rfl) (hs : starEach [e] X.env = (false, eval e X.env) :: starEach [] X.env := by rfl) (hplain : (backTo pos (starEach [] X.env)).any (·.1) = false := by rfl)
    (hs2 : swapsWith (.Call (.Attribute (.Name x p) "update" p2) [e] [] pos) none p3.line X.env = pure false := by rfl) : DS X G ρ (.Expr (.Call (.Attribute (.Name x p) "update" p2) [e] [] pos) p3) E := fun σ H I D U => by
  obtain ⟨y, hy, rfl, kvs, hv', r⟩ := I.slot i _ ho
  refine ssem_of (L2.ps_expr (pe_bm PySem.F.plainAttrs_dict PySem.F.slot_dict_update PySem.F.type_dict_update mt_dupd (pe_var (pos := p) hN hv hd hcd) (pa_cons pe_sem pa_nil hs) hbase hfew hline hs hplain) hs2) ?_
  refine ⟨_, hy, ?_, h σ H I _ fun v H1 d k s r1 q => ?_⟩
  · exact .inr (.inr (.inl ⟨rfl, .inl ⟨kvs, hv'⟩⟩))
  obtain ⟨ms, rfl, hl, q⟩ := q
  obtain ⟨o2, more, rfl, ho2, n2, rm⟩ := r1.dicI
  have I1 := I.kp k s
  have hn : H1 o = some (.dK kvs) := k.at o _ (I.notSrc (mem_owns ho (by simp [Sl.addr]))) hv'
  have ne : o ≠ o2 := fun z => n2 (by rw [← z]; unfold bs; rw [if_pos rfl]; exact List.mem_append_right _ (mem_owns ho (by simp [Sl.addr])))
  refine ⟨o, o2, kvs, more, rfl, rfl, hn, ho2, ne, by rw [r.length, rm.length]; exact line_of hl, ?_⟩
  have r' : RpKv G.K (G.O ++ owns ρ) H1 kvs ds := r.mv (k.mv fun a b e => I.srcA e)
  have rm' : RpKv G.K (G.O ++ owns ρ) H1 more ms := by unfold bs at rm; rw [if_pos rfl] at rm; exact rm
  refine U.nx _ σ _ (I1.chg i ho (by simp [Sl.addr]) (by simp [Sl.addr]) fun x hx => ?_) q
  rw [hy] at hx
  cases hx
  exact ⟨rfl, _, upd_same, (rm'.merge r').mv fun b u n e _ => ⟨n, by rw [upd_ne (fun z => n (by rw [z]; exact List.mem_append_right _ (mem_owns ho (by simp [Sl.addr]))))]; exact e⟩⟩
end
end Dw

/-! more rules -/
namespace Dw
open PySem PySem.Spec PyProof.Rows L2
section
variable {X : Cx} {G : Gx} {ρ : List Sl} {E : DEnds} {e a b cc : Expr} {es : List Expr} {st : Stmt} {sts sts2 rest : List Stmt} {pos p p2 p3 : Pos} {x y z : Str} {c : Bool} {Q : D → Prop}
/-- a text so often -/
def rStrRep : R2 := fun x y H Q => ∃ a n, x = .str a ∧ y = .int n ∧ 1 < n ∧ n ≤ 100000 ∧ 0 < a.length ∧ a.length ≤ 100 ∧ a.length * n.toNat ≤ 100000 ∧ (Str.mk ((List.replicate n.toNat a.cps).foldl (· ++ ·) #[])).length ≤ 100000 ∧ Q (.str ⟨(List.replicate n.toNat a.cps).foldl (· ++ ·) #[]⟩) H
theorem op_strRep : OpR X (binaryOp .Mult) rStrRep := by
  intro pins s σ H x y v u Q I rx ry h
  obtain ⟨a, n, rfl, rfl, h1, h2, h3, h4, h5, h6, q⟩ := h
  obtain ⟨t, rfl⟩ := rx
  obtain ⟨t2, rfl⟩ := ry
  have e1 : ¬ n < 1 := by omega
  have e2 : ¬ (n == 1 || a.length == 0) = true := by simp; omega
  refine PySem.P.mul_str (by simp; omega) (fun _ _ hz => ?_) (fun _ _ => ?_) ?_
  · have : (100000 : Int) ≤ (2 ^ 63 - 1) / n := by
      rw [Int.le_ediv_iff_mul_le (by omega)]
      have : (100000 : Int) * n ≤ 100000 * 100000 := Int.mul_le_mul_of_nonneg_left h2 (by decide)
      omega
    have e : ((a.length : Nat) : Int) ≤ 100 := by omega
    omega
  · show decide (_ > sizeLine) = false
    rw [decide_eq_false_iff_not]
    have := sizeLine_eq
    omega
  · rw [if_neg e1, if_neg e2]
    exact ⟨line_of h6, .str _, H, I.tok _, ⟨_, rfl⟩, q⟩
def strRepD : D → D → (D → Prop) → Prop
  | .str a, .int n, Q => (1 < n ∧ n ≤ 100000 ∧ 0 < a.length ∧ a.length ≤ 100 ∧ a.length * n.toNat ≤ 100000 ∧ (Str.mk ((List.replicate n.toNat a.cps).foldl (· ++ ·) #[])).length ≤ 100000) ∧ Q (.str ⟨(List.replicate n.toNat a.cps).foldl (· ++ ·) #[]⟩)
  | _, _, _ => False
theorem de_strRep (h : DE X G ρ c a fun x => DE X G ρ c b fun y => strRepD x y Q) : DE X G ρ c (.BinOp a .Mult b pos) Q := fun σ H I Q' U =>
  sem_of (pe_op op_strRep pe_sem pe_sem) (two I U (fun v u H2 x y I2 r1 r2 U2 h2 => by
    replace h2 : strRepD x y Q := h2
    unfold strRepD at h2
    split at h2
    · cases r1; cases r2
      exact ⟨_, _, rfl, rfl, h2.1.1, h2.1.2.1, h2.1.2.2.1, h2.1.2.2.2.1, h2.1.2.2.2.2.1, h2.1.2.2.2.2.2, U2.str I2.src h2.2⟩
    · exact h2.elim) h)
def intSD : List D → (D → Prop) → Prop
  | [.str a], Q => ∃ n, PySem.intText? a = some n ∧ a.length ≤ 640 ∧ Q (.int n)
  | _, _ => False
theorem de_intS (hm : X.mg "int" = none) (h : DA X G ρ false [e] fun ds => intSD ds Q) (hg : Gl X "int" := by rfl)
    (he : starEach [e] X.env = (false, eval e X.env) :: starEach [] X.env := by rfl) (hpl : (backTo pos (starEach [] X.env)).any (·.1) = false := by rfl) : DE X G ρ c (.Call (.Name "int" p) [e] [] pos) Q :=
  de_callTy call_int_str hm boot_int (R := intSD) (fun vs σ H ds Q' I r U q => by
    unfold intSD at q
    split at q
    · obtain ⟨v, rfl, r1⟩ := r.oneI
      obtain ⟨n, h1, h2, q⟩ := q
      cases r1
      exact ⟨_, n, rfl, h1, h2, U.int I.src q⟩
    · exact q.elim) h hg (by decide) (by decide) he hpl
/-! min, max of a list or tuple of ints -/
theorem min_tupS {prog : Program} {w : World} {A : Around} {E : Value → Shared → Prop} {s : Shared} {t : Addr} {xs : Array (Int × Tok)} {Q : Value → Shared → Prop} (hh : A.handled = none) (ht : s.heap.IsTuple t (intItems xs)) (hne : 0 < xs.size)
    (h : ∀ v h' tk, (intItems xs)[argBest (fun i j => decide (numAt xs i < numAt xs j)) (xs.size - 1)]? = some v → (∀ b o, s.heap.get? b = some o → h'.get? b = some o) → Q v { s with heap := h', toks := tk }) :
    wpAny (model prog w) A (call (.builtin "min") [.ref t]) Q E s := by
  obtain ⟨o, ho, hc, n, hd⟩ := id ht
  have hne' : t ≠ s.heap.objs.size := Nat.ne_of_lt (Heap.lt_size ho)
  have hsz : (intItems xs).size = xs.size := by simp [intItems]
  have W := (Walks.tuple (prog := prog) (w := w) (A := A.in1) hh s.heap.objs.size t hne' (intItems xs)).toS
  rw [hsz] at W
  refine call_min_walkS (wpAny_pyIter_tuple ht ?_)
  refine ⟨s.heap.objs.size, _, _, _, _, _, _, _, rfl, W, ⟨⟨_, Heap.get?_push_size _ rfl, rfl, rfl⟩, ht.at fun o e => Heap.get?_push_of_some _ e⟩, fun b hb => ?_, hne, CmpOf.ints_lt (numAt xs) (fun _ _ => intItems_at), fun v s' hP hm => ?_⟩
  · rcases List.mem_cons.mp hb with rfl | hb
    · exact Heap.lt_size (Heap.get?_push_size _ rfl)
    · obtain rfl := List.mem_singleton.mp hb
      exact Heap.lt_size (Heap.get?_push_of_some _ ho)
  · obtain ⟨h', g', d', tk', os'⟩ := s'
    have e1 : g' = s.gens := hm.gens
    have e2 : d' = s.drawn := hm.drawn
    have e3 : os' = s.os := hm.os
    subst e1 e2 e3
    exact h v h' tk' hP fun b o e => hm.heap b o (fun hb => absurd (Heap.lt_size e) ((List.mem_singleton.mp hb) ▸ Nat.lt_irrefl _)) (Heap.get?_push_of_some _ e)
theorem min_rawT {prog : Program} {w : World} {A : Around} {E : Value → Shared → Prop} {s : Shared} {l : Addr} {its : List Value} {ns : List Int} {Q : Value → Shared → Prop} (hh : A.handled = none) (hl : IsTup s.heap l its.toArray) (hi : IntsAre its ns) (hne : 0 < ns.length)
    (h : ∀ h' tk M t', (∀ b o, s.heap.get? b = some o → h'.get? b = some o) → M ∈ ns → (∀ a, a ∈ ns → M ≤ a) → Q (.int M t') { s with heap := h', toks := tk }) : wpAny (model prog w) A (call (.builtin "min") [.ref l]) Q E s := by
  obtain ⟨xs, e⟩ := hi.allInts.items
  have hn : numsOf (intItems xs).toList = ns := by rw [← e]; exact hi.numsOf
  rw [nums_intItems] at hn
  subst hn
  rw [e] at hl
  have hsz : 0 < xs.size := by simpa using hne
  refine min_tupS hh hl hsz fun v h' tk hv hk => ?_
  obtain ⟨t, rfl⟩ := intItems_at hv
  obtain ⟨h1, h2⟩ := PySem.argBest_lt (numAt xs) (xs.size - 1)
  refine h h' tk _ t hk ?_ fun a ha => ?_
  · rw [numAt_eq]; exact PySem.getD_mem (by rw [List.length_map, Array.length_toList]; omega)
  · obtain ⟨j, hj, rfl⟩ := mem_getD ha
    rw [List.length_map, Array.length_toList] at hj
    rw [← numAt_eq]; exact h2 j (by omega)
def rMinA (K : PySem.W.Frag) : List V → Hp → VK → Prop := fun vs H Q => ∃ (a : Addr) (ns : List Int), vs = [V.ref a] ∧ (SqL K H a (ns.map V.int) ∨ SqT K H a (ns.map V.int)) ∧ 0 < ns.length ∧ ∀ m, m ∈ ns → (∀ y, y ∈ ns → m ≤ y) → Q (.int m) H
theorem cr_minA (hc : X.calm = true) : CallR X (.builtin "min") (rMinA X.K) := by
  intro pins s σ H vs us Q I r h
  obtain ⟨a, ns, rfl, hs | hs, hne, q⟩ := h
  · exact cr_min hc pins s σ H _ us Q I r ⟨a, ns, rfl, hs, hne, q⟩
  · obtain ⟨its, rv, hl, _⟩ := I.tuple hs
    rw [Vals.ref1 r]
    exact min_rawT (I.ok.hd hc) hl rv.ints hne fun h' tk m t' hk h1 h2 => ⟨.int _, H, I.kept hk, ⟨_, rfl⟩, q m h1 h2⟩
def minD : List D → (D → Prop) → Prop
  | [.lst xs], Q => ∃ ns : List Int, xs = ns.map D.int ∧ 0 < ns.length ∧ ∀ m, m ∈ ns → (∀ y, y ∈ ns → m ≤ y) → Q (.int m)
  | [.tup xs], Q => ∃ ns : List Int, xs = ns.map D.int ∧ 0 < ns.length ∧ ∀ m, m ∈ ns → (∀ y, y ∈ ns → m ≤ y) → Q (.int m)
  | _, _ => False
theorem de_min (hK : X.K = G.K) (hc : X.calm = true) (hm : X.mg "min" = none) (h : DA X G ρ false [e] fun ds => minD ds Q) (hg : Gl X "min" := by rfl)
    (he : starEach [e] X.env = (false, eval e X.env) :: starEach [] X.env := by rfl) (hpl : (backTo pos (starEach [] X.env)).any (·.1) = false := by rfl) : DE X G ρ c (.Call (.Name "min" p) [e] [] pos) Q :=
  de_callB (cr_minA hc) hm boot_min (R := minD) (fun vs σ H ds Q' I r U q => by
    unfold minD at q
    split at q
    · obtain ⟨ns, rfl, h0, q⟩ := q
      obtain ⟨v, rfl, r1⟩ := r.oneI
      obtain ⟨a, us, rfl, ha, _, r⟩ := r1.lstI
      have e := r.ints_inv
      subst e
      exact ⟨a, ns, rfl, .inl (.of ha), h0, fun m h1 h2 => U.int I.src (q m h1 h2)⟩
    · obtain ⟨ns, rfl, h0, q⟩ := q
      obtain ⟨v, rfl, r1⟩ := r.oneI
      obtain ⟨a, us, rfl, ha, r⟩ := r1.tupI
      have e := r.ints_inv
      subst e
      rw [← hK] at ha
      exact ⟨a, ns, rfl, .inr ha, h0, fun m h1 h2 => U.int I.src (q m h1 h2)⟩
    · exact q.elim) h hg (by decide) (by decide) he hpl
theorem StOk.newS {σ : L2.St} {H : Hp} {H1 : Hp} (I : StOk G ρ σ H) (i : Nat) {q : Addr} {sl : Sl} (hsl : sl.addr = [q]) (k : Kp G.T G.S H H1) (s : SrcOk G.S H1) (np : H q = none) (r : SlOk G.K (q :: (G.O ++ owns ρ)) H1 sl (some (.ref q))) :
    StOk G (ρ.set i sl) (σ.set i (some (.ref q))) H1 := by
  have I1 := I.kp k s
  have n1 : q ∉ G.O ++ owns ρ := fun m => by
    rcases List.mem_append.mp m with m | m
    · obtain ⟨o, e⟩ := I.trk q m
      rw [np] at e; cases e
    · obtain ⟨o, e⟩ := I.trkO q m
      rw [np] at e; cases e
  have sub : ∀ b ∈ G.O ++ owns (ρ.set i sl), b ∈ q :: (G.O ++ owns ρ) := fun b hb => by
    rw [List.mem_append] at hb
    rw [List.mem_cons, List.mem_append]
    rcases hb with h | h
    · exact .inr (.inl h)
    · rcases owns_set_mem h with h | h
      · rw [hsl] at h; exact .inl (List.mem_singleton.mp h)
      · exact .inr (.inr h)
  have mv : Mv (G.O ++ owns ρ) (G.O ++ owns (ρ.set i sl)) H H1 := fun b o n e t_ => by
    have n2 : b ≠ q := fun z => by rw [z, np] at e; cases e
    refine ⟨fun m => ?_, k.to b o (fun c d z => ⟨fun w => n (w ▸ (I.srcA z).1), fun w => n (w ▸ (I.srcA z).2)⟩) e t_⟩
    rcases List.mem_cons.mp (sub b m) with m | m
    · exact n2 m
    · exact n m
  have subo : ∀ b ∈ owns (ρ.set i sl), b = q ∨ b ∈ owns ρ := fun b hb => by
    rcases owns_set_mem hb with h | h
    · rw [hsl] at h; exact .inl (List.mem_singleton.mp h)
    · exact .inr h
  refine ⟨by rw [List.length_set, List.length_set]; exact I.len, fun j t hj => ?_, I1.ext, I1.src, I1.srcO, I1.trk, owns_set_nodup I.nd (by rw [hsl]; simp) (by rw [hsl]; simp; exact fun m => n1 (List.mem_append_right _ m)), fun b hb => ?_, fun b hb => ?_, fun p hp => (I.pin p hp).mv mv⟩
  · by_cases e : i = j
    · subst e
      have hl : i < ρ.length := by
        have := (List.getElem?_eq_some_iff.mp hj).1
        rwa [List.length_set] at this
      rw [List.getElem?_set_self hl] at hj
      cases hj
      exact ⟨_, by rw [List.getElem?_set_self (by rw [I.len]; exact hl)], r.mv (mv_sub sub) (fun a ha o z _ => z)⟩
    · rw [List.getElem?_set_ne e] at hj
      obtain ⟨y, hy, ok⟩ := I.slot j t hj
      exact ⟨y, by rw [List.getElem?_set_ne e]; exact hy, ok.mv mv fun b hb o z t_ => k.to b o (I.notSrc (mem_owns hj hb)) z t_⟩
  · rcases subo b hb with h | h
    · rw [h]; exact fun m => n1 (List.mem_append_left _ m)
    · exact I.nO b h
  · rcases subo b hb with h | h
    · rw [h]
      cases e : G.H0 q with
      | none => rfl
      | some o =>
        have hS : ∀ c d, G.S = some (c, d) → q ≠ c ∧ q ≠ d := fun c d z => ⟨fun w => n1 (w ▸ (I.srcA z).1), fun w => n1 (w ▸ (I.srcA z).2)⟩
        obtain ⟨u, e2⟩ := I.ext.has q o e
        rw [e2] at np
        cases np
    · exact I.fr b h
theorem StOk.newD {σ : L2.St} {H : Hp} (I : StOk G ρ σ H) (i : Nat) {q : Addr} (np : H q = none) : StOk G (ρ.set i (.ownD q [])) (σ.set i (some (.ref q))) (upd H q (.dK [])) :=
  I.newS i (sl := .ownD q []) rfl (Kp.new np) (I.src.new np) np ⟨rfl, [], upd_same, .nil⟩
/-- name, name2 = ([..], {}): a list and a dict of the def's own -/
theorem ds_parFDict {a : Expr} {px py pt pd : Pos} {kt k2 pt2} (i j : Nat) (hc : X.calm = true) (hN : X.N.Nodup) (h : DF X G ρ a fun ds => ∀ q q', E.nx ((ρ.set i (.own q ds)).set j (.ownD q' []))) (hij : i ≠ j := by decide) (hi : X.N[i]? = some x := by rfl) (hj : X.N[j]? = some y := by rfl)
    (hx : X.env.scope.names.lookup x = some .local := by rfl) (hy : X.env.scope.names.lookup y = some .local := by rfl) (hw : swappedStores [.Tuple [.Name x px, .Name y py] kt pt] (.Tuple [a, .Dict [] [] pd] k2 pt2) X.env = pure (some [x, y]) := by rfl)
    (hs : swapsWithSole [.Tuple [.Name x px, .Name y py] kt pt] (.Tuple [a, .Dict [] [] pd] k2 pt2) pos.line X.env = pure false := by rfl)
    (he : starEach [a, .Dict [] [] pd] X.env = (false, eval a X.env) :: starEach [.Dict [] [] pd] X.env := by rfl) (he2 : starEach [.Dict [] [] pd] X.env = (false, eval (.Dict [] [] pd) X.env) :: starEach [] X.env := by rfl) : DS X G ρ (.Assign [.Tuple [.Name x px, .Name y py] kt pt] (.Tuple [a, .Dict [] [] pd] k2 pt2) pos) E := fun σ H I D U =>
  ssem_of (L2.ps_par hc hN hi hj hij hx hy (pa_cons pe_sem (pa_cons pe_dnewK pa_nil he2) he) hw hs) (h σ H I _ fun q vs H1 ds k s np hq r w => by
    intro q' hq'
    have nS : ∀ c d, G.S = some (c, d) → q ≠ c ∧ q ≠ d := fun c d e => by
      obtain ⟨_, _, _, _, e3, e4, _⟩ := I.src c d e
      exact ⟨fun z => (by rw [z, e3] at np; cases np), fun z => (by rw [z, e4] at np; cases np)⟩
    have I2 := I.newL i k s np hq r
    refine ⟨.ref q, .ref q', rfl, U.nx _ _ _ (I2.newD j hq') (w q q')⟩)
end
end Dw

/-! drawing by pop in a comprehension; what repr asks -/
namespace Dw
open PySem PySem.Spec PyProof.Rows L2
theorem seqIndex_nat {j n : Nat} (h : j < n) : seqIndex? (j : Int) n = some j := by
  unfold seqIndex?
  simp
  omega
theorem perm_erase {α : Type} : ∀ {l : List α} {r : Nat} (h : r < l.length), ([l[r]] ++ l.eraseIdx r).Perm l
  | a :: l, 0, _ => List.Perm.refl _
  | a :: l, r + 1, h => by
    have h' : r < l.length := by simpa using h
    have ih := perm_erase (l := l) (r := r) h'
    simp only [List.getElem_cons_succ, List.eraseIdx_cons_succ]
    exact (List.Perm.swap a l[r] (l.eraseIdx r)).trans (List.Perm.cons a ih)
theorem RpAll.eraseIdx {K : PySem.W.Frag} {O : List Addr} {H : Hp} : ∀ (r : Nat) {vs : List V} {ds : List D}, RpAll K O H vs ds → RpAll K O H (vs.eraseIdx r) (ds.eraseIdx r)
  | _, _, _, .nil => by simp; exact .nil
  | 0, _, _, .cons _ r => r
  | n + 1, _, _, .cons h r => .cons h (RpAll.eraseIdx n r)
section
variable {X : Cx} {G : Gx} {ρ : List Sl} {E : DEnds} {e tg iter : Expr} {pos pos4 p p2 p3 : Pos} {x y z : Str}
/-- return [x.pop(e) for y in iter]: all of x is taken, one by one -/
theorem ds_retPop {o : Addr} {ds0 : List D} {scope : Scope} {py : Pos} (i j : Nat) (hc : X.calm = true) (hN : X.N.Nodup) (hb : blkC X.N X.env.scope scope [(y, j)] = true)
    (hg : ∀ (s : Shared) (H : Hp) (C : Addr) (cl : List (Str × Addr)) (fp : List Addr), PG (X.blk s H scope (compEnvC scope cl C X.env) fp) (.Name y py) (gName j))
    (ho : ρ[i]? = some (.own o ds0)) (hj : ρ[j]? = some .any) (hij : i ≠ j) (hl : ds0.length ≤ 100000)
    (hi : DI X G ρ (.Name y py) iter fun items => items.length = ds0.length)
    (he : ∀ q P ds d, 0 < ds.length → ds.length ≤ ds0.length → blkAll X scope fun Y => DE Y (G.lc q P) ((ρ.set i (.own o ds)).set j (.dat d)) true e fun z => ∃ r : Nat, z = .int r ∧ r < ds.length)
    (fin : ∀ ys : List D, ys.Perm ds0 → E.rt (.lst ys))
    (hm : ∀ (s : Shared) (H : Hp) (C : Addr) (cl : List (Str × Addr)) (fp : List Addr), ∀ (t : TE), PE (X.blk s H scope (compEnvC scope cl C X.env) fp) e t → PE (X.blk s H scope (compEnvC scope cl C X.env) fp) (.Call (.Attribute (.Name x p) "pop" p2) [e] [] pos) (tBM (X.blk s H scope (compEnvC scope cl C X.env) fp).K "list" rPopAt (tVar i) (tCons t tNil)))
    (hs : ∀ x, foldedSetIterable iter X.env x = pure x := by intro _; rfl) : DS X G ρ (.Return (some (.ListComp (.Call (.Attribute (.Name x p) "pop" p2) [e] [] pos) [⟨.Name y py, iter, [], 0⟩] scope p3)) pos4) E := fun σ H I DD U => by
  have hiL : i < ρ.length := (List.getElem?_eq_some_iff.mp ho).1
  have hjL : j < ρ.length := (List.getElem?_eq_some_iff.mp hj).1
  let S : List D → List Sl := fun ds => (ρ.set i (.own o ds)).set j .any
  have eS0 : S ds0 = ρ := by
    show (ρ.set i (.own o ds0)).set j .any = ρ
    rw [show ρ.set i (.own o ds0) = ρ from by
      apply List.ext_getElem? ; intro k
      by_cases e : i = k
      · subst e; rw [List.getElem?_set_self hiL, ho]
      · rw [List.getElem?_set_ne e]]
    apply List.ext_getElem? ; intro k
    by_cases e : j = k
    · subst e; rw [List.getElem?_set_self hjL, hj]
    · rw [List.getElem?_set_ne e]
  have eI : ∀ ds, (S ds)[i]? = some (.own o ds) := fun ds => by
    show ((ρ.set i (.own o ds)).set j .any)[i]? = _
    rw [List.getElem?_set_ne (Ne.symm hij), List.getElem?_set_self hiL]
  have eJ : ∀ ds, (S ds)[j]? = some .any := fun ds => by
    show ((ρ.set i (.own o ds)).set j .any)[j]? = _
    rw [List.getElem?_set_self (by rw [List.length_set]; exact hjL)]
  have eo : ∀ ds, owns (S ds) = owns ρ := fun ds => by
    show owns ((ρ.set i (.own o ds)).set j .any) = _
    rw [owns_set_same (s := .any) (s0 := .any) rfl (by rw [List.getElem?_set_ne hij]; exact hj), owns_set_same (s := .own o ds) (s0 := .own o ds0) rfl ho]
  have eD : ∀ ds d ds', ((((S ds).set j (.dat d)).set i (.own o ds')).set j .any) = S ds' := fun ds d ds' => by
    show (((((ρ.set i (.own o ds)).set j .any).set j (.dat d)).set i (.own o ds')).set j .any) = (ρ.set i (.own o ds')).set j .any
    rw [List.set_set, List.set_comm _ _ (Ne.symm hij), List.set_set, List.set_set]
  have eD2 : ∀ ds d, (S ds).set j (.dat d) = (ρ.set i (.own o ds)).set j (.dat d) := fun ds d => by
    show ((ρ.set i (.own o ds)).set j .any).set j (.dat d) = _
    rw [List.set_set]
  have oM : o ∈ owns ρ := mem_owns ho (by simp [Sl.addr])
  refine ssem_of (ps_ret (L2.pe_lc (own := [(y, j)]) (g := gName j) (tt := tYes) (te := tBM X.K "list" rPopAt (tVar i) (tCons (eAll X scope e) tNil)) hc hN pi_sem (blkOk_by hb) hg (fun s H C cl fp => pts_nil) (fun s H C cl fp => hm s H C cl fp _ (pe_eAll s H C cl fp)) hs)) ?_
  refine hi σ H I _ fun J H1 items pins k s hpin ok hlen q hq => ?_
  have I1 := I.kp k s
  have h0 : G.H0 q = none := I.ext.trans k |>.back s hq
  have nS : ∀ a c, G.S = some (a, c) → q ≠ a ∧ q ≠ c := fun a c e => by
    obtain ⟨_, _, _, _, e3, e4, _⟩ := s a c e
    exact ⟨fun z => (by rw [z, e3] at hq; cases hq), fun z => (by rw [z, e4] at hq; cases hq)⟩
  have Iw : StOk G (S ds0) (L2.wipe σ [j]) H1 := by
    have z := I1.set0 j (s := .any) (x := none) rfl trivial
    have e : ρ.set j .any = S ds0 := by
      rw [eS0]
      apply List.ext_getElem? ; intro k
      by_cases e : j = k
      · subst e; rw [List.getElem?_set_self hjL, hj]
      · rw [List.getElem?_set_ne e]
    rw [← e]; exact z
  have hpin' : ∀ p ∈ pins, Rp G.K (G.O ++ owns (S ds0)) H1 p.1 p.2 := fun p hp => by rw [eo]; exact hpin p hp
  refine ⟨fun i m H => m = items.length - i ∧ i ≤ items.length ∧ ∃ us acc ds, H q = some (.lst us) ∧ RpAll G.K ((q :: G.O) ++ owns ρ) H us acc ∧ acc.length = i ∧ acc.length + ds.length = ds0.length ∧ (acc ++ ds).Perm ds0 ∧ StOk (G.lc q pins) (S ds) (L2.wipe σ [j]) H,
    ⟨items.length, rfl, Nat.zero_le _, [], [], ds0, upd_same, .nil, rfl, by simp, List.Perm.refl _, Iw.lc hq hpin'⟩, ?_⟩
  rintro k0 m H2 ⟨rfl, hi2, us, acc, ds, hu, ra, hla, hls, hp, I2⟩
  obtain ⟨h1, h2⟩ := ok k0 H2 (q :: G.O ++ owns (S ds)) (fun p hp => I2.pin p hp) fun a ha => (List.mem_append.mp ha).elim (I2.trk a) (I2.trkO a)
  by_cases hlt : k0 < items.length
  · obtain ⟨go, yld⟩ := h2 items[k0] (by simp [hlt])
    refine .inr ⟨go, fun H => ∃ us acc ds, H q = some (.lst us) ∧ RpAll G.K ((q :: G.O) ++ owns ρ) H us acc ∧ acc.length = k0 + 1 ∧ acc.length + ds.length = ds0.length ∧ (acc ++ ds).Perm ds0 ∧ StOk (G.lc q pins) (S ds) (L2.wipe σ [j]) H, fun H' w => ⟨items.length - (k0 + 1), by omega, rfl, hlt, w⟩, fun x H3 y => ?_⟩
    obtain ⟨k3, r3⟩ := yld x H3 y
    have I3 : StOk (G.lc q pins) (S ds) (L2.wipe σ [j]) H3 := I2.kp (Kp.of_all k3) (I2.src.of_all k3)
    have ra3 : RpAll G.K ((q :: G.O) ++ owns ρ) H3 us acc := ra.mv fun a o n e _ => ⟨n, k3 a o e⟩
    have I4 := I3.dat j (toTrue r3)
    refine ⟨(by show ((σ.set j none).set j (some x)).set j none = σ.set j none; rw [List.set_set, List.set_set]), ?_⟩
    simp only [tYes, if_true]
    obtain ⟨w, hw, rfl, vs, hv, rv⟩ := I4.slot i _ (show ((S ds).set j (.dat items[k0]))[i]? = some (.own o ds) by rw [List.getElem?_set_ne (Ne.symm hij)]; exact eI ds)
    have eo4 : owns ((S ds).set j (.dat items[k0])) = owns ρ := by rw [← eo ds]; exact owns_set_same (s := .dat _) (s0 := .any) rfl (eJ ds)
    have rv' : RpAll G.K ((q :: G.O) ++ owns ρ) H3 vs ds := by rw [eo4] at rv; exact rv
    have hdl : 0 < ds.length := by omega
    refine ⟨.ref o, hw, .inl ⟨rfl, _, .of hv⟩, ?_⟩
    intro s' Hb C cl fp
    have I4' : StOk (G.lc q pins) ((ρ.set i (.own o ds)).set j (.dat items[k0])) ((L2.wipe σ [j]).set j (some x)) H3 := by rw [← eD2]; exact I4
    refine he q pins ds items[k0] hdl (by omega) s' Hb C cl fp _ H3 I4' _ fun v H5 d k5 s5 r5 w5 => ?_
    obtain ⟨r, rfl, hr⟩ := w5
    cases r5
    have ne1 : q ≠ o := fun z => I4.nO o (by rw [eo4]; exact oM) (by rw [z]; simp)
    have u3 : H3 q = some (.lst us) := k3 q _ hu
    have u5 : H5 q = some (.lst us) := k5.at q _ nS u3
    have v5 : H5 o = some (.lst vs) := k5.at o _ (I4.notSrc (by rw [eo4]; exact oM)) hv
    have srcB : ∀ a c, G.S = some (a, c) → a ∈ (q :: G.O) ++ owns ρ ∧ c ∈ (q :: G.O) ++ owns ρ := fun a c e => by
      have := I4.srcA e
      rw [eo4] at this; exact this
    have rv5 : RpAll G.K ((q :: G.O) ++ owns ρ) H5 vs ds := rv'.mv (k5.mv srcB)
    have ra5 : RpAll G.K ((q :: G.O) ++ owns ρ) H5 us acc := ra3.mv (k5.mv srcB)
    have hvl : r < vs.length := by rw [rv5.length]; exact hr
    obtain ⟨dd, hdd, rdd⟩ := rv5.get (i := r) (v := vs[r]) (by simp [hvl])
    refine ⟨o, vs, (r : Int), r, vs[r], rfl, rfl, v5, by omega, by omega, seqIndex_nat hvl, by simp [hvl], us, ?_, ?_, us ++ [vs[r]], acc ++ [dd], ds.eraseIdx r, upd_same, ?_, ?_, ?_, ?_, ?_⟩
    · rw [upd_ne ne1]; exact u5
    · rw [ra.length, sizeLine_eq]; omega
    · exact (ra5.append (.cons rdd .nil)).mv fun b u n e _ => ⟨n, by rw [upd_ne (fun z => n (by rw [z]; simp)), upd_ne (fun z => n (by rw [z]; exact List.mem_append_right _ oM))]; exact e⟩
    · rw [List.length_append, hla]; rfl
    · rw [List.length_append, List.length_eraseIdx, if_pos hr]; simp; omega
    · refine List.Perm.trans ?_ hp
      rw [List.append_assoc]
      refine List.Perm.append_left _ ?_
      have e := (List.getElem?_eq_some_iff.mp hdd).2
      rw [← e]
      exact perm_erase hr
    · -- the state again
      have I5 := I4.kp k5 s5
      have I6 := I5.chg i (a := o) (s := .own o (ds.eraseIdx r)) (u := .lst (vs.eraseIdx r)) (show ((S ds).set j (.dat items[k0]))[i]? = some (.own o ds) by rw [List.getElem?_set_ne (Ne.symm hij)]; exact eI ds) (by simp [Sl.addr]) (by simp [Sl.addr]) fun x hx => by
        rw [hw] at hx
        cases hx
        refine ⟨rfl, _, upd_same, ?_⟩
        rw [eo4]
        exact (rv5.eraseIdx r).mv fun b u n e _ => ⟨n, by rw [upd_ne (fun z => n (by rw [z]; exact List.mem_append_right _ oM))]; exact e⟩
      have I7 := I6.set0 j (s := .any) (x := none) rfl trivial
      rw [eD] at I7
      have ew : (((L2.wipe σ [j]).set j (some x)).set j none) = L2.wipe σ [j] := by
        show ((σ.set j none).set j (some x)).set j none = σ.set j none
        rw [List.set_set, List.set_set]
      rw [ew] at I7
      exact I7.lcg (w := .lst us) (by rw [upd_ne ne1]; exact u5) (.inl ⟨_, rfl⟩) h0 nS
  · have e : k0 = items.length := by omega
    have hd : ds = [] := List.length_eq_zero_iff.mp (by omega)
    subst hd
    rw [List.append_nil] at hp
    refine .inl ⟨h1 e, U.rt _ H2 (.lst acc) I2.ext I2.src ?_ (fin acc hp)⟩
    · refine Rp.lst (a := q) hu ?_ (ra.mv (mv_sub fun a ha => List.mem_append_left _ (List.mem_cons_of_mem _ ha)))
      intro m
      obtain ⟨u, e⟩ := I1.trk q m
      rw [hq] at e; cases e
end
end Dw

/-! equality, and what repr asks -/
namespace Dw
open PySem PySem.Spec PyProof.Rows L2
section
variable {X : Cx} {G : Gx} {ρ : List Sl} {c : Bool} {Q : D → Prop} {e a b : Expr} {es : List Expr} {pos p p2 p3 : Pos}
/-- two texts, or two ints -/
def eqSD : D → D → (Bool → Prop) → Prop
  | .str x, .str y, Q => Q (decide (x = y))
  | .int x, .int y, Q => Q (decide (x = y))
  | _, _, _ => False
theorem de_eqS (h : DE X G ρ false a fun x => DE X G ρ false b fun y => eqSD x y fun k => Q (.bl k)) : DE X G ρ c (.Compare a [.Eq] [b] pos) Q := fun σ H I Q' U =>
  sem_of (pe_cmpR op_eq pe_sem pe_sem (nomark _)) (two (t := rEq) (R := fun x y Q => eqSD x y fun k => Q (.bl k)) I U (fun v u H2 x y I2 r1 r2 U2 h2 => by
    unfold eqSD at h2
    split at h2
    · cases r1; cases r2
      exact ⟨rfl, by simpa using U2.bl I2.src h2⟩
    · cases r1; cases r2
      exact ⟨rfl, by simpa using U2.bl I2.src h2⟩
    · exact h2.elim) h)
theorem de_neS (h : DE X G ρ false a fun x => DE X G ρ false b fun y => eqSD x y fun k => Q (.bl (!k))) : DE X G ρ c (.Compare a [.NotEq] [b] pos) Q := fun σ H I Q' U =>
  sem_of (pe_cmpR op_ne pe_sem pe_sem (nomark _)) (two (t := rNe) (R := fun x y Q => eqSD x y fun k => Q (.bl (!k))) I U (fun v u H2 x y I2 r1 r2 U2 h2 => by
    unfold eqSD at h2
    split at h2
    · cases r1; cases r2
      exact ⟨rfl, by simpa using U2.bl I2.src h2⟩
    · cases r1; cases r2
      exact ⟨rfl, by simpa using U2.bl I2.src h2⟩
    · exact h2.elim) h)
end
theorem eqD_refl {d : D} (h : flat 60 d = true) : eqD d d = true := SeqAt.eqv_refl d.py (flat_can h).1
/-- what repr and == ask: n the depth, k a bound of the items -/
structure Rok (n k : Nat) (d : D) : Prop where
  fl : flat n d = true
  sh : d.py.showable = true
  lv : d.py.leavesShort 2000 = true
  bk : d.py.bulk ≤ k
theorem Rok.int {n : Nat} {i : Int} (h : i.natAbs < 2 ^ 1900) : Rok n 0 (.int i) := by
  have hl : i.natAbs.log2 < 1900 := by
    by_cases e : i.natAbs = 0
    · rw [e]; decide
    · exact (Nat.log2_lt e).mpr h
  refine ⟨by cases n <;> rfl, ?_, ?_, ?_⟩
  · simp only [D.py, PyData.showable, decide_eq_true_eq]; omega
  · have h := int_text_length_le (a := i) (k := 1900) (by decide) hl
    have h2 : (PyData.shown (.int i)).length ≤ 2000 := by
      have e : PyData.shown (.int i) = Str.ofString (toString i) := by simp only [PyData.shown]
      rw [e, PySem.ofString_length]
      omega
    simp only [D.py, PyData.leavesShort]
    exact decide_eq_true h2
  · simp [D.py, PyData.bulk]
theorem Rok.mono {n k k' : Nat} {d : D} (h : Rok n k d) (e : k ≤ k') : Rok n k' d := ⟨h.fl, h.sh, h.lv, Nat.le_trans h.bk e⟩
theorem Rok.non {n : Nat} : Rok n 0 .non := ⟨by cases n <;> rfl, rfl, rfl, Nat.le_refl _⟩
theorem Rok.bl {n : Nat} {b : Bool} : Rok n 0 (.bl b) := ⟨by cases n <;> rfl, rfl, rfl, Nat.le_refl _⟩
theorem rok_all {n k : Nat} : ∀ {xs : List D}, (∀ x ∈ xs, Rok n k x) → flatAll n xs = true ∧ PyData.showableAll (pyAll xs) = true ∧ PyData.leavesShortAll 2000 (pyAll xs) = true ∧ PyData.bulkAll (pyAll xs) ≤ xs.length * (k + 1)
  | [], _ => ⟨flatAll_nil, rfl, rfl, by simp [pyAll, PyData.bulkAll]⟩
  | x :: xs, h => by
    obtain ⟨a, b, c, d⟩ := rok_all (xs := xs) fun y hy => h y (by simp [hy])
    have q := h x (by simp)
    refine ⟨by rw [flatAll_cons, q.fl, a]; rfl, by simp only [pyAll, PyData.showableAll, q.sh, b, Bool.and_self], by simp only [pyAll, PyData.leavesShortAll, q.lv, c, Bool.and_self], ?_⟩
    have hb := q.bk
    simp only [pyAll, PyData.bulkAll, List.length_cons]
    rw [Nat.add_mul]
    omega
theorem Rok.tup {n k : Nat} {xs : List D} (h : ∀ x ∈ xs, Rok n k x) : Rok (n + 1) (xs.length * (k + 1)) (.tup xs) := by
  obtain ⟨a, b, c, d⟩ := rok_all h
  exact ⟨by simpa only [flat] using a, by simpa only [D.py, PyData.showable] using b, by simpa only [D.py, PyData.leavesShort] using c, by simpa only [D.py, PyData.bulk] using d⟩
theorem Rok.lst {n k : Nat} {xs : List D} (h : ∀ x ∈ xs, Rok n k x) : Rok (n + 1) (xs.length * (k + 1)) (.lst xs) := by
  obtain ⟨a, b, c, d⟩ := rok_all h
  exact ⟨by simpa only [flat] using a, by simpa only [D.py, PyData.showable] using b, by simpa only [D.py, PyData.leavesShort] using c, by simpa only [D.py, PyData.bulk] using d⟩
theorem Rok.tup' {n k m : Nat} {xs : List D} (h : ∀ x ∈ xs, Rok n k x) (e : xs.length * (k + 1) ≤ m) : Rok (n + 1) m (.tup xs) := (Rok.tup h).mono e
theorem Rok.lst' {n k m : Nat} {xs : List D} (h : ∀ x ∈ xs, Rok n k x) (e : xs.length * (k + 1) ≤ m) : Rok (n + 1) m (.lst xs) := (Rok.lst h).mono e
theorem Rok.ok {k : Nat} {d : D} (h : Rok 60 k d) (hk : k ≤ 400) : flat 60 d = true ∧ d.py.showable = true ∧ (reprD d).length ≤ 1000000 := by
  refine ⟨h.fl, h.sh, ?_⟩
  have := PyData.shown_le_bulk 2000 (by decide) d.py h.lv
  have hb := h.bk
  have : (2000 + 2) * d.py.bulk ≤ 2002 * 400 := Nat.mul_le_mul_left _ (by omega)
  unfold reprD
  omega
theorem flatAll_map {α : Type} {n : Nat} {f : α → D} {l : List α} (h : ∀ x ∈ l, flat n (f x) = true) : flatAll n (l.map f) = true := by
  induction l with
  | nil => exact flatAll_nil
  | cons a l ih =>
    rw [List.map_cons, flatAll_cons, h a (by simp), ih fun x hx => h x (by simp [hx])]
    rfl
theorem flat_int {n : Nat} {i : Int} : flat n (.int i) = true := by cases n <;> rfl
theorem flat_ints {n : Nat} {l : List Int} : flatAll n (l.map .int) = true := flatAll_map fun _ _ => flat_int
theorem eqD_int {i j : Int} : eqD (.int i) (.int j) = decide (i = j) := by
  show PyData.eqv (.int i) (.int j) = _
  simp only [PyData.eqv]; rw [Bool.eq_iff_iff]; simp
end Dw

/-! more joins -/
namespace Dw
open PySem PySem.Spec PyProof.Rows L2
/-! an own list looked at as data, where nothing of it is kept -/
theorem owns_cut : ∀ {ρ : List Sl} {i : Nat} {o : Addr} {ds : List D}, ρ[i]? = some (.own o ds) → (owns ρ).Nodup → o ∉ owns (ρ.set i .any)
  | [], _, _, _, h, _ => by simp at h
  | s :: r, 0, o, ds, h, nd => by
    have e : s = .own o ds := by simpa using h
    subst e
    have nd' : (o :: owns r).Nodup := nd
    show o ∉ owns (.any :: r)
    have e2 : owns (.any :: r) = owns r := rfl
    rw [e2]
    exact (List.nodup_cons.mp nd').1
  | s :: r, i + 1, o, ds, h, nd => by
    have h' : r[i]? = some (.own o ds) := by simpa using h
    have nd2 : (s.addr ++ owns r).Nodup := nd
    have ih := owns_cut h' (List.nodup_append.mp nd2).2.1
    show o ∉ s.addr ++ owns (r.set i .any)
    intro m
    rcases List.mem_append.mp m with m | m
    · exact (List.nodup_append.mp nd2).2.2 o m o (mem_owns h' (by simp [Sl.addr])) rfl
    · exact ih m
section
variable {X : Cx} {G : Gx} {ρ : List Sl} {E : DEnds} {e a b : Expr} {es : List Expr} {pos p p2 p3 : Pos} {x : Str} {c : Bool} {Q : D → Prop}
theorem StOk.freeze {σ : L2.St} {H : Hp} {o : Addr} {ds : List D} (I : StOk G ρ σ H) (i : Nat) (h : ρ[i]? = some (.own o ds)) : StOk G (ρ.set i (.dat (.lst ds))) σ H := by
  obtain ⟨y, hy, rfl, vs, hv, r⟩ := I.slot i _ h
  have I1 := I.set0 i (s := .any) (x := some (.ref o)) rfl trivial
  have e : σ.set i (some (.ref o)) = σ := by
    apply List.ext_getElem? ; intro k
    by_cases z : i = k
    · subst z
      rw [List.getElem?_set_self (by exact (List.getElem?_eq_some_iff.mp hy).1), hy]
    · rw [List.getElem?_set_ne z]
  have no : o ∉ G.O ++ owns (ρ.set i .any) := fun m => by
    rcases List.mem_append.mp m with m | m
    · exact I.nO o (mem_owns h (by simp [Sl.addr])) m
    · exact owns_cut h I.nd m
  have sub : ∀ a ∈ G.O ++ owns (ρ.set i .any), a ∈ G.O ++ owns ρ := fun a ha => by
    rcases List.mem_append.mp ha with m | m
    · exact List.mem_append_left _ m
    · rcases owns_set_mem m with m | m
      · cases m
      · exact List.mem_append_right _ m
  have I2 := I1.set0 i (s := .dat (.lst ds)) (x := some (.ref o)) rfl ⟨_, rfl, .lst hv no (r.mv (mv_sub sub))⟩
  rw [List.set_set, List.set_set, e] at I2
  exact I2
theorem dt_freeze {o : Addr} {ds : List D} {Q : Bool → Prop} (i : Nat) (h : ρ[i]? = some (.own o ds)) (k : DT X G (ρ.set i (.dat (.lst ds))) e Q) : DT X G ρ e Q := fun σ H I Q' U => k σ H (I.freeze i h) Q' U
theorem de_freeze {o : Addr} {ds : List D} (i : Nat) (h : ρ[i]? = some (.own o ds)) (k : DE X G (ρ.set i (.dat (.lst ds))) false e Q) : DE X G ρ false e Q := fun σ H I Q' U => k σ H (I.freeze i h) Q' U
end
/-- a length that is told as a number -/
def lenN (n : Nat) : List D → Prop
  | [.lst xs] => xs.length = n
  | [.tup xs] => xs.length = n
  | _ => False
section
variable {X : Cx} {G : Gx} {ρ : List Sl} {e : Expr} {pos p : Pos} {c : Bool} {Q : D → Prop}
theorem DA.imp {es : List Expr} {Q0 Q : List D → Prop} (h : DA X G ρ c es Q0) (i : ∀ d, Q0 d → Q d) : DA X G ρ c es Q := fun σ H I Q' U => h σ H I Q' fun v H' d k s r q => U v H' d k s r (i d q)
theorem de_lenN (n : Nat) (hK : X.K = G.K) (hm : X.mg "len" = none) (h : DA X G ρ false [e] fun ds => lenN n ds ∧ Q (.int n)) (hg : Gl X "len" := by rfl)
    (he : starEach [e] X.env = (false, eval e X.env) :: starEach [] X.env := by rfl) (hpl : (backTo pos (starEach [] X.env)).any (·.1) = false := by rfl) : DE X G ρ c (.Call (.Name "len" p) [e] [] pos) Q :=
  de_len hK hm (DA.imp h fun ds q => by
    obtain ⟨h1, h2⟩ := q
    unfold lenN at h1
    split at h1
    · exact ⟨trivial, h1 ▸ h2⟩
    · exact ⟨trivial, h1 ▸ h2⟩
    · exact h1.elim) hg he hpl
end
/-! ranges -/
theorem rg_get {a b : Int} {i : Nat} {d : D} (h : ((rg a b).map D.int)[i]? = some d) : d = .int (a + i) ∧ (i : Int) < b - a := by
  unfold rg at h
  rw [List.map_map, List.getElem?_map] at h
  by_cases hi : i < (b - a).toNat
  · rw [List.getElem?_range hi] at h
    exact ⟨(Option.some.inj h).symm, by omega⟩
  · rw [List.getElem?_eq_none (by rw [List.length_range]; omega)] at h
    cases h
theorem mem_rg {a b x : Int} : x ∈ rg a b ↔ a ≤ x ∧ x < b := by
  unfold rg
  rw [List.mem_map]
  constructor
  · rintro ⟨i, hi, rfl⟩
    rw [List.mem_range] at hi
    omega
  · rintro ⟨h0, h1⟩
    exact ⟨(x - a).toNat, List.mem_range.mpr (by omega), by omega⟩
theorem smallRg {a b : Int} (h0 : -1000 ≤ a) (h1 : a ≤ 1000) (h2 : -1000 ≤ b) (h3 : b ≤ 1000) : SmallRg a b := by
  unfold SmallRg; omega
theorem atI_mem {xs : List D} {i : Int} (h0 : 0 ≤ i) (h1 : i < xs.length) : ∃ d, atI xs i = some d ∧ d ∈ xs := by
  unfold atI
  rw [ixN_nat h0 h1]
  have hl : i.toNat < xs.length := by omega
  exact ⟨xs[i.toNat], by show xs[i.toNat]? = _; simp [hl], List.getElem_mem hl⟩
theorem perm_map_inv {α : Type} {f : α → D} : ∀ {a b : List D}, a.Perm b → ∀ l : List α, b = l.map f → ∃ l' : List α, l'.Perm l ∧ a = l'.map f := by
  intro a b p
  induction p with
  | nil => intro l e; exact ⟨l, .refl _, e⟩
  | cons x p ih =>
    intro l e
    cases l with
    | nil => cases e
    | cons y l =>
      rw [List.map_cons] at e
      injection e with e1 e2
      obtain ⟨l', h1, h2⟩ := ih l e2
      exact ⟨y :: l', h1.cons y, by rw [List.map_cons, e1, h2]⟩
  | swap x y r =>
    intro l e
    cases l with
    | nil => cases e
    | cons u l =>
      cases l with
      | nil => cases e
      | cons v l =>
        simp only [List.map_cons] at e
        injection e with e1 e2
        injection e2 with e2 e3
        exact ⟨v :: u :: l, .swap _ _ _, by simp only [List.map_cons]; rw [e1, e2, e3]⟩
  | trans p q ih1 ih2 =>
    intro l e
    obtain ⟨l1, h1, h2⟩ := ih2 l e
    obtain ⟨l2, h3, h4⟩ := ih1 l1 h2
    exact ⟨l2, h3.trans h1, h4⟩
/-! dicts' keys -/
def hasK (es : List (Key × D)) (k : Key) : Bool := es.any fun p => decide (p.1 = k)
theorem dVal_has {es : List (Key × D)} {k : Key} : (dValD es k).isSome = hasK es k := by
  unfold dValD hasK
  induction es with
  | nil => rfl
  | cons p es ih =>
    rw [List.find?_cons, List.any_cons]
    by_cases e : p.1 = k
    · simp [e]
    · simp only [e, decide_false, Bool.false_or]
      exact ih
theorem has_put {es : List (Key × D)} {k j : Key} {d : D} : hasK (putD es k d) j = (hasK es j || decide (k = j)) := by
  unfold putD
  by_cases h : (es.any fun p => decide (p.1 = k)) = true
  · rw [if_pos h]
    have e : hasK (es.map fun p => if p.1 = k then (p.1, d) else p) j = hasK es j := by
      unfold hasK
      rw [List.any_map]
      congr 1
      funext p
      simp only [Function.comp]
      split <;> rfl
    rw [e]
    by_cases z : k = j
    · subst z
      have : hasK es k = true := h
      rw [this]; rfl
    · simp [z]
  · rw [if_neg h]
    unfold hasK
    rw [List.any_append]
    simp
theorem has_merge {j : Key} : ∀ {ms es : List (Key × D)}, hasK (mergeD es ms) j = (hasK es j || hasK ms j)
  | [], es => by simp [mergeD, hasK]
  | p :: ms, es => by
    have ih := has_merge (j := j) (ms := ms) (es := putD es p.1 p.2)
    have e : mergeD es (p :: ms) = mergeD (putD es p.1 p.2) ms := rfl
    rw [e, ih, has_put]
    have e2 : hasK (p :: ms) j = (decide (p.1 = j) || hasK ms j) := rfl
    rw [e2, Bool.or_assoc]
theorem put_len {es : List (Key × D)} {k : Key} {d : D} : (putD es k d).length ≤ es.length + 1 := by
  unfold putD
  split
  · rw [List.length_map]; omega
  · simp
theorem merge_len : ∀ {ms es : List (Key × D)}, (mergeD es ms).length ≤ es.length + ms.length
  | [], es => Nat.le_refl _
  | p :: ms, es => by
    have ih := merge_len (ms := ms) (es := putD es p.1 p.2)
    have e : mergeD es (p :: ms) = mergeD (putD es p.1 p.2) ms := rfl
    have := put_len (es := es) (k := p.1) (d := p.2)
    rw [e, List.length_cons]
    omega
theorem eqD_nil {xs : List D} : eqD (.lst xs) (.lst []) = xs.isEmpty := by
  cases xs with
  | nil => rfl
  | cons x xs => simp [eqD, D.py, pyAll, PyData.eqv, PyData.eqvAll]
end Dw

/-! comparisons as tests -/
namespace Dw
open PySem PySem.Spec PyProof.Rows L2
def blQ (Q : Bool → Prop) : D → Prop := fun d => ∃ k, d = .bl k ∧ Q k
section
variable {X : Cx} {G : Gx} {ρ : List Sl} {c : Bool} {Q : Bool → Prop} {e a b : Expr} {es : List Expr} {pos p p2 p3 : Pos} {x : Str}
theorem upT {O : List Addr} {H : Hp} {Q' : Bool → Hp → Prop} (U : UpT G H Q Q') : Up G O H (blQ Q) (fun x H' => ∃ k, x = .bl k ∧ Q' k H') := fun v H' d k s r ⟨b, e, q⟩ => by
  subst e
  cases r
  exact ⟨b, rfl, U b H' k s q⟩
theorem dt_icmp {op : CmpOp} {p : Int → Int → Bool} (ho : OpR X (compareOp op) (rI0 fun i j => .bl (p i j))) (hm : behindInMarks op b = false)
    (h : DE X G ρ false a fun x => DE X G ρ false b fun y => cmpD p x y (blQ Q)) : DT X G ρ (.Compare a [op] [b] pos) Q := fun σ H I Q' U =>
  tsem_of (pt_cmpR ho pe_sem pe_sem hm) (two (c := false) I (upT U) (fun v u H2 x y I2 r1 r2 U2 h2 => by
    cases r1 <;> first | exact h2.elim | skip
    all_goals (cases r2 <;> first | exact h2.elim | skip)
    exact ⟨_, _, rfl, rfl, U2.bl I2.src h2⟩) h)
theorem dt_lt (h : DE X G ρ false a fun x => DE X G ρ false b fun y => cmpD (fun i j => decide (i < j)) x y (blQ Q)) : DT X G ρ (.Compare a [.Lt] [b] pos) Q := dt_icmp op_lt (nomark _) h
theorem dt_le (h : DE X G ρ false a fun x => DE X G ρ false b fun y => cmpD (fun i j => decide (i ≤ j)) x y (blQ Q)) : DT X G ρ (.Compare a [.LtE] [b] pos) Q := dt_icmp op_le (nomark _) h
theorem dt_gt (h : DE X G ρ false a fun x => DE X G ρ false b fun y => cmpD (fun i j => decide (j < i)) x y (blQ Q)) : DT X G ρ (.Compare a [.Gt] [b] pos) Q := dt_icmp op_gt (nomark _) h
theorem dt_ge (h : DE X G ρ false a fun x => DE X G ρ false b fun y => cmpD (fun i j => decide (j ≤ i)) x y (blQ Q)) : DT X G ρ (.Compare a [.GtE] [b] pos) Q := dt_icmp op_ge (nomark _) h
theorem dt_eq (hu : X.A.units + 64 < cLine) (hK : X.K = G.K) (h : DE X G ρ false a fun x => DE X G ρ false b fun y => (flat 60 x = true ∧ flat 60 y = true) ∧ blQ Q (.bl (eqD x y))) : DT X G ρ (.Compare a [.Eq] [b] pos) Q := fun σ H I Q' U =>
  tsem_of (pt_cmpR (op_eqD hu) pe_sem pe_sem (nomark _)) (two (c := false) I (upT U) (fun v u H2 x y I2 r1 r2 U2 h2 =>
    ⟨x.py, y.py, by rw [hK]; exact flat_dp h2.1.1 r1, by rw [hK]; exact flat_dp h2.1.2 r2, flat_shaped h2.1.1, flat_shaped h2.1.2, U2.bl I2.src h2.2⟩) (R := fun x y Q => (flat 60 x = true ∧ flat 60 y = true) ∧ Q (.bl (eqD x y))) h)
theorem dt_ne (hu : X.A.units + 64 < cLine) (hK : X.K = G.K) (h : DE X G ρ false a fun x => DE X G ρ false b fun y => (flat 60 x = true ∧ flat 60 y = true) ∧ blQ Q (.bl (!eqD x y))) : DT X G ρ (.Compare a [.NotEq] [b] pos) Q := fun σ H I Q' U =>
  tsem_of (pt_cmpR (op_neD hu) pe_sem pe_sem (nomark _)) (two (c := false) I (upT U) (fun v u H2 x y I2 r1 r2 U2 h2 =>
    ⟨x.py, y.py, by rw [hK]; exact flat_dp h2.1.1 r1, by rw [hK]; exact flat_dp h2.1.2 r2, flat_shaped h2.1.1, flat_shaped h2.1.2, U2.bl I2.src h2.2⟩) (R := fun x y Q => (flat 60 x = true ∧ flat 60 y = true) ∧ Q (.bl (!eqD x y))) h)
theorem dt_is (h : DE X G ρ false a fun x => DE X G ρ false b fun y => isD x y fun k => blQ Q (.bl k)) : DT X G ρ (.Compare a [.Is] [b] pos) Q := fun σ H I Q' U =>
  tsem_of (pt_cmpR op_isAny pe_sem pe_sem (nomark _)) (two (c := false) (t := rIsAny) (R := fun x y Q => isD x y fun k => Q (.bl k)) I (upT U) (fun v u H2 x y I2 r1 r2 U2 h2 => by
    rcases isD_of r1 r2 h2 with ⟨e, q⟩ | ⟨a, b, e1, e2, q⟩
    · exact .inl ⟨e, U2.bl I2.src q⟩
    · exact .inr ⟨a, b, e1, e2, U2.bl I2.src q⟩) h)
theorem dt_isnot (h : DE X G ρ false a fun x => DE X G ρ false b fun y => isD x y fun k => blQ Q (.bl (!k))) : DT X G ρ (.Compare a [.IsNot] [b] pos) Q := fun σ H I Q' U =>
  tsem_of (pt_cmpR op_notAny pe_sem pe_sem (nomark _)) (two (c := false) (t := rNotAny) (R := fun x y Q => isD x y fun k => Q (.bl (!k))) I (upT U) (fun v u H2 x y I2 r1 r2 U2 h2 => by
    rcases isD_of r1 r2 h2 with ⟨e, q⟩ | ⟨a, b, e1, e2, q⟩
    · exact .inl ⟨e, U2.bl I2.src q⟩
    · exact .inr ⟨a, b, e1, e2, U2.bl I2.src q⟩) h)
theorem dt_inX {op : CmpOp} {neg : Bool} (hop : OpR X (compareOp op) (rIn X.K neg)) (hK : X.K = G.K) (hm : behindInMarks op b = false) (h : DE X G ρ false a fun x => DE X G ρ false b fun y => inD x y fun k => blQ Q (.bl (if neg then !k else k))) : DT X G ρ (.Compare a [op] [b] pos) Q := fun σ H I Q' U =>
  tsem_of (pt_cmpR hop pe_sem pe_sem hm) (two (c := false) (R := fun x y Q => inD x y fun k => Q (.bl (if neg then !k else k))) I (upT U) (fun v u H2 x y I2 r1 r2 U2 h2 => by
    cases r1 <;> first | exact False.elim h2 | skip
    rename_i i
    cases y <;> first | exact False.elim h2 | skip
    · obtain ⟨ns, rfl, q⟩ := h2
      obtain ⟨a2, us, rfl, hb, q2⟩ := r2.tupI
      have e := q2.ints_inv
      subst e
      rw [← hK] at hb
      exact ⟨a2, _, rfl, .inr hb, rfl, flatV_ints ns, by rw [inV_ints]; exact U2.bl I2.src q⟩
    · obtain ⟨ns, rfl, q⟩ := h2
      obtain ⟨a2, us, rfl, hb, _, q2⟩ := r2.lstI
      have e := q2.ints_inv
      subst e
      exact ⟨a2, _, rfl, .inl (.of hb), rfl, flatV_ints ns, by rw [inV_ints]; exact U2.bl I2.src q⟩) h)
theorem dt_in (hK : X.K = G.K) (h : DE X G ρ false a fun x => DE X G ρ false b fun y => inD x y fun k => blQ Q (.bl k)) (hm : behindInMarks .In b = false := by rfl) : DT X G ρ (.Compare a [.In] [b] pos) Q := dt_inX op_in_seq hK hm h
theorem dt_notin (hK : X.K = G.K) (h : DE X G ρ false a fun x => DE X G ρ false b fun y => inD x y fun k => blQ Q (.bl (!k))) (hm : behindInMarks .NotIn b = false := by rfl) : DT X G ρ (.Compare a [.NotIn] [b] pos) Q := dt_inX op_notIn_seq hK hm h
theorem dt_eqS (h : DE X G ρ false a fun x => DE X G ρ false b fun y => eqSD x y fun k => blQ Q (.bl k)) : DT X G ρ (.Compare a [.Eq] [b] pos) Q := fun σ H I Q' U =>
  tsem_of (pt_cmpR op_eq pe_sem pe_sem (nomark _)) (two (c := false) (t := rEq) (R := fun x y Q => eqSD x y fun k => Q (.bl k)) I (upT U) (fun v u H2 x y I2 r1 r2 U2 h2 => by
    unfold eqSD at h2
    split at h2
    · cases r1; cases r2
      exact ⟨rfl, by simpa using U2.bl I2.src h2⟩
    · cases r1; cases r2
      exact ⟨rfl, by simpa using U2.bl I2.src h2⟩
    · exact h2.elim) h)
theorem dt_neS (h : DE X G ρ false a fun x => DE X G ρ false b fun y => eqSD x y fun k => blQ Q (.bl (!k))) : DT X G ρ (.Compare a [.NotEq] [b] pos) Q := fun σ H I Q' U =>
  tsem_of (pt_cmpR op_ne pe_sem pe_sem (nomark _)) (two (c := false) (t := rNe) (R := fun x y Q => eqSD x y fun k => Q (.bl (!k))) I (upT U) (fun v u H2 x y I2 r1 r2 U2 h2 => by
    unfold eqSD at h2
    split at h2
    · cases r1; cases r2
      exact ⟨rfl, by simpa using U2.bl I2.src h2⟩
    · cases r1; cases r2
      exact ⟨rfl, by simpa using U2.bl I2.src h2⟩
    · exact h2.elim) h)
theorem dt_notinOwn {o : Addr} {ds : List (Key × D)} (i : Nat) (hu : X.A.units + 1 < cLine) (ho : ρ[i]? = some (.ownD o ds)) (h : DE X G ρ false a fun d => keyOf d fun k => Q (!(dValD ds k).isSome)) (hN : X.N[i]? = some x := by rfl) (hv : Vis X.env.scope x := by first | exact Or.inl rfl | exact Or.inr (Or.inl rfl) | exact Or.inr (Or.inr rfl))
    (hd : (x == ("__debug__" : Str)) = false := by decide) (hcd : (x == ("__classdict__" : Str)) = false := by decide) (h1 : behindInMarks .NotIn (.Name x p) = false := by rfl) : DT X G ρ (.Compare a [.NotIn] [.Name x p] pos) Q := fun σ H I Q' U => by
  obtain ⟨y, hy, rfl, kvs, hv', r⟩ := I.slot i _ ho
  refine tsem_of (pt_cmp (pc_dnotin hu pe_sem (pe_var (pos := p) hN hv hd hcd)) h1) (h σ H I _ fun v H1 d k s r1 q => ?_)
  have hn : H1 o = some (.dK kvs) := k.at o _ (I.notSrc (mem_owns ho (by simp [Sl.addr]))) hv'
  have key : ∀ kk, v = kV kk → Q (!(dValD ds kk).isSome) → (∃ w, σ[i]? = some (some w) ∧ ∃ a o', w = V.ref a ∧ DGet H1 a v o' ∧ ∃ d, V.bl (!o'.isSome) = .bl d ∧ Q' d H1) := fun kk e q => by
    subst e
    exact ⟨_, hy, o, _, rfl, DGet.k hn, _, rfl, by rw [r.val]; exact U _ _ k s q⟩
  replace q : keyOf d (fun k => Q (!(dValD ds k).isSome)) := q
  unfold keyOf at q
  split at q
  · cases r1; exact key (.inl _) rfl q
  · cases r1; exact key (.inr _) rfl q
  · exact q.elim
end
end Dw

/-! forgetting; the law's def -/
namespace Dw
open PySem PySem.Spec PyProof.Rows L2
section
variable {X : Cx} {G : Gx} {ρ : List Sl} {E : DEnds} {e a b : Expr} {es : List Expr} {pos p p2 p3 : Pos} {x : Str} {py : Pos} {c : Bool} {Q : D → Prop}
/-- name = e, of whose value only P is kept -/
theorem ds_setX (i : Nat) (P : D → Prop) (hN : X.N.Nodup) (h : DE X G ρ true e P) (k : ∀ d, P d → E.nx (ρ.set i (.dat d))) (hi : X.N[i]? = some x := by rfl) (hx : Loc X.env.scope x := by first | exact Or.inl rfl | exact Or.inr rfl)
    (hs : swapsWith e (some (.Name x py)) pos.line X.env = pure false := by rfl) (hf : X.fn x = true ∨ X.env.scope.names.lookup x = some .local := by first | exact .inl rfl | exact .inr rfl) : DS X G ρ (.Assign [.Name x py] e pos) E := ds_set i hN (h.imp k) hi hx hs hf
end
/-- the state behind the first line of a law: the source is made -/
theorem stOk_src {Θ : List (Addr × Str)} {K : PySem.W.Frag} {a c : Addr} {H : Hp} {m : Nat} {v : Option V} (so : SrcOk (some (a, c)) H) (ne : a ≠ c) : StOk ⟨K, some (a, c), H, [a, c], [], Θ⟩ (.any :: .dat (.ref a) :: List.replicate m .any) (v :: some (.ref a) :: List.replicate m none) H := by
  have eo : owns (.any :: .dat (.ref a) :: List.replicate m Sl.any) = [] := by
    show owns (List.replicate m Sl.any) = []
    induction m with
    | zero => rfl
    | succ m ih => rw [List.replicate_succ]; exact ih
  refine ⟨by simp, fun i s h => ?_, Kp.refl _ _ _, so, fun a' c' e => (by cases e; exact ⟨by simp, by simp, ne⟩), fun b hb => ?_, (by rw [eo]; exact List.nodup_nil), fun b hb => (by rw [eo] at hb; cases hb), fun b hb => (by rw [eo] at hb; cases hb), fun p hp => nomatch hp⟩
  · match i, h with
    | 0, h => cases h; exact ⟨_, rfl, trivial⟩
    | 1, h => cases h; exact ⟨_, rfl, _, rfl, .ref a⟩
    | i + 2, h =>
      have h' : (List.replicate m Sl.any)[i]? = some s := h
      rw [List.getElem?_replicate] at h'
      split at h'
      · rename_i hl
        cases h'
        exact ⟨none, (by show (List.replicate m none)[i]? = _; rw [List.getElem?_replicate, if_pos hl]), trivial⟩
      · cases h'
  · obtain ⟨cells, l, mm, t, e1, e2, _⟩ := so a c rfl
    rcases List.mem_cons.mp hb with rfl | hb
    · exact ⟨_, e1⟩
    · obtain rfl := List.mem_singleton.mp hb
      exact ⟨_, e2⟩
/-- what a law promises -/
def spLaw (K : PySem.W.Frag) : Sp := fun vs H Q _ => ∃ (s : Addr) (ns : List Int), vs = [.ref s] ∧ SqL K H s (ns.map V.int) ∧ ns.length ≤ 63 ∧ ∀ H', Q (.bl true) H'
end Dw

/-! more rules: stars, own lists and dicts by places, enumerate, texts of ints -/
namespace Dw
open PySem PySem.Spec PyProof.Rows L2
section
variable {X : Cx} {G : Gx} {ρ : List Sl} {E : DEnds} {e a b idx value : Expr} {es : List Expr} {pos p p2 p3 : Pos} {x y : Str} {c : Bool} {Q : D → Prop}
theorem da_star {Q : List D → Prop} (hK : X.K = G.K) (h : DE X G ρ c e fun d => seqD d fun xs => DA X G ρ c es fun ys => Q (xs ++ ys)) (hs : starEach (.Starred e p :: es) X.env = (true, eval e X.env) :: starEach es X.env := by rfl) : DA X G ρ c (.Starred e p :: es) Q := fun σ H I Q' U =>
  asem_of (StX.pa_star pe_sem pa_sem hs) (h σ H I _ fun v H1 d k s r q => by
    have I1 := I.kp k s
    have fin : ∀ a us xs, v = .ref a → (SqT X.K H1 a us ∨ SqL X.K H1 a us) → RpAll G.K (bs G ρ c) H1 us xs → (DA X G ρ c es fun ys => Q (xs ++ ys)) → ∃ p xs, v = V.ref p ∧ (SqT X.K H1 p xs ∨ SqL X.K H1 p xs) ∧ aSem X es σ H1 fun ys H2 => Q' (xs ++ ys) H2 := fun a us xs e1 e2 r2 q2 =>
      ⟨a, us, e1, e2, q2 σ H1 I1 _ fun ws H2 ys k2 s2 r3 q3 => U _ H2 _ (k.trans k2) s2 ((I1.rpAll k2 r2).append r3) q3⟩
    replace q : seqD d (fun xs => DA X G ρ c es fun ys => Q (xs ++ ys)) := q
    unfold seqD at q
    split at q
    · obtain ⟨a, us, e1, ha, _, r2⟩ := r.lstI
      exact fin a us _ e1 (.inr (.of ha)) r2 q
    · obtain ⟨a, us, e1, ha, r2⟩ := r.tupI
      exact fin a us _ e1 (.inl (hK ▸ ha)) r2 q
    · exact q.elim)
/-- [..] * n, a new list of the def's own -/
theorem df_rep {Q : List D → Prop} (h : DE X G ρ true a fun x => DE X G ρ false b fun y => ∃ xs n, x = .lst xs ∧ y = .int n ∧ (-(2 ^ 63) ≤ n ∧ n < 2 ^ 63 ∧ xs.length * n.toNat ≤ 100000) ∧ Q (List.replicate n.toNat xs).flatten) : DF X G ρ (.BinOp a .Mult b pos) Q := fun σ H I Q' U =>
  sem_of (pe_op op_rep pe_sem pe_sem) (h σ H I _ fun v H1 d k s r q => by
    have I1 := I.kp k s
    refine q σ H1 I1 _ fun u H2 z k2 s2 r2 q2 => ?_
    obtain ⟨xs, n, rfl, rfl, hn, q3⟩ := q2
    cases r2
    have r' := I1.rp k2 r
    obtain ⟨l, vs, rfl, hl, _, rr⟩ := r'.lstI
    refine ⟨l, n, vs, rfl, rfl, hl, hn.1, hn.2.1, by rw [rr.length]; exact line_of hn.2.2, fun q0 hq => ?_⟩
    have k12 := k.trans k2
    refine U q0 _ _ _ (k12.trans (Kp.new hq)) ((I1.kp k2 s2).src.new hq) (k12.back (I1.kp k2 s2).src hq) upd_same ?_ q3
    refine (rr.rep n.toNat).mv fun z u nz ez _ => ?_
    have zq : z ≠ q0 := ne_of_none ez hq
    refine ⟨fun m => ?_, by rw [upd_ne zq]; exact ez⟩
    rcases List.mem_cons.mp m with m | m
    · exact zq m
    · exact nz (by unfold bs; rw [if_pos rfl]; exact m))
/-- x[e] = v, x the def's own list -/
theorem ds_subOwn {o : Addr} {ds : List D} (i : Nat) (h0 : ρ[i]? = some (.own o ds)) (h : DE X G ρ true value fun d => DE X G ρ false idx fun z => ∃ k j, z = .int k ∧ ixN ds.length k = some j ∧ E.nx (ρ.set i (.own o (ds.set j d))))
    (hN : X.N[i]? = some x := by rfl) (hv : Vis X.env.scope x := by first | exact Or.inl rfl | exact Or.inr (Or.inl rfl) | exact Or.inr (Or.inr rfl)) (hd : (x == ("__debug__" : Str)) = false := by decide) (hcd : (x == ("__classdict__" : Str)) = false := by decide)
    (ha : ∀ v, assign (.Subscript (.Name x p) idx p2) X.env v = (do
      let o' ← holding [v] (eval (.Name x p) X.env)
      let i' ← holding [v, o'] (eval idx X.env)
      standAt p2
      holding [v, o', i'] (setItem o' i' v)
      release [v, o', i'] []) := by intro _; rfl)
    (hs : swapsWithSole [.Subscript (.Name x p) idx p2] value pos.line X.env = pure false := by rfl) (hw : swappedStores [.Subscript (.Name x p) idx p2] value X.env = pure none := by rfl) (h1 : (assignEach [.Subscript (.Name x p) idx p2] X.env).map (·.2) = [assign (.Subscript (.Name x p) idx p2) X.env] := by rfl) :
    DS X G ρ (.Assign [.Subscript (.Name x p) idx p2] value pos) E := fun σ H I D U => by
  obtain ⟨y, hy, rfl, vs, hv', r⟩ := I.slot i _ h0
  refine ssem_of (L2.ps_asg pe_sem (pg_sub (pe_var (pos := p) hN hv hd hcd) pe_sem set_list ha) hs hw h1) (h σ H I _ fun v H1 d k s r1 q => ?_)
  refine ⟨_, hy, q σ H1 (I.kp k s) _ fun u H2 z k2 s2 r2 q2 => ?_⟩
  obtain ⟨kk, j, rfl, hj, q3⟩ := q2
  cases r2
  have k12 := k.trans k2
  have I2 := I.kp k12 s2
  have om : o ∈ owns ρ := mem_owns h0 (by simp [Sl.addr])
  have hn : H2 o = some (.lst vs) := k12.at o _ (I.notSrc om) hv'
  have r' : RpAll G.K (G.O ++ owns ρ) H2 vs ds := r.mv (k12.mv fun a b e => I.srcA e)
  have rd : Rp G.K (G.O ++ owns ρ) H2 v d := by
    have := (I.kp k s).rp k2 r1
    unfold bs at this; rw [if_pos rfl] at this; exact this
  refine ⟨o, vs, kk, j, rfl, rfl, hn, by rw [r'.length]; exact hj, U.nx _ σ _ (I2.chg i (a := o) h0 (by simp [Sl.addr]) (by simp [Sl.addr]) fun x hx => ?_) q3⟩
  rw [hy] at hx
  cases hx
  exact ⟨rfl, _, upd_same, (r'.set rd j).mv fun b u n e _ => ⟨n, by rw [upd_ne (fun z => n (by rw [z]; exact List.mem_append_right _ om))]; exact e⟩⟩
/-- x[k] = v, x the def's own dict -/
theorem ds_dputOwn {o : Addr} {ds : List (Key × D)} (i : Nat) (hu : X.A.units + 1 < cLine) (h0 : ρ[i]? = some (.ownD o ds)) (h : DE X G ρ true value fun d => DE X G ρ false idx fun z => keyOf z fun kk => ds.length + 1 ≤ 100000 ∧ E.nx (ρ.set i (.ownD o (putD ds kk d))))
    (hN : X.N[i]? = some x := by rfl) (hv : Vis X.env.scope x := by first | exact Or.inl rfl | exact Or.inr (Or.inl rfl) | exact Or.inr (Or.inr rfl)) (hd : (x == ("__debug__" : Str)) = false := by decide) (hcd : (x == ("__classdict__" : Str)) = false := by decide)
    (hs : swapsWith value (some (.Subscript (.Name x p) idx p2)) pos.line X.env = pure false := by rfl) : DS X G ρ (.Assign [.Subscript (.Name x p) idx p2] value pos) E := fun σ H I D U => by
  obtain ⟨y, hy, rfl, kvs, hv', r⟩ := I.slot i _ h0
  refine ssem_of (ps_dput hu (pe_var (pos := p) hN hv hd hcd) pe_sem pe_sem hs) (h σ H I _ fun v H1 d k s r1 q => ?_)
  refine ⟨_, hy, q σ H1 (I.kp k s) _ fun u H2 z k2 s2 r2 q2 => ?_⟩
  have k12 := k.trans k2
  have I2 := I.kp k12 s2
  have om : o ∈ owns ρ := mem_owns h0 (by simp [Sl.addr])
  have hn : H2 o = some (.dK kvs) := k12.at o _ (I.notSrc om) hv'
  have r' : RpKv G.K (G.O ++ owns ρ) H2 kvs ds := r.mv (k12.mv fun a b e => I.srcA e)
  have rd : Rp G.K (G.O ++ owns ρ) H2 v d := by
    have := (I.kp k s).rp k2 r1
    unfold bs at this; rw [if_pos rfl] at this; exact this
  have key : ∀ kk, u = kV kk → (ds.length + 1 ≤ 100000 ∧ E.nx (ρ.set i (.ownD o (putD ds kk d)))) → ∃ a H', V.ref o = .ref a ∧ DPut H2 a u v H' ∧ D.nx σ H' := fun kk e q => by
    subst e
    refine ⟨o, _, rfl, DPut.k hn (by rw [r'.length]; exact Nat.lt_of_lt_of_le q.1 (by rw [sizeLine_eq]; decide)), U.nx _ σ _ (I2.chg i (a := o) h0 (by simp [Sl.addr]) (by simp [Sl.addr]) fun x hx => ?_) q.2⟩
    rw [hy] at hx
    cases hx
    exact ⟨rfl, _, upd_same, (r'.put rd).mv fun b u n e _ => ⟨n, by rw [upd_ne (fun z => n (by rw [z]; exact List.mem_append_right _ om))]; exact e⟩⟩
  replace q2 : keyOf z (fun kk => ds.length + 1 ≤ 100000 ∧ E.nx (ρ.set i (.ownD o (putD ds kk d)))) := q2
  unfold keyOf at q2
  split at q2
  · cases r2; exact key (.inl _) rfl q2
  · cases r2; exact key (.inr _) rfl q2
  · exact q2.elim
/-- x[k], x the def's own dict -/
theorem RpKv.getD {K : PySem.W.Frag} {O : List Addr} {H : Hp} {k : Key} {d : D} : ∀ {kvs : List (Key × V)} {es : List (Key × D)}, RpKv K O H kvs es → dValD es k = some d → ∃ v, valV kvs k = some v ∧ Rp K O H v d
  | _, _, .nil, e => by simp [dValD] at e
  | _, _, .cons (k := k') (v := v) (d := d') g r, e => by
    unfold dValD at e
    unfold valV
    rw [List.find?_cons] at e ⊢
    by_cases z : k' = k
    · simp only [z, decide_true] at e ⊢
      have : d' = d := by simpa using e
      subst this
      exact ⟨v, rfl, g⟩
    · simp only [z, decide_false] at e ⊢
      exact RpKv.getD r (by unfold dValD; exact e)
theorem de_dgetOwn {o : Addr} {ds : List (Key × D)} (i : Nat) (hu : X.A.units + 1 < cLine) (h0 : ρ[i]? = some (.ownD o ds)) (h : DE X G ρ false idx fun z => keyOf z fun kk => ∃ d, dValD ds kk = some d ∧ Q d) (hs : NoSl idx := by exact fun _ _ => rfl)
    (hN : X.N[i]? = some x := by rfl) (hv : Vis X.env.scope x := by first | exact Or.inl rfl | exact Or.inr (Or.inl rfl) | exact Or.inr (Or.inr rfl)) (hd : (x == ("__debug__" : Str)) = false := by decide) (hcd : (x == ("__classdict__" : Str)) = false := by decide) :
    DE X G ρ c (.Subscript (.Name x p) idx pos) Q := fun σ H I Q' U => by
  obtain ⟨y, hy, rfl, kvs, hv', r⟩ := I.slot i _ h0
  refine sem_of (pe_dget hu (pe_var (pos := p) hN hv hd hcd) pe_sem hs) ⟨_, hy, h σ H I _ fun u H2 z k s r2 q => ?_⟩
  have om : o ∈ owns ρ := mem_owns h0 (by simp [Sl.addr])
  have hn : H2 o = some (.dK kvs) := k.at o _ (I.notSrc om) hv'
  have r' : RpKv G.K (G.O ++ owns ρ) H2 kvs ds := r.mv (k.mv fun a b e => I.srcA e)
  have key : ∀ kk, u = kV kk → (∃ d, dValD ds kk = some d ∧ Q d) → ∃ a v, V.ref o = .ref a ∧ DGet H2 a u (some v) ∧ Q' v H2 := fun kk e q => by
    subst e
    obtain ⟨d, e1, q⟩ := q
    obtain ⟨v, e2, rv⟩ := r'.getD e1
    refine ⟨o, v, rfl, e2 ▸ DGet.k hn, U v H2 d k s ?_ q⟩
    cases c with
    | true => unfold bs; rw [if_pos rfl]; exact rv
    | false => exact rv.mv (mv_sub fun a ha => List.mem_append_left _ (by unfold bs at ha; simpa using ha))
  replace q : keyOf z (fun kk => ∃ d, dValD ds kk = some d ∧ Q d) := q
  unfold keyOf at q
  split at q
  · cases r2; exact key (.inl _) rfl q
  · cases r2; exact key (.inr _) rfl q
  · exact q.elim
/-- x.bit_length(), str(x) -/
theorem de_bits (h : DE X G ρ false e fun d => ∃ i, d = .int i ∧ Q (.int (Builtin.Int.intBits i : Nat))) (hbase : attributeBase e "bit_length" X.env (eval e X.env) = eval e X.env := by rfl) (hline : (p.endLine == pos.line) = true := by rfl) : DE X G ρ c (.Call (.Attribute e "bit_length" p) [] [] pos) Q := fun σ H I Q' U =>
  sem_of (pe_bits pe_sem hbase hline) (h σ H I _ fun v H1 d k s r q => by
    obtain ⟨i, rfl, q⟩ := q
    cases r
    exact ⟨i, rfl, (U.later k).int s q⟩)
def strID : List D → (D → Prop) → Prop
  | [.int i], Q => i.natAbs.log2 < 1920 ∧ Q (.str (toString i))
  | _, _ => False
theorem de_strI (hm : X.mg "str" = none) (h : DA X G ρ false [e] fun ds => strID ds Q) (hg : Gl X "str" := by rfl)
    (he : starEach [e] X.env = (false, eval e X.env) :: starEach [] X.env := by rfl) (hpl : (backTo pos (starEach [] X.env)).any (·.1) = false := by rfl) : DE X G ρ c (.Call (.Name "str" p) [e] [] pos) Q :=
  de_callTy call_str_int hm boot_str (R := strID) (fun vs σ H ds Q' I r U q => by
    unfold strID at q
    split at q
    · obtain ⟨v, rfl, r1⟩ := r.oneI
      cases r1
      exact ⟨_, rfl, q.1, U.str I.src q.2⟩
    · exact q.elim) h hg (by decide) (by decide) he hpl
/-- a module's tuple -/
theorem de_globT {x : Str} {a : Addr} {d : D} (hm : X.mg x = some (.ref a)) (hd' : ∀ H O, Rp G.K O H (.ref a) d) (q : Q d) (hg : Gl X x := by rfl) (hd : (x == ("__debug__" : Str)) = false := by decide) : DE X G ρ c (.Name x pos) Q :=
  fun σ H I Q' U => sem_of (pe_glob (v := V.ref a) hg hm rfl hd) (U _ H d (Kp.refl _ _ _) I.src (hd' H _) q)
end
end Dw

/-! several names at once, of any sorts -/
namespace Dw
open PySem PySem.Spec PyProof.Rows L2
/-- a state whose data keep off OO -/
structure StP (G : Gx) (ρ : List Sl) (σ : L2.St) (H : Hp) (OO : List Addr) : Prop where
  len : σ.length = ρ.length
  slot : ∀ (i : Nat) s, ρ[i]? = some s → ∃ x, σ[i]? = some x ∧ SlOk G.K OO H s x
  ext : Kp G.T G.S G.H0 H
  src : SrcOk G.S H
  srcO : ∀ a c, G.S = some (a, c) → a ∈ G.O ∧ c ∈ G.O ∧ a ≠ c
  trk : ∀ a ∈ G.O, ∃ o, H a = some o
  nd : (owns ρ).Nodup
  nO : ∀ a ∈ owns ρ, a ∉ G.O
  fr : ∀ a ∈ owns ρ, G.H0 a = none
  pin : ∀ p ∈ G.P, Rp G.K OO H p.1 p.2
  sub : ∀ a ∈ G.O ++ owns ρ, a ∈ OO
section
variable {G : Gx} {ρ : List Sl} {σ : L2.St} {H : Hp} {OO : List Addr}
theorem StP.ok (P : StP G ρ σ H OO) : StOk G ρ σ H :=
  ⟨P.len, fun i s e => by
    obtain ⟨x, hx, ok⟩ := P.slot i s e
    exact ⟨x, hx, ok.sub P.sub⟩, P.ext, P.src, P.srcO, P.trk, P.nd, P.nO, P.fr, fun p hp => (P.pin p hp).mv (mv_sub P.sub)⟩
theorem StP.add (P : StP G ρ σ H OO) (i : Nat) {s : Sl} {x : Option V} (h : SlOk G.K OO H s x) (ho : ∀ a ∈ s.addr, a ∈ OO ∧ a ∉ owns ρ ∧ a ∉ G.O ∧ G.H0 a = none) (snd : s.addr.Nodup) : StP G (ρ.set i s) (σ.set i x) H OO := by
  have mem : ∀ a ∈ owns (ρ.set i s), a ∈ s.addr ∨ a ∈ owns ρ := fun a ha => owns_set_mem ha
  refine ⟨by rw [List.length_set, List.length_set]; exact P.len, fun j t hj => ?_, P.ext, P.src, P.srcO, P.trk, owns_set_nodup P.nd snd fun a ha => (ho a ha).2.1, fun a ha => ?_, fun a ha => ?_, P.pin, fun a ha => ?_⟩
  · by_cases e : i = j
    · subst e
      have hl : i < ρ.length := by
        have := (List.getElem?_eq_some_iff.mp hj).1
        rwa [List.length_set] at this
      rw [List.getElem?_set_self hl] at hj
      cases hj
      exact ⟨x, by rw [List.getElem?_set_self (by rw [P.len]; exact hl)], h⟩
    · rw [List.getElem?_set_ne e] at hj
      obtain ⟨y, hy, ok⟩ := P.slot j t hj
      exact ⟨y, by rw [List.getElem?_set_ne e]; exact hy, ok⟩
  · exact (mem a ha).elim (fun z => (ho a z).2.2.1) (P.nO a)
  · exact (mem a ha).elim (fun z => (ho a z).2.2.2) (P.fr a)
  · rcases List.mem_append.mp ha with m | m
    · exact P.sub a (List.mem_append_left _ m)
    · exact (mem a m).elim (fun z => (ho a z).1) fun z => P.sub a (List.mem_append_right _ z)
theorem StOk.toP {H1 : Hp} (I : StOk G ρ σ H) (k : Kp G.T G.S H H1) (s : SrcOk G.S H1) {N : List Addr} (hN : ∀ a ∈ N, H a = none) : StP G ρ σ H1 (G.O ++ owns ρ ++ N) := by
  have I1 := I.kp k s
  have mv : Mv (G.O ++ owns ρ) (G.O ++ owns ρ ++ N) H H1 := fun b o n e t_ => by
    refine ⟨fun m => ?_, k.to b o (fun c d z => ⟨fun w => n (w ▸ (I.srcA z).1), fun w => n (w ▸ (I.srcA z).2)⟩) e t_⟩
    rcases List.mem_append.mp m with m | m
    · exact n m
    · have := hN b m; rw [this] at e; cases e
  refine ⟨I1.len, fun i t e => ?_, I1.ext, I1.src, I1.srcO, I1.trk, I1.nd, I1.nO, I1.fr, fun p hp => (I.pin p hp).mv mv, fun a ha => List.mem_append_left _ ha⟩
  obtain ⟨x, hx, ok⟩ := I.slot i t e
  exact ⟨x, hx, ok.mv mv fun b hb o z t_ => k.to b o (I.notSrc (mem_owns e hb)) z t_⟩
end
/-- new contents of slots, by their values -/
inductive NewAll (K : PySem.W.Frag) (OO : List Addr) (H : Hp) : List V → List Sl → Prop
  | nil : NewAll K OO H [] []
  | cons {v : V} {vs : List V} {s : Sl} {ss : List Sl} : SlOk K OO H s (some v) → NewAll K OO H vs ss → NewAll K OO H (v :: vs) (s :: ss)
theorem NewAll.sub {K : PySem.W.Frag} {OO O' : List Addr} {H : Hp} (h : ∀ a ∈ O', a ∈ OO) : ∀ {vs : List V} {ss : List Sl}, NewAll K OO H vs ss → NewAll K O' H vs ss
  | _, _, .nil => .nil
  | _, _, .cons g r => .cons (g.sub h) (NewAll.sub h r)
def UpP (G : Gx) (O : List Addr) (H : Hp) (Q : List Sl → Prop) (Q' : List V → Hp → Prop) : Prop :=
  ∀ vs H' ss, Kp G.T G.S H H' → SrcOk G.S H' → (∀ a ∈ owns ss, H a = none) → (owns ss).Nodup → NewAll G.K (O ++ owns ss) H' vs ss → Q ss → Q' vs H'
/-- what the parts of a display give, as contents of slots -/
def DP (X : Cx) (G : Gx) (ρ : List Sl) (es : List Expr) (Q : List Sl → Prop) : Prop := ∀ σ H, StOk G ρ σ H → ∀ Q' : List V → Hp → Prop, UpP G (G.O ++ owns ρ) H Q Q' → aSem X es σ H Q'
section
variable {X : Cx} {G : Gx} {ρ : List Sl} {E : DEnds} {e a b c : Expr} {es : List Expr} {pos p p2 p3 pd : Pos} {x y z : Str} {Q : List Sl → Prop}
theorem dp_nil (q : Q []) : DP X G ρ [] Q := fun σ H I Q' U => asem_of pa_nil (U [] H [] (Kp.refl _ _ _) I.src (fun a ha => nomatch ha) List.nodup_nil .nil q)
theorem dp_D (h : DE X G ρ true e fun d => DP X G ρ es fun ss => Q (.dat d :: ss)) (hs : starEach (e :: es) X.env = (false, eval e X.env) :: starEach es X.env := by rfl) : DP X G ρ (e :: es) Q := fun σ H I Q' U =>
  asem_of (pa_cons pe_sem pa_sem hs) (h σ H I _ fun v H1 d k s r q => by
    have I1 := I.kp k s
    refine q σ H1 I1 _ fun vs H2 ss k2 s2 fr nd na q2 => U _ H2 (.dat d :: ss) (k.trans k2) s2 (fun a ha => k.back s (fr a ha)) nd (.cons ⟨v, rfl, ?_⟩ na) q2
    refine (ofTrue (O := []) r).mv fun b o n ev t_ => ⟨fun m => ?_, k2.to b o (fun c d z => ⟨fun w => n (w ▸ (I1.srcA z).1), fun w => n (w ▸ (I1.srcA z).2)⟩) ev t_⟩
    rcases List.mem_append.mp m with m | m
    · exact n m
    · have := fr b m
      rw [this] at ev; cases ev)
theorem dp_own {H H1 : Hp} {σ : L2.St} {q : Addr} {u : HO} {s1 : Sl} {vs : List V} {Q' : List V → Hp → Prop} (I : StOk G ρ σ H) (k : Kp G.T G.S H H1) (s : SrcOk G.S H1) (np : H q = none) (hq : H1 q = some u) (ht : (∃ xs, u = .lst xs) ∨ ∃ xs, u = .dK xs) (ad : s1.addr = [q])
    (ok : ∀ H2 ss, Kp G.T G.S H1 H2 → (∀ a ∈ owns ss, H1 a = none) → H2 q = some u → SlOk G.K (G.O ++ owns ρ ++ (q :: owns ss)) H2 s1 (some (.ref q)))
    (U : UpP G (G.O ++ owns ρ) H Q Q') : UpP (G.lc q G.P) ((G.lc q G.P).O ++ owns ρ) H1 (fun ss => Q (s1 :: ss)) fun vs H2 => Q' (.ref q :: vs) H2 := fun vs H2 ss k2 s2 fr nd na q2 => by
  have nS : ∀ c d, G.S = some (c, d) → q ≠ c ∧ q ≠ d := fun c d e => by
    obtain ⟨_, _, _, _, e3, e4, _⟩ := I.src c d e
    exact ⟨fun z => (by rw [z, e3] at np; cases np), fun z => (by rw [z, e4] at np; cases np)⟩
  have eo : owns (s1 :: ss) = q :: owns ss := by
    show s1.addr ++ owns ss = _
    rw [ad]; rfl
  have nq : q ∉ owns ss := fun m => by
    have := fr q m
    rw [this] at hq; cases hq
  refine U (.ref q :: vs) H2 (s1 :: ss) (k.trans k2) s2 (fun a ha => ?_) (by rw [eo]; exact List.nodup_cons.mpr ⟨nq, nd⟩) ?_ q2
  · rw [eo] at ha
    rcases List.mem_cons.mp ha with rfl | ha
    · exact np
    · exact k.back s (fr a ha)
  · rw [eo]
    refine .cons (ok H2 ss k2 fr (k2.to q _ nS hq (by rcases ht with ⟨xs, rfl⟩ | ⟨xs, rfl⟩ <;> (intro _ z; cases z)))) (na.sub fun a ha => ?_)
    rcases List.mem_append.mp ha with m | m
    · rcases List.mem_append.mp m with m | m
      · exact List.mem_append_left _ (List.mem_append_left _ (List.mem_cons_of_mem _ m))
      · exact List.mem_append_left _ (List.mem_append_right _ m)
    · rcases List.mem_cons.mp m with rfl | m
      · exact List.mem_append_left _ (List.mem_append_left _ (List.mem_cons_self ..))
      · exact List.mem_append_right _ m
theorem dp_F (h : DF X G ρ e fun ds => ∀ q, DP X (G.lc q G.P) ρ es fun ss => Q (.own q ds :: ss)) (hs : starEach (e :: es) X.env = (false, eval e X.env) :: starEach es X.env := by rfl) : DP X G ρ (e :: es) Q := fun σ H I Q' U =>
  asem_of (pa_cons pe_sem pa_sem hs) (h σ H I _ fun q vs H1 ds k s np hq r w => by
    refine w q σ H1 (I.lcN k s np hq) _ (dp_own (vs := []) I k s np hq (.inl ⟨_, rfl⟩) (s1 := .own q ds) rfl (fun H2 ss k2 fr h2 => ⟨rfl, vs, h2, r.mv fun b o n ev t_ => ?_⟩) U)
    have nb : b ≠ q ∧ b ∉ G.O ++ owns ρ := ⟨fun z => n (by rw [z]; exact List.mem_cons_self ..), fun z => n (List.mem_cons_of_mem _ z)⟩
    refine ⟨fun m => ?_, k2.to b o (fun c d z => ⟨fun w => nb.2 (w ▸ (I.srcA z).1), fun w => nb.2 (w ▸ (I.srcA z).2)⟩) ev t_⟩
    rcases List.mem_append.mp m with m | m
    · exact nb.2 m
    · rcases List.mem_cons.mp m with m | m
      · exact nb.1 m
      · have := fr b m
        rw [this] at ev; cases ev)
theorem dp_K (h : ∀ q, DP X (G.lc q G.P) ρ es fun ss => Q (.ownD q [] :: ss)) (hs : starEach (.Dict [] [] pd :: es) X.env = (false, eval (.Dict [] [] pd) X.env) :: starEach es X.env := by rfl) : DP X G ρ (.Dict [] [] pd :: es) Q := fun σ H I Q' U =>
  asem_of (pa_cons pe_dnewK pa_sem hs) (fun q np => by
    have k : Kp G.T G.S H (upd H q (.dK [])) := Kp.new np
    exact h q σ _ (I.lcN k (I.src.new np) np upd_same) _ (dp_own (vs := []) I k (I.src.new np) np upd_same (.inr ⟨_, rfl⟩) (s1 := .ownD q []) rfl (fun H2 ss k2 fr h2 => ⟨rfl, [], h2, .nil⟩) U))
/-- the names are set -/
theorem set_new {σ : L2.St} {H H1 : Hp} {i j : Nat} {v u : V} {s1 s2 : Sl} (I : StOk G ρ σ H) (k : Kp G.T G.S H H1) (s : SrcOk G.S H1) (fr : ∀ a ∈ owns [s1, s2], H a = none) (nd : (owns [s1, s2]).Nodup) (na : NewAll G.K (G.O ++ owns ρ ++ owns [s1, s2]) H1 [v, u] [s1, s2]) :
    StP G ((ρ.set i s1).set j s2) ((σ.set i (some v)).set j (some u)) H1 (G.O ++ owns ρ ++ owns [s1, s2]) := by
  have eo : owns [s1, s2] = s1.addr ++ s2.addr := by show s1.addr ++ (s2.addr ++ []) = _; rw [List.append_nil]
  have P := I.toP k s fr
  have h0 : ∀ a ∈ owns [s1, s2], a ∉ G.O ∧ a ∉ owns ρ ∧ G.H0 a = none := fun a ha => by
    have z := fr a ha
    refine ⟨fun m => ?_, fun m => ?_, (I.ext.back I.src) z⟩
    · obtain ⟨o, e⟩ := I.trk a m; rw [z] at e; cases e
    · obtain ⟨o, e⟩ := I.trkO a m; rw [z] at e; cases e
  rw [eo] at nd h0
  obtain ⟨n1, n2, n12⟩ := List.nodup_append.mp nd
  cases na with
  | cons a1 na =>
    cases na with
    | cons a2 na =>
      have m1 : ∀ a ∈ s1.addr, a ∈ G.O ++ owns ρ ++ owns [s1, s2] := fun a ha => List.mem_append_right _ (by rw [eo]; exact List.mem_append_left _ ha)
      have m2 : ∀ a ∈ s2.addr, a ∈ G.O ++ owns ρ ++ owns [s1, s2] := fun a ha => List.mem_append_right _ (by rw [eo]; exact List.mem_append_right _ ha)
      have P1 := P.add i a1 (fun a ha => ⟨m1 a ha, (h0 a (List.mem_append_left _ ha)).2.1, (h0 a (List.mem_append_left _ ha)).1, (h0 a (List.mem_append_left _ ha)).2.2⟩) n1
      refine P1.add j a2 (fun a ha => ⟨m2 a ha, fun m => ?_, (h0 a (List.mem_append_right _ ha)).1, (h0 a (List.mem_append_right _ ha)).2.2⟩) n2
      rcases owns_set_mem m with m | m
      · exact n12 a m a ha rfl
      · exact (h0 a (List.mem_append_right _ ha)).2.1 m
theorem ds_parP {px py pt : Pos} {kt k2 pt2} (i j : Nat) (hc : X.calm = true) (hN : X.N.Nodup) (h : DP X G ρ [a, b] fun ss => ∃ s1 s2, ss = [s1, s2] ∧ E.nx ((ρ.set i s1).set j s2)) (hij : i ≠ j := by decide) (hi : X.N[i]? = some x := by rfl) (hj : X.N[j]? = some y := by rfl)
    (hx : X.env.scope.names.lookup x = some .local := by rfl) (hy : X.env.scope.names.lookup y = some .local := by rfl) (hw : swappedStores [.Tuple [.Name x px, .Name y py] kt pt] (.Tuple [a, b] k2 pt2) X.env = pure (some [x, y]) := by rfl)
    (hs : swapsWithSole [.Tuple [.Name x px, .Name y py] kt pt] (.Tuple [a, b] k2 pt2) pos.line X.env = pure false := by rfl) : DS X G ρ (.Assign [.Tuple [.Name x px, .Name y py] kt pt] (.Tuple [a, b] k2 pt2) pos) E := fun σ H I D U =>
  ssem_of (L2.ps_par hc hN hi hj hij hx hy pa_sem hw hs) (h σ H I _ fun vs H1 ss k s fr nd na q => by
    obtain ⟨s1, s2, rfl, q⟩ := q
    cases na with
    | cons a1 na =>
      cases na with
      | cons a2 na =>
        cases na
        exact ⟨_, _, rfl, U.nx _ _ H1 (set_new I k s fr nd (.cons a1 (.cons a2 .nil))).ok q⟩)
theorem ds_parP3 {px py pz pt : Pos} {kt k2 pt2} (i j l : Nat) (hc : X.calm = true) (hN : X.N.Nodup) (h : DP X G ρ [a, b, c] fun ss => ∃ s1 s2 s3, ss = [s1, s2, s3] ∧ E.nx (((ρ.set i s1).set j s2).set l s3)) (hij : i ≠ j := by decide) (hil : i ≠ l := by decide) (hjl : j ≠ l := by decide)
    (hi : X.N[i]? = some x := by rfl) (hj : X.N[j]? = some y := by rfl) (hl : X.N[l]? = some z := by rfl) (hx : X.env.scope.names.lookup x = some .local := by rfl) (hy : X.env.scope.names.lookup y = some .local := by rfl) (hz : X.env.scope.names.lookup z = some .local := by rfl)
    (hw : swappedStores [.Tuple [.Name x px, .Name y py, .Name z pz] kt pt] (.Tuple [a, b, c] k2 pt2) X.env = pure (some [x, y, z]) := by rfl)
    (hs : swapsWithSole [.Tuple [.Name x px, .Name y py, .Name z pz] kt pt] (.Tuple [a, b, c] k2 pt2) pos.line X.env = pure false := by rfl) : DS X G ρ (.Assign [.Tuple [.Name x px, .Name y py, .Name z pz] kt pt] (.Tuple [a, b, c] k2 pt2) pos) E := fun σ H I D U =>
  ssem_of (L2.ps_par3 hc hN hi hj hl hij hil hjl hx hy hz pa_sem hw hs) (h σ H I _ fun vs H1 ss k s fr nd na q => by
    obtain ⟨s1, s2, s3, rfl, q⟩ := q
    have eo : owns [s1, s2, s3] = s1.addr ++ (s2.addr ++ s3.addr) := by show s1.addr ++ (s2.addr ++ (s3.addr ++ [])) = _; rw [List.append_nil]
    have h0 : ∀ a ∈ owns [s1, s2, s3], a ∉ G.O ∧ a ∉ owns ρ ∧ G.H0 a = none := fun a ha => by
      have z := fr a ha
      refine ⟨fun m => ?_, fun m => ?_, (I.ext.back I.src) z⟩
      · obtain ⟨o, e⟩ := I.trk a m; rw [z] at e; cases e
      · obtain ⟨o, e⟩ := I.trkO a m; rw [z] at e; cases e
    have P := I.toP k s fr
    have nd' := nd
    rw [eo] at nd' h0
    obtain ⟨n1, n23, n1x⟩ := List.nodup_append.mp nd'
    obtain ⟨n2, n3, n2x⟩ := List.nodup_append.mp n23
    have mm : ∀ a, a ∈ s1.addr ++ (s2.addr ++ s3.addr) → a ∈ G.O ++ owns ρ ++ owns [s1, s2, s3] := fun a ha => List.mem_append_right _ (by rw [eo]; exact ha)
    cases na with
    | cons a1 na =>
      cases na with
      | cons a2 na =>
        cases na with
        | cons a3 na =>
          cases na
          have l1 : ∀ a ∈ s1.addr, a ∈ s1.addr ++ (s2.addr ++ s3.addr) := fun a ha => List.mem_append_left _ ha
          have l2 : ∀ a ∈ s2.addr, a ∈ s1.addr ++ (s2.addr ++ s3.addr) := fun a ha => List.mem_append_right _ (List.mem_append_left _ ha)
          have l3 : ∀ a ∈ s3.addr, a ∈ s1.addr ++ (s2.addr ++ s3.addr) := fun a ha => List.mem_append_right _ (List.mem_append_right _ ha)
          have P1 := P.add i a1 (fun a ha => ⟨mm a (l1 a ha), (h0 a (l1 a ha)).2.1, (h0 a (l1 a ha)).1, (h0 a (l1 a ha)).2.2⟩) n1
          have P2 := P1.add j a2 (fun a ha => ⟨mm a (l2 a ha), fun m => by
            rcases owns_set_mem m with m | m
            · exact n1x a m a (List.mem_append_left _ ha) rfl
            · exact (h0 a (l2 a ha)).2.1 m, (h0 a (l2 a ha)).1, (h0 a (l2 a ha)).2.2⟩) n2
          have P3 := P2.add l a3 (fun a ha => ⟨mm a (l3 a ha), fun m => by
            rcases owns_set_mem m with m | m
            · exact n2x a m a ha rfl
            · rcases owns_set_mem m with m | m
              · exact n1x a m a (List.mem_append_right _ ha) rfl
              · exact (h0 a (l3 a ha)).2.1 m, (h0 a (l3 a ha)).1, (h0 a (l3 a ha)).2.2⟩) n3
          exact ⟨_, _, _, rfl, U.nx _ _ H1 P3.ok q⟩)
end
end Dw

/-! enumerate over a tuple or a list -/
namespace Dw
open PySem PySem.Spec PyProof.Rows L2
open Sem (wp)
/-- enumerate is made of anything that begins to be walked -/
theorem enum_made {x : Value} {ob : Obj} {C : Heap → Prop} (B : Begins x ob C) :
    Meets (Builtin.«enumerate.__new__» ⟨[.type "enumerate", x], []⟩) (fun _ R s => C s.heap ∧ R (.ok (.ret (.ref (s.heap.push ob).objs.size)))
        { s with heap := (s.heap.push ob).push { cls := .type "enumerate", data := .fields #[.none, .bool false, .ref s.heap.objs.size, rawInt 0, .none, .none] } }) := .of_wp fun prog w A R s hh => by
  obtain ⟨hp, g, d, tk, os⟩ := s
  obtain ⟨c1, hr⟩ := hh
  have sb := sub_enumerate
  have qi : ∀ {A' : Around} {E : Value → Shared → Prop} {Q : Value → Shared → Prop}, Q (.ref hp.objs.size) ⟨hp.push ob, g, d, tk, os⟩ → wpAny (model prog w) A' (pyIter x) Q E ⟨hp, g, d, tk, os⟩ := fun q => B.iter prog w _ _ ⟨hp, g, d, tk, os⟩ _ c1 q
  wp_walk using qi
  refine wpAny_stack_any fun st => wpAny_pure ?_
  split
  · rename_i k _ _ _ _ _
    cases (k == Value.type "enumerate") <;> (wp_walk using qi; exact ⟨_, rfl, hr⟩)
  · wp_walk using qi
    exact ⟨_, rfl, hr⟩
theorem enum_call {prog : Program} {w : World} {A : Around} {E : Value → Shared → Prop} {s : Shared} {x : Value} {ob : Obj} {C : Heap → Prop} {Q : Value → Shared → Prop} (B : Begins x ob C) (c1 : C s.heap)
    (h : ∀ h', IsEnum h' (s.heap.objs.size + 1) s.heap.objs.size 0 .none → h'.get? s.heap.objs.size = some ob → (∀ b o, s.heap.get? b = some o → h'.get? b = some o) → Q (.ref (s.heap.objs.size + 1)) { s with heap := h' }) :
    wpAny (model prog w) A (call (.type "enumerate") [x]) Q E s := by
  refine callType_new F.called_enumerate (by decide) (F.typeCall_enumerate_1 _) (F.newCall_enumerate_1 _) (fun obj => F.args_object_init_2 obj _) F.entry_enumerate_new (enum_made B) ⟨c1, ?_⟩
  have sz : (s.heap.push ob).objs.size = s.heap.objs.size + 1 := Heap.size_push ..
  show _ ∧ _
  rw [sz]
  have en : IsEnum ((s.heap.push ob).push { cls := .type "enumerate", data := .fields #[.none, .bool false, .ref s.heap.objs.size, rawInt 0, .none, .none] }) (s.heap.objs.size + 1) s.heap.objs.size 0 .none := by
    have q := Heap.get?_push_size (s.heap.push ob) (o := { cls := .type "enumerate", data := .fields #[.none, .bool false, .ref s.heap.objs.size, rawInt 0, .none, .none] }) rfl
    rw [sz] at q; exact q
  exact ⟨⟨_, en, rfl⟩, h _ en (Heap.get?_push_of_some _ (Heap.get?_push_size _ B.free)) fun b o e => Heap.get?_push_of_some _ (Heap.get?_push_of_some _ e)⟩
/-- the tuple at a, its items in new pairs with their places -/
def IteT (K : PySem.W.Frag) (a : Addr) : It :=
  ⟨fun i H => ∃ (us : List V) (u : V), SqT K H a us ∧ us[i]? = some u, fun i H v H' => ∃ T u, v = .ref T ∧ H T = none ∧ H' = upd H T (.tup [.int (i : Nat), u]) ∧ ∀ us, SqT K H a us → us[i]? = some u, fun i H => ∃ us : List V, SqT K H a us ∧ us.length = i⟩
theorem turn_enumT {P : Program} {w : World} {K : PySem.W.Frag} {elts : List Expr} {kk : Nat} {tp : Pos} (a e t : Addr) (ha : a < t) (et : e ≠ t) :
    Turn P w K (.Tuple elts kk tp) (IteT K a) [e, t] e (fun i h => (∃ old, IsEnum h e t ((i : Nat) : Int) old) ∧ h.IsTupleIter t a i) where
  mem := by simp
  obj := fun i h st b hb => by
    obtain ⟨⟨old, he⟩, o, ho, hc, hd⟩ := st
    rcases List.mem_cons.mp hb with z | z
    · rw [z]; exact ⟨_, he, fun v q => nomatch q⟩
    · rw [List.mem_singleton.mp z]; exact ⟨o, ho, fun v q => by rw [hd] at q; cases q⟩
  keep := fun i h h' st k => by
    obtain ⟨⟨old, he⟩, hi⟩ := st
    exact ⟨⟨old, k e (by simp) _ he⟩, hi.at fun o q => k t (by simp) o q⟩
  item := by
    intro X hP hw hK hc i pins s σ H E I hf st hg
    subst hP hw hK
    obtain ⟨⟨old, he⟩, hi⟩ := st
    obtain ⟨us, u, hq, hu⟩ := hg
    obtain ⟨its, rv, pt, hz⟩ := I.tuple hq
    obtain ⟨z, ez, rz⟩ := rv.get hu
    have el : e < s.heap.objs.size := Heap.lt_size he
    have tl : t < s.heap.objs.size := by obtain ⟨_, q, _⟩ := hi; exact Heap.lt_size q
    have at' : a ≠ t := Nat.ne_of_lt ha
    have D := Draws.tuple (prog := X.prog) (w := X.w) (A := X.A.in1) (I.ok.hd hc) t a at' its.toArray
    by_cases ea : e = a
    · exfalso
      obtain ⟨o, ho, hcl, _⟩ := (show s.heap.IsTuple a its.toArray from pt)
      rw [← ea] at ho
      rw [show s.heap.get? e = _ from he] at ho
      cases ho
      have z : Value.type "enumerate" = Value.type "tuple" := hcl
      injection z with z
      exact absurd z (by decide)
    refine wpAny_pyNext_enum_itemD D he ⟨hi, pt⟩ (by have := (List.getElem?_eq_some_iff.mp ez).1; simpa using this) et (by simp [et, ea]) fun x h' tk hx ho hs hT hsz hk => ?_
    have ex : x = z := by
      have : its.toArray[i]? = some z := by simpa using ez
      rw [this] at hx; exact (Option.some.inj hx).symm
    subst ex
    refine ⟨_, rfl, wpAny_letOwnedTupleGo_enum (s := { s with heap := h', toks := tk + 1 }) ho fun h2 he2 sb => ?_⟩
    have hT2 : h2.get? s.heap.objs.size = some { cls := .type "tuple", data := .seq #[.int i tk, x] } := (sb.2 _ (Nat.ne_of_gt el)).trans hT
    have nw : ObjOk X.prog X.w (upd H s.heap.objs.size (.tup [.int (i : Nat), u])) h2 s.heap.objs.size (.tup [.int (i : Nat), u]) :=
      ⟨by show 2 ≤ sizeLine; decide, [.int i tk, x], .cons ⟨_, rfl⟩ (.cons rz .nil), ⟨_, hT2, rfl, _, rfl⟩⟩
    have I1 : Inv X pins σ (upd H s.heap.objs.size (.tup [.int (i : Nat), u])) { s with heap := h2, toks := tk + 1 } :=
      I.turnedNew (ch := [e, t]) (fun b ob hb q => (sb.2 b (fun z => hb (by simp [z]))).trans (hk b ob (fun z => hb (by simp [z])) (fun z => hb (by simp [z])) q)) hf (Nat.le_refl _) nw
    refine ⟨.ref s.heap.objs.size, _, I1, rfl, ⟨_, u, rfl, I.hok.fresh (Nat.le_refl _), rfl, fun ys hy => by rw [I.tuple_inj hy hq]; exact hu⟩, ⟨⟨x, ?_⟩, hs.1.at fun o q => (sb.2 t (Ne.symm et)).trans q⟩, fun b hb => ?_⟩
    · have e1 : ((i + 1 : Nat) : Int) = (i : Int) + 1 := by omega
      rw [e1]; exact he2
    · have bl : b < s.heap.objs.size := by
        rcases List.mem_cons.mp hb with z | z
        · rw [z]; exact el
        · rw [List.mem_singleton.mp z]; exact tl
      rw [upd_ne (Nat.ne_of_lt bl)]
      exact (hf b hb).1
  done := by
    intro X hP hw hK hc i pins s σ H E I hf st hg
    subst hP hw hK
    obtain ⟨⟨old, he⟩, hi⟩ := st
    obtain ⟨us, hq, hl⟩ := hg
    obtain ⟨its, rv, pt, hz⟩ := I.tuple hq
    have at' : a ≠ t := Nat.ne_of_lt ha
    obtain ⟨f0, f1, f2, f3, f4, f5⟩ := hf t (by simp)
    have D := Draws.tuple (prog := X.prog) (w := X.w) (A := X.A.in1) (I.ok.hd hc) t a at' its.toArray
    have el : i = its.toArray.size := by rw [List.size_toArray, ← hl]; exact rv.length
    subst el
    exact wpAny_pyNext_enum_endD D he ⟨hi, pt⟩ fun h' eb => ⟨rfl, I.turned (t' := s.toks) (fun b o hb q => eb b o hb q) f0 f1 f3 f4 f5⟩
  self := fun A i s Q E st h => by
    obtain ⟨⟨old, he⟩, _⟩ := st
    exact wpAny_pyIter_enum he h
def iEnumT (K : PySem.W.Frag) (ta : TA) : TI := fun σ H R => ta σ H fun vs H1 => ∃ a us, vs = [.ref a] ∧ SqT K H1 a us ∧ R (IteT K a) H1
theorem pi_enumT {X : Cx} {e : Expr} {ta : TA} {p pos tp : Pos} {elts : List Expr} {kk : Nat} (hg : Gl X "enumerate") (hm : X.mg "enumerate" = none) (ha : PA X [e] ta) (hs : starEach [e] X.env = [(false, eval e X.env)] := by rfl) :
    PI X (.Tuple elts kk tp) (.Call (.Name "enumerate" p) [e] [] pos) (iEnumT X.K ta) := ⟨fun pins s σ H R I h => by
  refine Call_ (ld_blt I hg hm boot_enumerate (PyProof.Rows.callWith_type1 (thn (ha.run pos pins s σ H _ I h) fun ws s1 ⟨vs, H1, I1, r1, q1⟩ => ?_) hs rfl))
  obtain ⟨a, us, rfl, hq, q⟩ := q1
  cases r1 with
  | cons r rr =>
    cases rr
    cases r
    obtain ⟨its, rv, pt, hz⟩ := I1.tuple hq
    obtain ⟨o0, ho0, _⟩ := (show s1.heap.IsTuple a its.toArray from pt)
    refine enum_call (begins_tuple a its.toArray) (show s1.heap.IsTuple a its.toArray from pt) fun h' en hit hk => wpAny_pyIter_enum en ?_
    have I2 : Inv X pins σ H1 { s1 with heap := h' } := I1.kept (t' := s1.toks) hk
    refine ⟨s1.heap.objs.size + 1, [s1.heap.objs.size + 1, s1.heap.objs.size], _, _, H1, rfl, I2, turn_enumT a (s1.heap.objs.size + 1) s1.heap.objs.size (Heap.lt_size ho0) (Nat.succ_ne_self _), ⟨⟨.none, en⟩, ⟨_, hit, rfl, rfl⟩⟩, fun b hb => ?_, q⟩
    have bl : s1.heap.objs.size ≤ b := by
      rcases List.mem_cons.mp hb with z | z
      · rw [z]; exact Nat.le_add_right _ _
      · rw [List.mem_singleton.mp z]; exact Nat.le_refl _
    exact I1.fpOk bl (I1.hok.fresh bl)⟩
/-- the items with their places -/
def placed (ds : List D) : List D := ds.mapIdx fun i d => .tup [.int i, d]
theorem itOk_enum {K : PySem.W.Frag} {a : Addr} {ds : List D} : ItOk K (IteT K a) (placed ds) [(.ref a, .tup ds)] := fun i H O hp ht => by
  obtain ⟨a', vs, e, ha, r⟩ := (hp _ (List.mem_singleton.mpr rfl)).tupI
  cases e
  refine ⟨fun e => ⟨vs, ha, by rw [r.length, e]; unfold placed; rw [List.length_mapIdx]⟩, fun d hd => ?_⟩
  unfold placed at hd
  rw [List.getElem?_mapIdx] at hd
  cases ed : ds[i]? with
  | none => rw [ed] at hd; cases hd
  | some d0 =>
    rw [ed] at hd
    cases hd
    obtain ⟨v, hv, rv⟩ := r.getD' ed
    refine ⟨⟨vs, v, ha, hv⟩, fun x H' hy => ?_⟩
    obtain ⟨T, u, rfl, hT, rfl, hu⟩ := hy
    have eu : u = v := by
      have := hu vs ha
      rw [hv] at this
      exact (Option.some.inj this).symm
    subst eu
    have nT : T ∉ O := fun m => by
      obtain ⟨o, e⟩ := ht T m
      rw [hT] at e; cases e
    refine ⟨fun b o e => by rw [upd_ne (ne_of_none e hT)]; exact e, .tup upd_same nT (.cons (.int _) (.cons (rv.mv fun b o n e _ => ⟨n, by rw [upd_ne (ne_of_none e hT)]; exact e⟩) .nil))⟩
def tupOnly : List D → (List D → Prop) → Prop
  | [.tup xs], Q => Q xs
  | _, _ => False
section
variable {X : Cx} {G : Gx} {ρ : List Sl} {e : Expr} {pos p tp : Pos} {elts : List Expr} {kk : Nat}
theorem di_enum {Q : List D → Prop} (hK : X.K = G.K) (hm : X.mg "enumerate" = none) (h : DA X G ρ true [e] fun ds => tupOnly ds fun xs => Q (placed xs)) (hg : Gl X "enumerate" := by rfl) (hs : starEach [e] X.env = [(false, eval e X.env)] := by rfl) :
    DI X G ρ (.Tuple elts kk tp) (.Call (.Name "enumerate" p) [e] [] pos) Q := fun σ H I R U =>
  ⟨_, pi_enumT hg hm pa_sem hs, h σ H I _ fun vs H1 ds k s r q => by
    replace q : tupOnly ds (fun xs => Q (placed xs)) := q
    unfold tupOnly at q
    split at q
    · obtain ⟨v, rfl, r1⟩ := r.oneI
      obtain ⟨a, us, rfl, ha, r2⟩ := r1.tupI
      exact ⟨a, us, rfl, hK ▸ ha, U (IteT X.K a) H1 _ [(.ref a, .tup _)] k s (fun p hp => by rw [List.mem_singleton.mp hp]; exact ofTrue (O := []) r1) (by rw [hK]; exact itOk_enum) q⟩
    · exact q.elim⟩
end
end Dw

/-! two places of an own list at once; max -/
namespace Dw
open PySem PySem.Spec PyProof.Rows L2
section
variable {X : Cx} {G : Gx} {ρ : List Sl} {E : DEnds} {e a b idx idx2 : Expr} {es : List Expr} {pos p p2 p3 p4 : Pos} {x y : Str} {c : Bool} {Q : D → Prop}
abbrev subPlain (X : Cx) (x : Str) (p p2 : Pos) (idx : Expr) : Prop := ∀ v, assign (.Subscript (.Name x p) idx p2) X.env v = (do
      let o' ← holding [v] (eval (.Name x p) X.env)
      let i' ← holding [v, o'] (eval idx X.env)
      standAt p2
      holding [v, o', i'] (setItem o' i' v)
      release [v, o', i'] [])
theorem dgs_sub2 {o : Addr} {ds : List D} {d1 d2 : D} {Q : List Sl → Prop} (i : Nat) (h0 : ρ[i]? = some (.own o ds))
    (h : DE X G ρ false idx fun z => ∃ k j, z = .int k ∧ ixN ds.length k = some j ∧ DE X G (ρ.set i (.own o (ds.set j d1))) false idx2 fun z2 => ∃ k2 j2, z2 = .int k2 ∧ ixN ds.length k2 = some j2 ∧ Q (ρ.set i (.own o ((ds.set j d1).set j2 d2))))
    (hN : X.N[i]? = some x := by rfl) (hv : Vis X.env.scope x := by first | exact Or.inl rfl | exact Or.inr (Or.inl rfl) | exact Or.inr (Or.inr rfl)) (hd : (x == ("__debug__" : Str)) = false := by decide) (hcd : (x == ("__classdict__" : Str)) = false := by decide)
    (ha : subPlain X x p p2 idx := by intro _; rfl) (hb : subPlain X x p3 p4 idx2 := by intro _; rfl) : DGs X G ρ [.Subscript (.Name x p) idx p2, .Subscript (.Name x p3) idx2 p4] [d1, d2] Q := fun σ H vs I r Q' U => by
  cases r with
  | cons r1 r =>
    cases r with
    | cons r2 r =>
      cases r
      rename_i v1 v2
      obtain ⟨y, hy, rfl, us, hu, ru⟩ := I.slot i _ h0
      have hiL : i < ρ.length := (List.getElem?_eq_some_iff.mp h0).1
      have om : o ∈ owns ρ := mem_owns h0 (by simp [Sl.addr])
      refine ⟨_, pgs_cons (pg_sub (pe_var (pos := p) hN hv hd hcd) (pe_sem (e := idx)) set_list ha) (pgs_cons (pg_sub (pe_var (pos := p3) hN hv hd hcd) (pe_sem (e := idx2)) set_list hb) pgs_nil), ?_⟩
      refine ⟨v1, _, rfl, _, hy, h σ H I _ fun z H1 d k s rz q => ?_⟩
      obtain ⟨k1, j1, rfl, hj1, q⟩ := q
      cases rz
      have I1 := I.kp k s
      have hn : H1 o = some (.lst us) := k.at o _ (I.notSrc om) hu
      have mv1 : Mv (G.O ++ owns ρ) (G.O ++ owns ρ) H H1 := k.mv fun a b e => I.srcA e
      have ru1 := ru.mv mv1
      have r11 := r1.mv mv1
      have r21 := r2.mv mv1
      have mvu : ∀ {u : HO}, Mv (G.O ++ owns ρ) (G.O ++ owns ρ) H1 (upd H1 o u) := fun {u} b w n e t_ => ⟨n, by rw [upd_ne (fun z => n (by rw [z]; exact List.mem_append_right _ om))]; exact e⟩
      refine ⟨o, us, k1, j1, rfl, rfl, hn, by rw [ru1.length]; exact hj1, ?_⟩
      have I2 := I1.chg i (a := o) (s := .own o (ds.set j1 d1)) (u := .lst (us.set j1 v1)) h0 (by simp [Sl.addr]) (by simp [Sl.addr]) fun x hx => by
        rw [hy] at hx
        cases hx
        exact ⟨rfl, _, upd_same, (ru1.set r11 j1).mv mvu⟩
      have eo : owns (ρ.set i (.own o (ds.set j1 d1))) = owns ρ := owns_set_same (s := .own o (ds.set j1 d1)) (s0 := .own o ds) rfl h0
      have h02 : (ρ.set i (.own o (ds.set j1 d1)))[i]? = some (.own o (ds.set j1 d1)) := by rw [List.getElem?_set_self hiL]
      refine ⟨v2, [], rfl, _, hy, q σ _ I2 _ fun z H3 d k3 s3 rz q3 => ?_⟩
      obtain ⟨k2, j2, rfl, hj2, q3⟩ := q3
      cases rz
      have I3 := I2.kp k3 s3
      have hn3 : H3 o = some (.lst (us.set j1 v1)) := k3.at o _ (I2.notSrc (by rw [eo]; exact om)) upd_same
      have mv3 : Mv (G.O ++ owns ρ) (G.O ++ owns ρ) (upd H1 o (.lst (us.set j1 v1))) H3 := k3.mv fun a b e => I.srcA e
      have mvu3 : ∀ {u : HO}, Mv (G.O ++ owns ρ) (G.O ++ owns ρ) H3 (upd H3 o u) := fun {u} b w n e t_ => ⟨n, by rw [upd_ne (fun z => n (by rw [z]; exact List.mem_append_right _ om))]; exact e⟩
      refine ⟨o, us.set j1 v1, k2, j2, rfl, rfl, hn3, by rw [List.length_set, ru1.length]; exact hj2, rfl, ?_⟩
      have I4 := I3.chg i (a := o) (s := .own o ((ds.set j1 d1).set j2 d2)) (u := .lst ((us.set j1 v1).set j2 v2)) h02 (by simp [Sl.addr]) (by simp [Sl.addr]) fun x hx => by
        rw [hy] at hx
        cases hx
        refine ⟨rfl, _, upd_same, ?_⟩
        rw [eo]
        exact ((((ru1.set r11 j1).mv mvu).mv mv3).set ((r21.mv mvu).mv mv3) j2).mv mvu3
      rw [List.set_set] at I4
      exact U _ σ _ I4 q3
/-- max of a list of ints -/
def maxD : List D → (D → Prop) → Prop
  | [.lst xs], Q => ∃ ns : List Int, xs = ns.map D.int ∧ 0 < ns.length ∧ ∀ m, m ∈ ns → (∀ y, y ∈ ns → y ≤ m) → Q (.int m)
  | _, _ => False
theorem de_max (hc : X.calm = true) (hm : X.mg "max" = none) (h : DA X G ρ false [e] fun ds => maxD ds Q) (hg : Gl X "max" := by rfl)
    (he : starEach [e] X.env = (false, eval e X.env) :: starEach [] X.env := by rfl) (hpl : (backTo pos (starEach [] X.env)).any (·.1) = false := by rfl) : DE X G ρ c (.Call (.Name "max" p) [e] [] pos) Q :=
  de_callB (cr_max hc) hm boot_max (R := maxD) (fun vs σ H ds Q' I r U q => by
    unfold maxD at q
    split at q
    · obtain ⟨ns, rfl, h0, q⟩ := q
      obtain ⟨v, rfl, r1⟩ := r.oneI
      obtain ⟨a, us, rfl, ha, _, r⟩ := r1.lstI
      have e := r.ints_inv
      subst e
      exact ⟨a, ns, rfl, .of ha, h0, fun m h1 h2 => U.int I.src (q m h1 h2)⟩
    · exact q.elim) h hg (by decide) (by decide) he hpl
end
/-- names that a text leaves to the builtins -/
structure Bl (mg : Str → Option Value) : Prop where
  len : mg "len" = none
  tuple : mg "tuple" = none
  list : mg "list" = none
  range : mg "range" = none
  dict : mg "dict" = none
  int : mg "int" = none
  str : mg "str" = none
  min : mg "min" = none
  max : mg "max" = none
  sorted : mg "sorted" = none
  sum : mg "sum" = none
  repr : mg "repr" = none
  abs : mg "abs" = none
  any : mg "any" = none
  all : mg "all" = none
  enumerate : mg "enumerate" = none
  zip : mg "zip" = none
end Dw

/-! walks over a window: plain arithmetic -/
namespace M
def nx (w : List Int) (x : Int) : Int := w.getD (x % w.length).toNat 0 + x - x % w.length
def it (w : List Int) : Nat → Int → Int
  | 0, x => x
  | k + 1, x => nx w (it w k x)
def cells (n : Nat) : List Int := (List.range n).map fun i : Nat => (i : Int)
structure Win (w : List Int) : Prop where
  pos : 0 < w.length
  perm : (w.map fun x => x % (w.length : Int)).Perm (cells w.length)
theorem mem_cells {n : Nat} {x : Int} : x ∈ cells n ↔ 0 ≤ x ∧ x < n := by
  unfold cells
  rw [List.mem_map]
  constructor
  · rintro ⟨i, hi, rfl⟩
    rw [List.mem_range] at hi
    omega
  · rintro ⟨h0, h1⟩
    exact ⟨x.toNat, List.mem_range.mpr (by omega), by omega⟩
theorem nodup_cells (n : Nat) : (cells n).Nodup := by
  unfold cells List.Nodup
  refine List.Pairwise.map (R := fun a b => a ≠ b) _ (fun a b h => ?_) List.nodup_range
  intro e; apply h; omega
section
variable {w : List Int}
theorem nx_mod (W : Win w) (x : Int) : nx w x % w.length = w.getD (x % w.length).toNat 0 % w.length := by
  unfold nx
  have e : w.getD (x % w.length).toNat 0 + x - x % w.length = w.getD (x % w.length).toNat 0 + w.length * (x / w.length) := by
    have := Int.mul_ediv_add_emod x w.length
    omega
  rw [e, Int.add_mul_emod_self_left]
theorem md (W : Win w) (x : Int) : 0 ≤ x % w.length ∧ x % w.length < w.length := ⟨Int.emod_nonneg _ (by have := W.pos; omega), Int.emod_lt_of_pos _ (by have := W.pos; omega)⟩
theorem nx_congr {x y : Int} (W : Win w) (h : x % w.length = y % w.length) : nx w x % w.length = nx w y % w.length := by rw [nx_mod W, nx_mod W, h]
theorem nx_inj {x y : Int} (W : Win w) (h : nx w x % w.length = nx w y % w.length) : x % w.length = y % w.length := by
  rw [nx_mod W, nx_mod W] at h
  have hx := md W x
  have hy := md W y
  have nd : (w.map fun x => x % (w.length : Int)).Nodup := W.perm.nodup_iff.mpr (nodup_cells _)
  have hx1 : (x % w.length).toNat < w.length := by omega
  have hy1 : (y % w.length).toNat < w.length := by omega
  rw [List.getD_eq_getElem?_getD, List.getD_eq_getElem?_getD, List.getElem?_eq_getElem hx1, List.getElem?_eq_getElem hy1] at h
  have e : (w.map fun x => x % (w.length : Int))[(x % w.length).toNat]'(by rw [List.length_map]; exact hx1) = (w.map fun x => x % (w.length : Int))[(y % w.length).toNat]'(by rw [List.length_map]; exact hy1) := by
    rw [List.getElem_map, List.getElem_map]; exact h
  have := (List.getElem_inj nd).mp e
  omega
theorem nx_add {x k : Int} : nx w (x + w.length * k) = nx w x + w.length * k := by
  unfold nx
  rw [Int.add_mul_emod_self_left]
  omega
theorem it_add {x k : Int} : ∀ i, it w i (x + w.length * k) = it w i x + w.length * k
  | 0 => rfl
  | i + 1 => by
    show nx w (it w i _) = nx w (it w i x) + _
    rw [it_add i, nx_add]
theorem it_it (a : Nat) (x : Int) : ∀ b, it w (b + a) x = it w b (it w a x)
  | 0 => by rw [Nat.zero_add]; rfl
  | b + 1 => by
    rw [Nat.add_right_comm]
    show nx w (it w (b + a) x) = nx w (it w b (it w a x))
    rw [it_it a x b]
theorem it_congr {x y : Int} (W : Win w) (h : x % w.length = y % w.length) : ∀ i, it w i x % w.length = it w i y % w.length
  | 0 => h
  | i + 1 => nx_congr W (it_congr W h i)
theorem it_inj {x y : Int} (W : Win w) : ∀ i, it w i x % w.length = it w i y % w.length → x % w.length = y % w.length
  | 0, h => h
  | i + 1, h => it_inj W i (nx_inj W h)
theorem it_mod (W : Win w) (x : Int) (i : Nat) : it w i (x % w.length) % w.length = it w i x % w.length := it_congr W (by rw [Int.emod_emod]) i
/-- so many below n are n at most -/
theorem few : ∀ (n : Nat) (l : List Int), l.Nodup → (∀ x ∈ l, 0 ≤ x ∧ x < n) → l.length ≤ n
  | 0, l, _, h => by
    cases l with
    | nil => simp
    | cons a l => have := h a (by simp); omega
  | n + 1, l, nd, h => by
    have := few n (l.erase (n : Int)) (nd.erase _) fun x hx => by
      have h1 := h x (List.mem_of_mem_erase hx)
      have h2 := (nd.mem_erase_iff).mp hx
      omega
    rw [List.length_erase] at this
    split at this <;> omega
theorem period_ex (W : Win w) {r : Int} (h0 : 0 ≤ r) (h1 : r < w.length) : ∃ L, 1 ≤ L ∧ L < 1 + w.length ∧ it w L r % w.length = r := by
  refine Classical.byContradiction fun hn => ?_
  have nd : ((List.range (w.length + 1)).map fun i => it w i r % w.length).Nodup := by
    unfold List.Nodup
    rw [List.pairwise_iff_getElem]
    intro i j hi hj hij e
    rw [List.getElem_map, List.getElem_map, List.getElem_range, List.getElem_range] at e
    rw [List.length_map, List.length_range] at hj
    apply hn
    refine ⟨j - i, by omega, by omega, ?_⟩
    have e2 : it w j r = it w i (it w (j - i) r) := by rw [← it_it]; congr 1; omega
    rw [e2] at e
    have := it_inj W i e
    rw [← this]
    exact Int.emod_eq_of_lt h0 h1
  have := few w.length _ nd fun x hx => by
    obtain ⟨i, _, rfl⟩ := List.mem_map.mp hx
    exact md W _
  rw [List.length_map, List.length_range] at this
  omega
def least (p : Nat → Bool) : Nat → Nat → Nat
  | 0, s => s
  | f + 1, s => if p s = true then s else least p f (s + 1)
theorem least_ok {p : Nat → Bool} : ∀ {f s : Nat}, (∃ L, s ≤ L ∧ L < s + f ∧ p L = true) → s ≤ least p f s ∧ least p f s < s + f ∧ p (least p f s) = true ∧ ∀ i, s ≤ i → i < least p f s → p i = false
  | 0, s, ⟨L, h1, h2, _⟩ => by omega
  | f + 1, s, ⟨L, h1, h2, h3⟩ => by
    unfold least
    by_cases e : p s = true
    · rw [if_pos e]
      exact ⟨Nat.le_refl _, by omega, e, fun i a b => by omega⟩
    · rw [if_neg e]
      have ne : L ≠ s := fun z => e (z ▸ h3)
      obtain ⟨a, b, c, d⟩ := least_ok (p := p) (f := f) (s := s + 1) ⟨L, by omega, by omega, h3⟩
      refine ⟨by omega, by omega, c, fun i hi hl => ?_⟩
      by_cases z : i = s
      · rw [z]; simpa using e
      · exact d i (by omega) hl
def per (w : List Int) (r : Int) : Nat := least (fun L => it w L r % w.length == r) w.length 1
theorem per_ok (W : Win w) {r : Int} (h0 : 0 ≤ r) (h1 : r < w.length) : 1 ≤ per w r ∧ per w r ≤ w.length ∧ it w (per w r) r % w.length = r ∧ ∀ i, 1 ≤ i → i < per w r → it w i r % w.length ≠ r := by
  obtain ⟨L, a, b, c⟩ := period_ex W h0 h1
  obtain ⟨a, b, c, d⟩ := least_ok (p := fun L => it w L r % w.length == r) (f := w.length) (s := 1) ⟨L, a, b, by simpa using c⟩
  refine ⟨a, by unfold per; omega, by simpa [per] using c, fun i hi hl => ?_⟩
  have := d i hi hl
  simpa using this
def orb (w : List Int) (r : Int) : List Int := (List.range (per w r)).map fun i => it w i r % w.length
def drift (w : List Int) (r : Int) : Int := (it w (per w r) r - r) / w.length
theorem drift_ok (W : Win w) {r : Int} (h0 : 0 ≤ r) (h1 : r < w.length) : it w (per w r) r = r + w.length * drift w r := by
  have h := (per_ok W h0 h1).2.2.1
  unfold drift
  have e := Int.mul_ediv_add_emod (it w (per w r) r - r) w.length
  have z : (it w (per w r) r - r) % w.length = 0 := by
    rw [Int.sub_emod, h]
    have : r % w.length = r := Int.emod_eq_of_lt h0 h1
    rw [this]; simp
  omega
theorem it_turn (W : Win w) {r : Int} (h0 : 0 ≤ r) (h1 : r < w.length) (i : Nat) : it w (i + per w r) r % w.length = it w i r % w.length := by
  rw [it_it]
  refine it_congr W ?_ i
  rw [(per_ok W h0 h1).2.2.1, Int.emod_eq_of_lt h0 h1]
theorem mem_orb (W : Win w) {r : Int} (h0 : 0 ≤ r) (h1 : r < w.length) {c : Int} : c ∈ orb w r ↔ ∃ i, c = it w i r % w.length := by
  unfold orb
  rw [List.mem_map]
  constructor
  · rintro ⟨i, _, rfl⟩; exact ⟨i, rfl⟩
  · rintro ⟨i, rfl⟩
    have hp := (per_ok W h0 h1).1
    have key : ∀ k, ∀ i, i < k → ∃ a, a ∈ List.range (per w r) ∧ it w a r % w.length = it w i r % w.length := fun k => by
      induction k with
      | zero => intro i h; omega
      | succ k ih =>
        intro i hi
        by_cases z : i < per w r
        · exact ⟨i, List.mem_range.mpr z, rfl⟩
        · obtain ⟨a, ha, e⟩ := ih (i - per w r) (by omega)
          refine ⟨a, ha, e.trans ?_⟩
          rw [← it_turn W h0 h1 (i - per w r)]
          congr 2; omega
    exact key (i + 1) i (by omega)
theorem orb_range (W : Win w) {r c : Int} (h : c ∈ orb w r) : 0 ≤ c ∧ c < w.length := by
  obtain ⟨i, _, rfl⟩ := List.mem_map.mp h
  exact md W _
theorem orb_symm (W : Win w) {r c : Int} (h0 : 0 ≤ r) (h1 : r < w.length) (h : c ∈ orb w r) : r ∈ orb w c := by
  have hc := orb_range W h
  obtain ⟨a, ha, rfl⟩ := List.mem_map.mp h
  rw [List.mem_range] at ha
  rw [mem_orb W hc.1 hc.2]
  refine ⟨per w r - a, ?_⟩
  rw [it_mod W, ← it_it]
  have e : per w r - a + a = per w r := by omega
  rw [e, (per_ok W h0 h1).2.2.1]
theorem orb_trans (W : Win w) {r c d : Int} (h0 : 0 ≤ r) (h1 : r < w.length) (h : c ∈ orb w r) (h2 : d ∈ orb w c) : d ∈ orb w r := by
  have hc := orb_range W h
  obtain ⟨a, ha, rfl⟩ := List.mem_map.mp h
  obtain ⟨b, e⟩ := (mem_orb W hc.1 hc.2).mp h2
  rw [mem_orb W h0 h1]
  refine ⟨b + a, ?_⟩
  rw [e, it_mod W, it_it]
theorem orb_nodup (W : Win w) {r : Int} (h0 : 0 ≤ r) (h1 : r < w.length) : (orb w r).Nodup := by
  unfold orb List.Nodup
  rw [List.pairwise_iff_getElem]
  intro i j hi hj hij e
  rw [List.getElem_map, List.getElem_map, List.getElem_range, List.getElem_range] at e
  rw [List.length_map, List.length_range] at hj
  have e2 : it w j r = it w i (it w (j - i) r) := by rw [← it_it]; congr 1; omega
  rw [e2] at e
  have := it_inj W i e
  rw [Int.emod_eq_of_lt h0 h1] at this
  exact (per_ok W h0 h1).2.2.2 (j - i) (by omega) (by omega) this.symm
theorem self_orb (W : Win w) {r : Int} (h0 : 0 ≤ r) (h1 : r < w.length) : r ∈ orb w r := (mem_orb W h0 h1).mpr ⟨0, (Int.emod_eq_of_lt h0 h1).symm⟩
/-- from any place on the line, the whole round moves by the drift -/
theorem round_moves (W : Win w) {r c k : Int} (h0 : 0 ≤ r) (h1 : r < w.length) (h : c ∈ orb w r) : it w (per w r) (c + w.length * k) = c + w.length * k + w.length * drift w r := by
  obtain ⟨a, ha, rfl⟩ := List.mem_map.mp h
  rw [it_add]
  have e1 : it w a r % w.length + w.length * (it w a r / w.length) = it w a r := by
    have := Int.mul_ediv_add_emod (it w a r) w.length
    omega
  have e2 : it w (per w r) (it w a r) = it w a r + w.length * drift w r := by
    rw [← it_it, Nat.add_comm, it_it, drift_ok W h0 h1, it_add]
  have e3 : it w (per w r) (it w a r) = it w (per w r) (it w a r % w.length) + w.length * (it w a r / w.length) := by
    rw [← it_add, e1]
  omega
/-- the rounds of the rests below k -/
def rounds (w : List Int) : Nat → List Int
  | 0 => []
  | k + 1 => if (rounds w k).any (fun r => decide ((k : Int) ∈ orb w r)) = true then rounds w k else rounds w k ++ [(k : Int)]
structure Rds (w : List Int) (k : Nat) (rs : List Int) : Prop where
  rng : ∀ r ∈ rs, 0 ≤ r ∧ r < k
  all : ∀ x : Int, 0 ≤ x → x < k → ∃ r ∈ rs, x ∈ orb w r
  nd : (rs.flatMap (orb w)).Nodup
  low : ∀ r ∈ rs, ∀ c ∈ orb w r, r ≤ c
  srt : rs.Pairwise (· < ·)
theorem rounds_ok (W : Win w) : ∀ k, k ≤ w.length → Rds w k (rounds w k)
  | 0, _ => by
    unfold rounds
    exact ⟨fun r h => by simp at h, fun x h0 h1 => by omega, List.nodup_nil, fun r h => by simp at h, List.Pairwise.nil⟩
  | k + 1, hk => by
    have I := rounds_ok W k (by omega)
    have k0 : (0 : Int) ≤ k := by omega
    have k1 : (k : Int) < w.length := by omega
    unfold rounds
    by_cases e : (rounds w k).any (fun r => decide ((k : Int) ∈ orb w r)) = true
    · rw [if_pos e]
      obtain ⟨r, hr, hk'⟩ := List.any_eq_true.mp e
      refine ⟨fun r h => by have := I.rng r h; omega, fun x h0 h1 => ?_, I.nd, I.low, I.srt⟩
      by_cases z : x = k
      · exact ⟨r, hr, by rw [z]; simpa using hk'⟩
      · exact I.all x h0 (by omega)
    · rw [if_neg e]
      have no : ∀ r ∈ rounds w k, (k : Int) ∉ orb w r := fun r hr hm => e (List.any_eq_true.mpr ⟨r, hr, by simpa using hm⟩)
      have off : ∀ r ∈ rounds w k, ∀ c ∈ orb w r, c ∉ orb w k := fun r hr c hc hm => by
        have q := I.rng r hr
        exact no r hr (orb_trans W q.1 (by omega) hc (orb_symm W k0 k1 hm))
      refine ⟨fun r h => ?_, fun x h0 h1 => ?_, ?_, fun r h c hc => ?_, ?_⟩
      · rcases List.mem_append.mp h with h | h
        · have := I.rng r h; omega
        · have := List.mem_singleton.mp h; omega
      · by_cases z : x = k
        · exact ⟨k, by simp, by rw [z]; exact self_orb W k0 k1⟩
        · obtain ⟨r, hr, hx⟩ := I.all x h0 (by omega)
          exact ⟨r, by simp [hr], hx⟩
      · rw [List.flatMap_append, List.nodup_append]
        refine ⟨I.nd, by simpa using orb_nodup W k0 k1, fun a ha b hb z => ?_⟩
        obtain ⟨r, hr, hc⟩ := List.mem_flatMap.mp ha
        have hb' : b ∈ orb w k := by simpa using hb
        exact off r hr a hc (z ▸ hb')
      · rcases List.mem_append.mp h with h | h
        · exact I.low r h c hc
        · have er := List.mem_singleton.mp h
          subst er
          refine Classical.byContradiction fun z => ?_
          have hr := orb_range W hc
          obtain ⟨r', hr', hx⟩ := I.all c hr.1 (by omega)
          exact off r' hr' c hx hc
      · rw [List.pairwise_append]
        refine ⟨I.srt, List.pairwise_singleton _ _, fun a ha b hb => ?_⟩
        have := I.rng a ha
        have := List.mem_singleton.mp hb
        omega
theorem rounds_cells (W : Win w) : ((rounds w w.length).flatMap (orb w)).Perm (cells w.length) := by
  have I := rounds_ok W w.length (Nat.le_refl _)
  rw [List.perm_ext_iff_of_nodup I.nd (nodup_cells _)]
  intro a
  rw [mem_cells, List.mem_flatMap]
  constructor
  · rintro ⟨r, _, h⟩; exact orb_range W h
  · rintro ⟨h0, h1⟩; exact I.all a h0 h1
theorem perm_sum {α : Type} (h : α → Int) {a b : List α} (p : a.Perm b) : (a.map h).sum = (b.map h).sum := by
  induction p with
  | nil => rfl
  | cons x _ ih => simp only [List.map_cons, List.sum_cons, ih]
  | swap x y l => simp only [List.map_cons, List.sum_cons]; omega
  | trans _ _ a b => exact a.trans b
theorem tele (x : Int) : ∀ k, it w k x - x = ((List.range k).map fun i => w.getD (it w i x % w.length).toNat 0 - it w i x % w.length).sum
  | 0 => by simp [it]
  | k + 1 => by
    rw [List.range_succ, List.map_append, List.sum_append, ← tele x k]
    simp only [List.map_cons, List.map_nil, List.sum_cons, List.sum_nil]
    show nx w (it w k x) - x = _
    unfold nx
    omega
theorem drift_sum (W : Win w) {r : Int} (h0 : 0 ≤ r) (h1 : r < w.length) : w.length * drift w r = ((orb w r).map fun c => w.getD c.toNat 0 - c).sum := by
  have h := drift_ok W h0 h1
  have t := tele (w := w) r (per w r)
  unfold orb
  rw [List.map_map]
  have e : ((fun c : Int => w.getD c.toNat 0 - c) ∘ fun i => it w i r % (w.length : Int)) = fun i => w.getD (it w i r % w.length).toNat 0 - it w i r % w.length := rfl
  rw [e, ← t]
  omega
theorem sum_flat (h : Int → Int) : ∀ rs : List Int, ((rs.flatMap (orb w)).map h).sum = (rs.map fun r => ((orb w r).map h).sum).sum
  | [] => rfl
  | r :: rs => by
    rw [List.flatMap_cons, List.map_append, List.sum_append, sum_flat h rs, List.map_cons, List.sum_cons]
theorem getD_all (l : List Int) : (cells l.length).map (fun c => l.getD c.toNat 0) = l := by
  apply List.ext_getElem?
  intro i
  unfold cells
  rw [List.map_map, List.getElem?_map]
  by_cases h : i < l.length
  · rw [List.getElem?_range h]
    simp [h]
  · rw [List.getElem?_eq_none (by simpa using h), List.getElem?_eq_none (by omega)]
    rfl
theorem sum_sub (f g : Int → Int) : ∀ l : List Int, (l.map fun c => f c - g c).sum = (l.map f).sum - (l.map g).sum
  | [] => rfl
  | a :: l => by simp only [List.map_cons, List.sum_cons, sum_sub f g l]; omega
theorem mul_sum (n : Int) (f : Int → Int) : ∀ l : List Int, n * (l.map f).sum = (l.map fun x => n * f x).sum
  | [] => by simp
  | a :: l => by simp only [List.map_cons, List.sum_cons, Int.mul_add, mul_sum n f l]
theorem drifts_all (W : Win w) : w.length * ((rounds w w.length).map (drift w)).sum = w.sum - (cells w.length).sum := by
  have I := rounds_ok W w.length (Nat.le_refl _)
  have e : (rounds w w.length).map (fun r => w.length * drift w r) = (rounds w w.length).map fun r => ((orb w r).map fun c => w.getD c.toNat 0 - c).sum := by
    apply List.map_congr_left
    intro r hr
    have := I.rng r hr
    exact drift_sum W this.1 this.2
  rw [mul_sum, e, ← sum_flat, perm_sum _ (rounds_cells W), sum_sub]
  rw [getD_all]
  simp
/-- bounds -/
theorem it_big {B : Nat} (hB : ∀ x ∈ w, x.natAbs ≤ B) (W : Win w) (x : Int) : ∀ k, (it w k x).natAbs ≤ x.natAbs + k * (B + w.length)
  | 0 => by simp [it]
  | k + 1 => by
    have ih := it_big hB W x k
    show (nx w (it w k x)).natAbs ≤ _
    unfold nx
    have m := md W (it w k x)
    have hl : (it w k x % w.length).toNat < w.length := by omega
    have hb : (w.getD (it w k x % w.length).toNat 0).natAbs ≤ B := by
      rw [List.getD_eq_getElem?_getD, List.getElem?_eq_getElem hl]
      exact hB _ (List.getElem_mem hl)
    rw [Nat.add_mul, Nat.one_mul]
    generalize w.getD (it w k x % w.length).toNat 0 = y at hb ⊢
    omega
/-- two sorted lists of the same things -/
theorem sorted_eq : ∀ {a b : List Int}, a.Perm b → a.Pairwise (· ≤ ·) → b.Pairwise (· ≤ ·) → a = b := fun p ha hb => p.eq_of_pairwise (fun a b _ _ h1 h2 => by omega) ha hb
theorem cells_sorted (n : Nat) : (cells n).Pairwise (· ≤ ·) := by
  unfold cells
  refine List.Pairwise.map _ (fun a b h => ?_) List.pairwise_lt_range
  omega
end
end M

/-! windows as maps of all places: made, undone, one on the other, pushed -/
namespace M
/-- all places moved alike each n on -/
def Per (n : Nat) (f : Int → Int) : Prop := ∀ x k, f (x + n * k) = f x + n * k
def mk (n : Nat) (f : Int → Int) : List Int := (cells n).map f
theorem mk_length {n : Nat} {f : Int → Int} : (mk n f).length = n := by unfold mk cells; rw [List.length_map, List.length_map, List.length_range]
theorem cells_get {n i : Nat} (h : i < n) : (cells n)[i]? = some (i : Int) := by
  unfold cells
  rw [List.getElem?_map, List.getElem?_range h]; rfl
theorem mk_getD {n : Nat} {f : Int → Int} {x : Int} (h0 : 0 ≤ x) (h1 : x < n) : (mk n f).getD x.toNat 0 = f x := by
  unfold mk
  rw [List.getD_eq_getElem?_getD, List.getElem?_map, cells_get (by omega)]
  show f _ = f x
  congr 1; omega
theorem nx_mk {n : Nat} {f : Int → Int} (hn : 0 < n) (P : Per n f) (x : Int) : nx (mk n f) x = f x := by
  have h0 : 0 ≤ x % n := Int.emod_nonneg _ (by omega)
  have h1 : x % n < n := Int.emod_lt_of_pos _ (by omega)
  unfold nx
  rw [mk_length, mk_getD h0 h1]
  have e : x = x % n + n * (x / n) := by have := Int.mul_ediv_add_emod x n; omega
  have q := P (x % n) (x / n)
  rw [← e] at q
  omega
theorem per_nx (w : List Int) : Per w.length (nx w) := fun x k => nx_add
theorem mk_nx (w : List Int) : mk w.length (nx w) = w := by
  have e : mk w.length (nx w) = (cells w.length).map fun c => w.getD c.toNat 0 := by
    apply List.map_congr_left
    intro c hc
    rw [mem_cells] at hc
    unfold nx
    rw [Int.emod_eq_of_lt hc.1 hc.2]; omega
  rw [e, getD_all]
theorem ext_nx {v w : List Int} (hl : v.length = w.length) (h : ∀ x, nx v x = nx w x) : v = w := by
  rw [← mk_nx v, ← mk_nx w, hl]
  apply List.map_congr_left
  intro c _; exact h c
/-- so many different ones below n are all -/
theorem all_cells {n : Nat} {l : List Int} (nd : l.Nodup) (h : ∀ x ∈ l, 0 ≤ x ∧ x < n) (hl : l.length = n) : l.Perm (cells n) := by
  rw [List.perm_ext_iff_of_nodup nd (nodup_cells n)]
  intro a
  rw [mem_cells]
  refine ⟨h a, fun ha => Classical.byContradiction fun hn => ?_⟩
  have := few n (a :: l) (List.nodup_cons.mpr ⟨hn, nd⟩) fun x hx => by
    rcases List.mem_cons.mp hx with rfl | hx
    · exact ha
    · exact h x hx
  rw [List.length_cons] at this
  omega
theorem win_mk {n : Nat} {f : Int → Int} (hn : 0 < n) (inj : ∀ a b : Int, 0 ≤ a → a < n → 0 ≤ b → b < n → f a % n = f b % n → a = b) : Win (mk n f) := by
  refine ⟨by rw [mk_length]; exact hn, ?_⟩
  rw [mk_length]
  refine all_cells ?_ (fun x hx => ?_) (by rw [List.length_map, mk_length])
  · unfold mk cells List.Nodup
    rw [List.map_map, List.map_map, List.pairwise_iff_getElem]
    intro i j hi hj hij e
    rw [List.getElem_map, List.getElem_map, List.getElem_range, List.getElem_range] at e
    rw [List.length_map, List.length_range] at hj
    have := inj i j (by omega) (by omega) (by omega) (by omega) e
    omega
  · obtain ⟨y, _, rfl⟩ := List.mem_map.mp hx
    exact ⟨Int.emod_nonneg _ (by omega), Int.emod_lt_of_pos _ (by omega)⟩
theorem nx_inj0 (W : Win w) {a b : Int} (h : nx w a = nx w b) : a = b := by
  have e := nx_inj W (by rw [h] : nx w a % w.length = nx w b % w.length)
  unfold nx at h
  rw [e] at h
  have := Int.mul_ediv_add_emod a w.length
  have := Int.mul_ediv_add_emod b w.length
  omega
/-- the rest whose number is as y -/
def bkr (w : List Int) (y : Int) : Int := (((List.range w.length).filter fun i => decide ((w.getD i 0 - y) % w.length = 0)).headD 0 : Nat)
def bk (w : List Int) (y : Int) : Int := bkr w y + y - w.getD (bkr w y).toNat 0
theorem sub_mod_zero {a b n : Int} : (a - b) % n = 0 ↔ a % n = b % n := by
  constructor
  · intro h
    have := Int.emod_emod_of_dvd
    have e : a = b + n * ((a - b) / n) := by have := Int.mul_ediv_add_emod (a - b) n; omega
    rw [e, Int.add_mul_emod_self_left]
  · intro h
    rw [Int.sub_emod, h]; simp
theorem bk_list (W : Win w) (y : Int) : ∃ i : Nat, i < w.length ∧ (w.getD i 0 - y) % w.length = 0 ∧ ((List.range w.length).filter fun i => decide ((w.getD i 0 - y) % w.length = 0)) = [i] := by
  have hn := W.pos
  have hy : y % w.length ∈ cells w.length := mem_cells.mpr (md W y)
  obtain ⟨v, hv, e⟩ := List.mem_map.mp (W.perm.mem_iff.mpr hy)
  obtain ⟨i, hi, ei⟩ := List.getElem_of_mem hv
  have hg : w.getD i 0 = v := by rw [List.getD_eq_getElem?_getD, List.getElem?_eq_getElem hi, ← ei]; rfl
  have nd : (w.map fun x => x % (w.length : Int)).Nodup := W.perm.nodup_iff.mpr (nodup_cells _)
  have uniq : ∀ j, j < w.length → ((w.getD j 0 - y) % w.length = 0) → j = i := fun j hj h => by
    rw [sub_mod_zero] at h
    have e2 : (w.map fun x => x % (w.length : Int))[j]'(by rw [List.length_map]; exact hj) = (w.map fun x => x % (w.length : Int))[i]'(by rw [List.length_map]; exact hi) := by
      rw [List.getElem_map, List.getElem_map, ei, e, ← h, List.getD_eq_getElem?_getD, List.getElem?_eq_getElem hj]; rfl
    exact (List.getElem_inj nd).mp e2
  have h0 : (w.getD i 0 - y) % w.length = 0 := by rw [sub_mod_zero, hg, e]
  refine ⟨i, hi, h0, ?_⟩
  have mem : ∀ j, j ∈ ((List.range w.length).filter fun i => decide ((w.getD i 0 - y) % w.length = 0)) ↔ j = i := fun j => by
    rw [List.mem_filter, List.mem_range]
    constructor
    · rintro ⟨a, b⟩; exact uniq j a (by simpa using b)
    · rintro rfl; exact ⟨hi, by simpa using h0⟩
  have nd2 : ((List.range w.length).filter fun i => decide ((w.getD i 0 - y) % w.length = 0)).Nodup := List.nodup_range.filter _
  have p : ((List.range w.length).filter fun i => decide ((w.getD i 0 - y) % w.length = 0)).Perm [i] := by
    rw [List.perm_ext_iff_of_nodup nd2 (by simp)]
    intro a; rw [mem]; simp
  exact List.perm_singleton.mp p
theorem bkr_ok (W : Win w) (y : Int) : 0 ≤ bkr w y ∧ bkr w y < w.length ∧ (w.getD (bkr w y).toNat 0 - y) % w.length = 0 := by
  obtain ⟨i, hi, h0, e⟩ := bk_list W y
  unfold bkr
  rw [e]
  refine ⟨by simp, by simpa using hi, by simpa using h0⟩
theorem nx_bk (W : Win w) (y : Int) : nx w (bk w y) = y := by
  obtain ⟨h0, h1, h2⟩ := bkr_ok W y
  have e : bk w y % w.length = bkr w y := by
    have q := Int.mul_ediv_add_emod (w.getD (bkr w y).toNat 0 - y) w.length
    have e2 : bk w y = bkr w y + w.length * (- ((w.getD (bkr w y).toNat 0 - y) / w.length)) := by
      unfold bk
      rw [Int.mul_neg]
      omega
    rw [e2, Int.add_mul_emod_self_left]
    exact Int.emod_eq_of_lt h0 h1
  unfold nx
  rw [e]
  unfold bk
  omega
theorem bk_nx (W : Win w) (x : Int) : bk w (nx w x) = x := nx_inj0 W (nx_bk W _)
theorem bk_eq (W : Win w) {x y : Int} (h : nx w x = y) : bk w y = x := by rw [← h]; exact bk_nx W x
theorem per_bk (W : Win w) : Per w.length (bk w) := fun y k => bk_eq W (by rw [nx_add, nx_bk W])
theorem win_bk (W : Win w) : Win (mk w.length (bk w)) := win_mk W.pos fun a b a0 a1 b0 b1 h => by
  have e : nx w (bk w a) % w.length = nx w (bk w b) % w.length := nx_congr W h
  rw [nx_bk W, nx_bk W, Int.emod_eq_of_lt a0 a1, Int.emod_eq_of_lt b0 b1] at e
  exact e
theorem nx_undone (W : Win w) (x : Int) : nx (mk w.length (bk w)) x = bk w x := nx_mk W.pos (per_bk W) x
theorem per_on {u v : List Int} (h : u.length = v.length) : Per u.length fun x => nx u (nx v x) := fun x k => by
  show nx u (nx v (x + u.length * k)) = _
  rw [h, nx_add, ← h, nx_add]
theorem win_on {u v : List Int} (U : Win u) (V : Win v) (h : u.length = v.length) : Win (v.map (nx u)) ∧ (v.map (nx u)).length = u.length ∧ ∀ x, nx (v.map (nx u)) x = nx u (nx v x) := by
  have e : v.map (nx u) = mk u.length fun x => nx u (nx v x) := by
    have : v.map (nx u) = (mk v.length (nx v)).map (nx u) := by rw [mk_nx]
    rw [this, h]
    unfold mk
    rw [List.map_map]; rfl
  rw [e]
  refine ⟨win_mk U.pos fun a b a0 a1 b0 b1 q => ?_, mk_length, nx_mk U.pos (per_on h)⟩
  have q2 := nx_inj U q
  rw [h] at q2
  have q3 := nx_inj V q2
  rw [h] at a1 b1
  rw [Int.emod_eq_of_lt a0 a1, Int.emod_eq_of_lt b0 b1] at q3
  exact q3
theorem win_pushed (W : Win w) (m : Int) : Win (w.map (· + m)) ∧ (w.map (· + m)).length = w.length ∧ ∀ x, nx (w.map (· + m)) x = nx w x + m := by
  have P : Per w.length fun x => nx w x + m := fun x k => by
    show nx w (x + w.length * k) + m = nx w x + m + w.length * k
    rw [nx_add]; omega
  have e : w.map (· + m) = mk w.length fun x => nx w x + m := by
    have : w.map (· + m) = (mk w.length (nx w)).map (· + m) := by rw [mk_nx]
    rw [this]
    unfold mk
    rw [List.map_map]; rfl
  rw [e]
  refine ⟨win_mk W.pos fun a b a0 a1 b0 b1 q => ?_, mk_length, nx_mk W.pos P⟩
  have q2 : nx w a % w.length = nx w b % w.length := by
    have q' : ((nx w a + m) - (nx w b + m)) % (w.length : Int) = 0 := sub_mod_zero.mpr q
    have : (nx w a - nx w b) % (w.length : Int) = 0 := by
      have z : (nx w a + m) - (nx w b + m) = nx w a - nx w b := by omega
      rw [z] at q'; exact q'
    exact sub_mod_zero.mp this
  have q3 := nx_inj W q2
  rw [Int.emod_eq_of_lt a0 a1, Int.emod_eq_of_lt b0 b1] at q3
  exact q3
/-- the push: the whole parts together -/
def push (w : List Int) : Int := (w.map (· / (w.length : Int))).sum
theorem push_sum (W : Win w) : w.length * push w = w.sum - (cells w.length).sum := by
  have e : ∀ l : List Int, ∀ n : Int, n * (l.map (· / n)).sum + (l.map (· % n)).sum = l.sum := fun l n => by
    induction l with
    | nil => simp
    | cons a l ih =>
      simp only [List.map_cons, List.sum_cons, Int.mul_add]
      have := Int.mul_ediv_add_emod a n
      omega
  have h1 := e w w.length
  have h2 : (w.map (· % (w.length : Int))).sum = (cells w.length).sum := by
    have h := perm_sum (fun x : Int => x) W.perm
    rw [List.map_id', List.map_id'] at h
    exact h
  unfold push
  omega
theorem push_drifts (W : Win w) : ((rounds w w.length).map (drift w)).sum = push w := by
  have h1 := drifts_all W
  have h2 := push_sum W
  have hn := W.pos
  have e : (w.length : Int) * ((rounds w w.length).map (drift w)).sum = w.length * push w := by omega
  exact Int.eq_of_mul_eq_mul_left (by omega) e
theorem nx_big {B : Nat} (W : Win w) (hB : ∀ x ∈ w, x.natAbs ≤ B) (x : Int) : (nx w x).natAbs ≤ x.natAbs + (B + w.length) := by
  have := it_big hB W x 1
  rw [Nat.one_mul] at this
  exact this
theorem bk_big {B : Nat} (W : Win w) (hB : ∀ x ∈ w, x.natAbs ≤ B) (x : Int) : (bk w x).natAbs ≤ x.natAbs + (B + w.length) := by
  obtain ⟨h0, h1, _⟩ := bkr_ok W x
  have hb : (w.getD (bkr w x).toNat 0).natAbs ≤ B := by
    rw [List.getD_eq_getElem?_getD, List.getElem?_eq_getElem (by omega : (bkr w x).toNat < w.length)]
    exact hB _ (List.getElem_mem _)
  unfold bk
  generalize w.getD (bkr w x).toNat 0 = y at hb ⊢
  omega
end M

/-! what the defs of the windows, the rounds and the draws promise -/
namespace W
open PySem PySem.Spec PyProof.Rows L2 Dw M
/-- the source is made -/
def spSrc (K : PySem.W.Frag) : Sp := fun vs H Q _ => ∃ (s : Addr) (ns : List Int), vs = [.ref s] ∧ SqL K H s (ns.map V.int) ∧ ns.length ≤ 63 ∧
  ∀ a c H', H a = none → H c = none → a ≠ c → (∀ b o, H b = some o → H' b = some o) → SrcOk (some (a, c)) H' → Q (.ref a) H'
abbrev encR (w : List Int) (r : Int) : D := .tup [.tup ((orb w r).map .int), .int (drift w r)]
def fsAt : FS := fun _ ds R => ∃ w x, ds = [.tup (w.map .int), .int x] ∧ Win w ∧ R (.int (nx w x))
def fsRound : FS := fun _ ds R => ∃ w r, ds = [.tup (w.map .int), .int r] ∧ Win w ∧ w.length ≤ 64 ∧ 0 ≤ r ∧ r < w.length ∧ R (encR w r)
def fsRounds : FS := fun _ ds R => ∃ w, ds = [.tup (w.map .int)] ∧ Win w ∧ w.length ≤ 64 ∧ R (.tup ((rounds w w.length).map (encR w)))
theorem small_div {i j : Int} (h0 : 0 < j) (h1 : j ≤ 1000) : CDivD i j := ⟨h0, Nat.lt_of_le_of_lt (show j.natAbs ≤ 1000 by omega) (by decide +kernel)⟩
theorem rounds_len (w : List Int) : ∀ k, (rounds w k).length ≤ k
  | 0 => Nat.le_refl _
  | k + 1 => by
    have := rounds_len w k
    unfold rounds
    split
    · omega
    · simp; omega
theorem orb_len {w : List Int} (W : Win w) {r : Int} (h0 : 0 ≤ r) (h1 : r < w.length) : (orb w r).length ≤ w.length := by
  unfold orb
  rw [List.length_map, List.length_range]
  exact (per_ok W h0 h1).2.1
theorem has_ones (l : List Int) (x : Int) : hasK (l.map fun y => ((Sum.inl y : Key), D.bl true)) (.inl x) = decide (x ∈ l) := by
  unfold hasK
  rw [List.any_map]
  induction l with
  | nil => rfl
  | cons a l ih =>
    rw [List.any_cons, ih]
    by_cases e : a = x
    · subst e; simp
    · have e2 : ¬ x = a := fun z => e z.symm
      have e3 : ¬ ((Sum.inl a : Key) = Sum.inl x) := fun z => e (by injection z)
      simp [Function.comp, e, e2]
theorem any_ones (w : List Int) (x : Int) (l : List Int) : ((l.filter fun r => decide (x ∈ orb w r)).map fun _ => D.int 1).isEmpty = !(l.any fun r => decide (x ∈ orb w r)) := by
  induction l with
  | nil => rfl
  | cons a l ih =>
    rw [List.filter_cons, List.any_cons]
    by_cases h : x ∈ orb w a
    · simp [h]
    · simp only [h, decide_false, Bool.false_or]
      exact ih
def lineAt (w : List Int) (r : Int) (m : Nat) : List D := (List.range m).map fun i => .int (it w i r % w.length)
theorem rg_cells (n : Nat) : rg 0 (n : Int) = cells n := by
  unfold rg cells
  have e : ((n : Int) - 0).toNat = n := by omega
  rw [e]
  apply List.map_congr_left
  intro i _
  omega
theorem rg_turned {n : Nat} (h : 1 ≤ n) : (rg 1 (n : Int) ++ [0]).Perm (rg 0 (n : Int)) := by
  have e : rg 0 (n : Int) = 0 :: rg 1 (n : Int) := by
    unfold rg
    have e1 : ((n : Int) - 0).toNat = (n - 1) + 1 := by omega
    have e2 : ((n : Int) - 1).toNat = n - 1 := by omega
    rw [e1, e2, List.range_succ_eq_map, List.map_cons, List.map_map]
    congr 1
    apply List.map_congr_left
    intro i _
    show (0 : Int) + ((i + 1 : Nat) : Int) = 1 + i
    omega
  rw [e]
  exact List.perm_append_comm
theorem big_mul {i j : Int} (h1 : i.natAbs ≤ 10 ^ 300) (h2 : j.natAbs ≤ 10 ^ 300) : CMulD i j :=
  .inr ⟨Nat.lt_of_le_of_lt h1 (by decide +kernel), Nat.lt_of_le_of_lt h2 (by decide +kernel)⟩
theorem small300 {i : Int} (h : i.natAbs ≤ 1000000) : i.natAbs ≤ 10 ^ 300 := Nat.le_trans h (by decide +kernel)
/-- a window drawn: each rest moved by some whole times n * far -/
theorem win_of {n far : Int} {zs ys : List Int} (h1 : 1 ≤ n) (h8 : n ≤ 8) (hz : zs.Perm (rg 0 n)) (hf : far.natAbs ≤ 10 ^ 290) (h : All2 (fun x y => ∃ k : Int, -3 ≤ k ∧ k ≤ 3 ∧ y = x + n * far * k) zs ys) : Win ys ∧ (ys.length : Int) = n ∧ ∀ x ∈ ys, x.natAbs ≤ 10 ^ 300 := by
  have hl : (ys.length : Int) = n := by
    rw [← h.length, hz.length_eq, rg_length]; omega
  have hm : ∀ x ∈ zs, 0 ≤ x ∧ x < n := fun x hx => mem_rg.mp (hz.mem_iff.mp hx)
  have em : ys.map (fun x => x % n) = zs := by
    clear hz hl
    induction h with
    | nil => rfl
    | cons a _ ih =>
      obtain ⟨k, _, _, rfl⟩ := a
      rw [List.map_cons, ih fun x hx => hm x (by simp [hx])]
      congr 1
      rw [Int.mul_assoc, Int.add_mul_emod_self_left]
      have := hm _ (List.mem_cons_self ..)
      exact Int.emod_eq_of_lt this.1 this.2
  refine ⟨⟨by omega, ?_⟩, hl, ?_⟩
  · rw [hl, em, ← rg_cells, hl]; exact hz
  · clear hl em hz
    induction h with
    | nil => intro x hx; cases hx
    | cons a _ ih =>
      intro x hx
      rcases List.mem_cons.mp hx with rfl | hx
      · obtain ⟨k, k1, k2, rfl⟩ := a
        have b := hm _ (List.mem_cons_self ..)
        have e : (n * far * k).natAbs ≤ 8 * 10 ^ 290 * 3 := by
          rw [Int.natAbs_mul, Int.natAbs_mul]
          exact Nat.mul_le_mul (Nat.mul_le_mul (by omega) hf) (by omega)
        have e2 : 8 * 10 ^ 290 * 3 + 8 ≤ 10 ^ 300 := by decide +kernel
        generalize n * far * k = z at e ⊢
        generalize 8 * 10 ^ 290 * 3 = u at e e2
        generalize 10 ^ 300 = v at e2 ⊢
        omega
      · exact ih (fun y hy => hm y (by simp [hy])) x hx
theorem far_text : PySem.intText? (("1" : Str) ++ ⟨(List.replicate (290 : Int).toNat ("0" : Str).cps).foldl (· ++ ·) #[]⟩) = some ((10 : Int) ^ 290) := by decide +kernel
theorem far_len : (("1" : Str) ++ ⟨(List.replicate (290 : Int).toNat ("0" : Str).cps).foldl (· ++ ·) #[]⟩).length ≤ 640 := by decide +kernel
theorem zero_len : (Str.mk ((List.replicate (290 : Int).toNat ("0" : Str).cps).foldl (· ++ ·) #[])).length ≤ 100 * 100 := by decide +kernel
end W

/-! what the defs of the windows promise -/
namespace W
open PySem PySem.Spec PyProof.Rows L2 Dw M
structure Lines (mg : Str → Option Value) : Prop where
  bits : ∃ t, mg "SURE_BITS" = some (.int 997 t)
  figs : ∃ t, mg "MOST_FIGURES" = some (.int 300 t)
def fsLong : FS := fun _ ds R => ∃ x : Int, ds = [.int x] ∧ x.natAbs < 10 ^ 300 ∧ R (.bl false)
def fsNotLong : FS := fun _ ds R => ∃ (d : D) (xs : List Int), ds = [d] ∧ (d = .tup (xs.map .int) ∨ d = .lst (xs.map .int)) ∧ xs.length ≤ 1000 ∧ (∀ x ∈ xs, x.natAbs < 10 ^ 300) ∧ R d
def fsBack : FS := fun _ ds R => ∃ w y, ds = [.tup (w.map .int), .int y] ∧ Win w ∧ w.length ≤ 1000 ∧ R (.int (bk w y))
def fsPush : FS := fun _ ds R => ∃ w : List Int, ds = [.tup (w.map .int)] ∧ 0 < w.length ∧ w.length ≤ 1000 ∧ R (.int (push w))
def fsOn : FS := fun _ ds R => ∃ u v : List Int, ds = [.tup (u.map .int), .tup (v.map .int)] ∧ Win u ∧ v.length ≤ 1000 ∧ (∀ x ∈ v, (nx u x).natAbs < 10 ^ 300) ∧ R (.tup ((v.map (nx u)).map .int))
def fsUndone : FS := fun _ ds R => ∃ w : List Int, ds = [.tup (w.map .int)] ∧ Win w ∧ w.length ≤ 1000 ∧ (∀ x ∈ cells w.length, (bk w x).natAbs < 10 ^ 300) ∧ R (.tup ((mk w.length (bk w)).map .int))
def fsPushed : FS := fun _ ds R => ∃ (w : List Int) (m : Int), ds = [.tup (w.map .int), .int m] ∧ w.length ≤ 1000 ∧ (∀ x ∈ w, (x + m).natAbs < 10 ^ 300) ∧ R (.tup ((w.map (· + m)).map .int))
theorem bits_few {x : Int} (h : x.natAbs < 10 ^ 300) : Builtin.Int.intBits x ≤ 997 := intBits_le_iff.mpr (Nat.lt_trans h (by decide +kernel))
theorem abs_same (x : Int) : (if x < 0 then -x else x).natAbs = x.natAbs := by split <;> omega
theorem log_few {x : Int} (h : x.natAbs < 10 ^ 300) : (if x < 0 then -x else x).natAbs.log2 < 1920 := by
  rw [abs_same]
  by_cases e : x.natAbs = 0
  · rw [e]; decide
  · exact (Nat.log2_lt e).mpr (Nat.lt_trans h (by decide +kernel))
theorem figs_few {x : Int} (h : x.natAbs < 10 ^ 300) : (Str.ofString (toString (if x < 0 then -x else x))).length ≤ 300 := by
  rw [PySem.ofString_length]
  have e : (if x < 0 then -x else x) = Int.ofNat x.natAbs := by
    show _ = ((x.natAbs : Nat) : Int)
    split <;> omega
  rw [e]
  have e2 : toString (Int.ofNat x.natAbs) = Nat.repr x.natAbs := rfl
  rw [e2]
  exact (Nat.length_repr_le_iff (by decide)).mpr h
end W

/-! an if that is not taken; texts shown -/
namespace Dw
open PySem PySem.Spec PyProof.Rows L2
section
variable {X : Cx} {G : Gx} {ρ : List Sl} {E : DEnds} {e : Expr} {sts sts2 : List Stmt} {pos : Pos} {c : Bool}
theorem ds_ifF (h : DT X G ρ e fun t => t = false) (k : DSs X G ρ sts2 E) : DS X G ρ (.If e sts sts2 pos) E := ds_if (h.imp fun t q => by subst q; exact k)
/-- the value is forgotten, but for P -/
theorem de_cut {Q : D → Prop} (P : D → Prop) (h : DE X G ρ c e P) (k : ∀ d, P d → Q d) : DE X G ρ c e Q := h.imp k
end
theorem Rok.str {n : Nat} {x : Str} (h1 : PyData.strOk x = true) (h2 : (x.cps.toList.all fun c => decide (c < 16 ^ 8)) = true) : Rok n x.cps.size (.str x) := by
  refine ⟨by cases n <;> exact h1, rfl, ?_, Nat.le_refl _⟩
  simp only [D.py, PyData.leavesShort]
  exact h2
theorem eqD_bl {a b : Bool} : eqD (.bl a) (.bl b) = (a == b) := by
  show PyData.eqv (.bool a) (.bool b) = _
  simp only [PyData.eqv]
theorem eqvAll_ints : ∀ u v : List Int, PyData.eqvAll (pyAll (u.map D.int)) (pyAll (v.map D.int)) = decide (u = v)
  | [], [] => by simp [pyAll, PyData.eqvAll]
  | [], b :: v => by simp [pyAll, PyData.eqvAll]
  | a :: u, [] => by simp [pyAll, PyData.eqvAll]
  | a :: u, b :: v => by
    have ih := eqvAll_ints u v
    simp only [List.map_cons, pyAll, D.py, PyData.eqvAll, PyData.eqv, ih]
    rw [Bool.eq_iff_iff]
    simp
theorem eqD_tints {u v : List Int} : eqD (.tup (u.map D.int)) (.tup (v.map D.int)) = decide (u = v) := by
  show PyData.eqv (.tuple _) (.tuple _) = _
  simp only [PyData.eqv]
  exact eqvAll_ints u v
theorem eqD_lints {u v : List Int} : eqD (.lst (u.map D.int)) (.lst (v.map D.int)) = decide (u = v) := by
  show PyData.eqv (.list _) (.list _) = _
  simp only [PyData.eqv]
  exact eqvAll_ints u v
end Dw

/-! gcd by its imported name -/
namespace Dw
open PySem PySem.Spec PyProof.Rows L2
section
variable {X : Cx} {G : Gx} {ρ : List Sl} {c : Bool} {Q : D → Prop} {e a b : Expr} {es : List Expr} {pos p : Pos}
def gcdD : List D → (D → Prop) → Prop
  | [.int a, .int b], Q => Q (.int ((Nat.gcd a.natAbs b.natAbs : Nat) : Int))
  | _, _ => False
theorem de_gcd {x : Str} (hm : X.mg x = some (.builtin "math.gcd")) (h : DA X G ρ false [e, a] fun ds => gcdD ds Q) (hg : Gl X x := by rfl) (hd : (x == ("__debug__" : Str)) = false := by decide)
    (he : starEach [e, a] X.env = (false, eval e X.env) :: starEach [a] X.env := by rfl) (hpl : (backTo pos (starEach [a] X.env)).any (·.1) = false := by rfl) : DE X G ρ c (.Call (.Name x p) [e, a] [] pos) Q := fun σ H I Q' U =>
  sem_of (t := tCB rGcd (aSem X [e, a])) ⟨fun pins s σ H Q I hh => wpAny_Call_Name_kw (ld_glob I hg hm (PyProof.Rows.callWith_builtin1 (thn (hh pos pins s I) fun us s1 ⟨vs, H1, I1, r1, q1⟩ => cr_gcd pins s1 σ H1 vs us Q I1 r1 q1) he hpl) hd)⟩ (h σ H I _ fun vs H1 ds k s r q => by
    replace q : gcdD ds Q := q
    unfold gcdD at q
    split at q
    · obtain ⟨v, u, rfl, r1, r2⟩ := r.twoI
      cases r1; cases r2
      exact ⟨_, _, rfl, (U.later k).int s q⟩
    · exact q.elim)
end
theorem atI_last {xs : List D} {d : D} : atI (xs ++ [d]) (-1) = some d := by
  have h : ixN (xs ++ [d]).length (-1) = some xs.length := by
    rw [List.length_append]
    unfold ixN
    simp; omega
  unfold atI
  rw [h]
  show (xs ++ [d])[xs.length]? = _
  simp
end Dw

/-! two names at once, some of which a block inside looks at -/
namespace Dw
open PySem PySem.Spec PyProof.Rows L2
theorem NewAll.kp {K : PySem.W.Frag} {OO : List Addr} {H H' : Hp} (m : ∀ b o, H b = some o → H' b = some o) : ∀ {vs : List V} {ss : List Sl}, NewAll K OO H vs ss → NewAll K OO H' vs ss
  | _, _, .nil => .nil
  | _, _, .cons g r => .cons (g.mv (fun b o n e _ => ⟨n, m b o e⟩) fun b _ o e _ => m b o e) (NewAll.kp m r)
theorem NewAll.len {K : PySem.W.Frag} {OO : List Addr} {H : Hp} : ∀ {vs : List V} {ss : List Sl}, NewAll K OO H vs ss → vs.length = ss.length
  | _, _, .nil => rfl
  | _, _, .cons _ r => by rw [List.length_cons, List.length_cons, NewAll.len r]
section
variable {X : Cx} {G : Gx} {ρ : List Sl} {E : DEnds} {a b c : Expr} {pos : Pos} {x y z : Str}
theorem ds_parC {px py pt : Pos} {kt k2 pt2} (i j : Nat) (hc : X.calm = true) (hN : X.N.Nodup) (h : DP X G ρ [a, b] fun ss => ∃ s1 s2, ss = [s1, s2] ∧ E.nx ((ρ.set i s1).set j s2)) (hi : X.N[i]? = some x := by rfl) (hj : X.N[j]? = some y := by rfl)
    (hx : Loc X.env.scope x := by first | exact Or.inl rfl | exact Or.inr rfl) (hy : Loc X.env.scope y := by first | exact Or.inl rfl | exact Or.inr rfl)
    (hf : X.fn x = true ∨ X.env.scope.names.lookup x = some .local := by first | exact .inl rfl | exact .inr rfl) (hf2 : X.fn y = true ∨ X.env.scope.names.lookup y = some .local := by first | exact .inl rfl | exact .inr rfl)
    (hs : swapsWithSole [.Tuple [.Name x px, .Name y py] kt pt] (.Tuple [a, b] k2 pt2) pos.line X.env = pure false := by rfl) (hw : swappedStores [.Tuple [.Name x px, .Name y py] kt pt] (.Tuple [a, b] k2 pt2) X.env = pure none := by rfl)
    (h1 : (assignEach [.Tuple [.Name x px, .Name y py] kt pt] X.env).map (·.2) = [assign (.Tuple [.Name x px, .Name y py] kt pt) X.env] := by rfl)
    (hn : (assignEach [.Name x px, .Name y py] X.env).length = 2 := by rfl) (hst : (assignEach [.Name x px, .Name y py] X.env).findIdx? (·.1) = none := by rfl) : DS X G ρ (.Assign [.Tuple [.Name x px, .Name y py] kt pt] (.Tuple [a, b] k2 pt2) pos) E := fun σ H I D U =>
  ssem_of (L2.ps_asg (pe_tup pa_sem) (pg_tup (n := 2) hc (pgs_cons (L2.pg_name hN hi hx hf) (pgs_cons (L2.pg_name hN hj hy hf2) pgs_nil)) hn hst) hs hw h1) (h σ H I _ fun vs H1 ss k s fr nd na q => by
    obtain ⟨s1, s2, rfl, q⟩ := q
    cases na with
    | cons a1 na =>
      cases na with
      | cons a2 na =>
        cases na
        rename_i v1 v2
        refine ⟨by show 2 ≤ sizeLine; decide, fun p hp => ?_⟩
        refine ⟨p, _, rfl, .of upd_same, rfl, _, _, rfl, _, _, rfl, rfl, ?_⟩
        have nw := (NewAll.cons a1 (.cons a2 .nil)).kp (H' := upd H1 p (.tup [v1, v2])) fun b o e => by rw [upd_ne (ne_of_none e hp)]; exact e
        exact U.nx _ _ _ (set_new I (k.trans (Kp.new hp)) (s.new hp) fr nd nw).ok q)
end
end Dw

/-! enumerate of a list -/
namespace Dw
open PySem PySem.Spec PyProof.Rows L2
theorem itOk_enumL {K : PySem.W.Frag} {a : Addr} {ds : List D} : ItOk K (Ite K a) (placed ds) [(.ref a, .lst ds)] := fun i H O hp ht => by
  obtain ⟨a', vs, e, ha, _, r⟩ := (hp _ (List.mem_singleton.mpr rfl)).lstI
  cases e
  refine ⟨fun e => ⟨vs, .of ha, by rw [r.length, e]; unfold placed; rw [List.length_mapIdx]; exact Nat.le_refl _⟩, fun d hd => ?_⟩
  unfold placed at hd
  rw [List.getElem?_mapIdx] at hd
  cases ed : ds[i]? with
  | none => rw [ed] at hd; cases hd
  | some d0 =>
    rw [ed] at hd
    cases hd
    obtain ⟨v, hv, rv⟩ := r.getD' ed
    refine ⟨⟨vs, v, .of ha, hv⟩, fun x H' hy => ?_⟩
    obtain ⟨T, u, rfl, hT, rfl, hu⟩ := hy
    have eu : u = v := by
      have := hu vs (.of ha)
      rw [hv] at this
      exact (Option.some.inj this).symm
    subst eu
    have nT : T ∉ O := fun m => by
      obtain ⟨o, e⟩ := ht T m
      rw [hT] at e; cases e
    refine ⟨fun b o e => by rw [upd_ne (ne_of_none e hT)]; exact e, .tup upd_same nT (.cons (.int _) (.cons (rv.mv fun b o n e _ => ⟨n, by rw [upd_ne (ne_of_none e hT)]; exact e⟩) .nil))⟩
def lstOnly : List D → (List D → Prop) → Prop
  | [.lst xs], Q => Q xs
  | _, _ => False
section
variable {X : Cx} {G : Gx} {ρ : List Sl} {e : Expr} {pos p tp : Pos} {elts : List Expr} {kk : Nat}
theorem di_enumL {Q : List D → Prop} (hK : X.K = G.K) (hm : X.mg "enumerate" = none) (h : DA X G ρ true [e] fun ds => lstOnly ds fun xs => Q (placed xs)) (hg : Gl X "enumerate" := by rfl) (hs : starEach [e] X.env = [(false, eval e X.env)] := by rfl) :
    DI X G ρ (.Tuple elts kk tp) (.Call (.Name "enumerate" p) [e] [] pos) Q := fun σ H I R U =>
  ⟨_, pi_enum hg hm pa_sem hs, h σ H I _ fun vs H1 ds k s r q => by
    replace q : lstOnly ds (fun xs => Q (placed xs)) := q
    unfold lstOnly at q
    split at q
    · obtain ⟨v, rfl, r1⟩ := r.oneI
      obtain ⟨a, us, rfl, ha, _, r2⟩ := r1.lstI
      exact ⟨a, us, rfl, .of ha, U (Ite X.K a) H1 _ [(.ref a, .lst _)] k s (fun p hp => by rw [List.mem_singleton.mp hp]; exact ofTrue (O := []) r1) (by rw [hK]; exact itOk_enumL) q⟩
    · exact q.elim⟩
end
end Dw

/-! Dw25: sorted of pairs of ints -/
namespace Dw
open PySem PySem.Spec PyProof.Rows L2
/-- one pair does not stand behind another one -/
def leP (p q : Int × Int) : Prop := p.1 < q.1 ∨ p.1 = q.1 ∧ p.2 ≤ q.2
def prI (p : Int × Int) : D := .tup [.int p.1, .int p.2]
/-- the two ints that an object tells -/
def pairOf (h : Heap) : Value → Int × Int
  | .ref t => match h.get? t with
    | some o => match o.data with
      | .seq its _ => match its.toList with
        | [.int i _, .int j _] => (i, j)
        | _ => (0, 0)
      | _ => (0, 0)
    | none => (0, 0)
  | _ => (0, 0)
theorem pairOf_at {h : Heap} {t : Addr} {i j : Int} {t1 t2 : Tok} (hh : IsTup h t #[.int i t1, .int j t2]) : pairOf h (.ref t) = (i, j) ∧ Srt.IsPair h (.ref t) i j := by
  obtain ⟨o, e1, e2, n, e3⟩ := hh
  refine ⟨?_, t, o, t1, t2, n, rfl, e1, e2, e3⟩
  simp only [pairOf, e1, e3]
def rSortedQ (K : PySem.W.Frag) : List V → Hp → VK → Prop := fun vs H Q => ∃ (a : Addr) (zs : List (V × (Int × Int))), vs = [V.ref a] ∧ SqL K H a (zs.map (·.1)) ∧ (∀ z ∈ zs, ∃ t, z.1 = V.ref t ∧ SqT K H t [.int z.2.1, .int z.2.2]) ∧
  ∀ (ys : List (V × (Int × Int))) (p : Addr), ys.Perm zs → (ys.map (·.2)).Pairwise leP → H p = none → Q (.ref p) (upd H p (.lst (ys.map (·.1))))
section
variable {X : Cx}
theorem cr_sortedQ : CallR X (.builtin "sorted") (rSortedQ X.K) := by
  intro pins s σ H vs us Q I r h
  obtain ⟨a, zs, rfl, hs, hx, q⟩ := h
  obtain ⟨its, rv, hl, hz⟩ := I.list hs
  obtain ⟨u, rfl, ru⟩ := vals1 r
  obtain rfl : u = Value.ref a := ru
  obtain ⟨e1, e2⟩ := L2.refs_back rv fun x m => by
    obtain ⟨z, hz', rfl⟩ := List.mem_map.mp m
    obtain ⟨t, e, _⟩ := hx z hz'
    exact ⟨t, e⟩
  have key : ∀ z ∈ zs, ∀ t, z.1 = V.ref t → pairOf s.heap (.ref t) = z.2 ∧ Srt.IsPair s.heap (.ref t) z.2.1 z.2.2 := fun z hz' t et => by
    obtain ⟨t', e', ht⟩ := hx z hz'
    have : t = t' := by rw [et] at e'; exact V.ref.inj e'
    subst this
    obtain ⟨its2, r2, hT, _⟩ := I.tuple ht
    obtain ⟨u1, u2, rfl, ri, rj⟩ := vals2 r2
    obtain ⟨t1, rfl⟩ := ri
    obtain ⟨t2, rfl⟩ := rj
    exact pairOf_at hT
  have ez : zs = its.map fun u => (L2.backV u, pairOf s.heap u) := by
    have hlen : zs.length = its.length := by
      have := congrArg List.length e1
      rwa [List.length_map, List.length_map] at this
    refine List.ext_getElem (by rw [List.length_map]; exact hlen) fun i h1 h2 => ?_
    have h3 : i < its.length := hlen ▸ h1
    rw [List.getElem_map]
    obtain ⟨t, et⟩ := e2 its[i] (List.getElem_mem h3)
    have e4 : zs[i].1 = V.ref t := by
      have := congrArg (fun l => l[i]?) e1
      simp only [List.getElem?_map, List.getElem?_eq_getElem h1, List.getElem?_eq_getElem h3, Option.map_some] at this
      rw [Option.some.inj this, et]; rfl
    rw [et, (key _ (List.getElem_mem h1) t e4).1]
    exact Prod.ext e4 rfl
  have kv : ∀ v ∈ its, Srt.IsPair s.heap v (pairOf s.heap v).1 (pairOf s.heap v).2 := fun v hv => by
    obtain ⟨t, rfl⟩ := e2 v hv
    have m : ((L2.backV (.ref t), pairOf s.heap (.ref t)) : V × (Int × Int)) ∈ zs := by rw [ez]; exact List.mem_map.mpr ⟨_, hv, rfl⟩
    exact (key _ m t rfl).2
  refine SrtO.sorted_pairsO (k := fun u => pairOf s.heap u) hl.isList (by rw [← rv.length]; exact hz) kv fun h' d out h1 h2 kp hd hn => ?_
  have h3 : ∀ u ∈ out, ∃ a, u = Value.ref a := fun u hu => e2 u (h2.perm.mem_iff.mp hu)
  obtain ⟨n, hn⟩ := hn
  have hp : (out.map fun u => (L2.backV u, pairOf s.heap u)).Perm zs := by rw [ez]; exact h2.perm.map _
  have eo : (out.map fun u => (L2.backV u, pairOf s.heap u)).map (·.1) = out.map L2.backV := by rw [List.map_map]; rfl
  refine ⟨.ref d, upd H d (.lst (out.map L2.backV)), I.laid (t' := s.toks) kp hd ⟨?_, out, n, L2.vals_back h3, hn⟩, rfl, ?_⟩
  · rw [List.length_map, h2.perm.length_eq]
    rw [List.length_map] at hz
    have hlen : zs.length = its.length := by
      have := congrArg List.length e1
      rwa [List.length_map, List.length_map] at this
    omega
  · rw [← eo]
    refine q _ d hp ?_ (I.hok.fresh hd)
    rw [List.map_map]
    refine List.pairwise_map.mpr (List.Pairwise.imp (fun {x y} hxy => ?_) h1)
    have := SrtO.lexB_no.mp hxy
    show _ ∨ _
    simp only [Function.comp]
    omega
end
def sortPD : List D → (D → Prop) → Prop
  | [.lst xs], Q => ∃ ps : List (Int × Int), xs = ps.map prI ∧ ∀ ms : List (Int × Int), ms.Perm ps → ms.Pairwise leP → Q (.lst (ms.map prI))
  | _, _ => False
theorem RpAll.zipMem {K : PySem.W.Frag} {O : List Addr} {H : Hp} {f : Int × Int → D} : ∀ {vs : List V} {ps : List (Int × Int)}, RpAll K O H vs (ps.map f) → ∀ z ∈ vs.zip ps, Rp K O H z.1 (f z.2)
  | [], [], _, z, h => by cases h
  | v :: vs, p :: ps, .cons a b, z, h => by
    rw [List.zip_cons_cons] at h
    rcases List.mem_cons.mp h with rfl | h
    · exact a
    · exact RpAll.zipMem b z h
theorem RpAll.zipBack {K : PySem.W.Frag} {O : List Addr} {H : Hp} {f : Int × Int → D} : ∀ {ys : List (V × (Int × Int))}, (∀ z ∈ ys, Rp K O H z.1 (f z.2)) → RpAll K O H (ys.map (·.1)) ((ys.map (·.2)).map f)
  | [], _ => .nil
  | y :: ys, h => .cons (h y (by simp)) (RpAll.zipBack fun z hz => h z (by simp [hz]))
section
variable {X : Cx} {G : Gx} {ρ : List Sl} {c : Bool} {Q : D → Prop} {e : Expr} {pos p : Pos}
theorem de_sortedP (hK : X.K = G.K) (hm : X.mg "sorted" = none) (h : DA X G ρ c [e] fun ds => sortPD ds Q) (hg : Gl X "sorted" := by rfl)
    (he : starEach [e] X.env = (false, eval e X.env) :: starEach [] X.env := by rfl) (hpl : (backTo pos (starEach [] X.env)).any (·.1) = false := by rfl) : DE X G ρ c (.Call (.Name "sorted" p) [e] [] pos) Q :=
  de_callB cr_sortedQ hm boot_sorted (R := sortPD) (fun vs σ H ds Q' I r U q => by
    unfold sortPD at q
    split at q
    · obtain ⟨ps, rfl, q⟩ := q
      obtain ⟨v, rfl, r1⟩ := r.oneI
      obtain ⟨a, us, rfl, ha, na, r⟩ := r1.lstI
      have hl : us.length = ps.length := by rw [r.length, List.length_map]
      have e1 : (us.zip ps).map (·.1) = us := by rw [List.map_fst_zip]; omega
      have e2 : (us.zip ps).map (·.2) = ps := by rw [List.map_snd_zip]; omega
      refine ⟨a, us.zip ps, rfl, by rw [e1]; exact .of ha, fun z hz => ?_, fun ys p h1 h2 => ?_⟩
      · have rz := RpAll.zipMem r z hz
        obtain ⟨t, ws, et, ht, rw'⟩ := rz.tupI
        refine ⟨t, et, ?_⟩
        obtain ⟨w1, w2, ew, r1, r2⟩ := rw'.twoI
        subst ew
        cases r1; cases r2
        rw [hK]
        exact ht
      · have hq := q (ys.map (·.2)) (by have := h1.map (·.2); rwa [e2] at this) h2
        exact U.lst I (RpAll.zipBack fun z hz => RpAll.zipMem r z (h1.mem_iff.mp hz)) hq p
    · exact q.elim) h hg (by decide) (by decide) he hpl
end
end Dw

/-! Dw26: lists taken apart, fresh lists as data, three names at once -/
namespace Dw
open PySem PySem.Spec PyProof.Rows L2
section
variable {X : Cx} {G : Gx} {ρ : List Sl} {c : Bool} {Q : D → Prop} {e : Expr} {pos p p2 p3 : Pos} {x : Str}
theorem dg_lst {d : List D} {es : List Expr} {k : Nat} {Q : List Sl → Prop} (hK : X.K = G.K) (hc : X.calm = true) (h : DGs X G ρ es d Q) (hl : d.length = es.length)
    (hn : (assignEach es X.env).length = es.length := by rfl) (hst : (assignEach es X.env).findIdx? (·.1) = none := by rfl) : DG X G ρ (.Tuple es k pos) (.lst d) Q := fun σ H v I r Q' U => by
  obtain ⟨a, vs, rfl, ha, _, r⟩ := r.lstI
  obtain ⟨g, hg, q⟩ := h σ H vs I r Q' U
  exact ⟨_, pg_lst (n := es.length) hc hg hn hst, a, vs, rfl, .of ha, by rw [r.length, hl], q⟩
theorem dgs_cons {d1 : D} {ds : List D} {ts : List Expr} {Q : List Sl → Prop} (i : Nat) (hN : X.N.Nodup) (h : DGs X G (ρ.set i (.dat d1)) ts ds Q) (hi : X.N[i]? = some x := by rfl) (hx : Loc X.env.scope x := by first | exact Or.inl rfl | exact Or.inr rfl)
    (hf : X.fn x = true ∨ X.env.scope.names.lookup x = some .local := by first | exact .inl rfl | exact .inr rfl)
    (ha : (assignEach (.Name x p :: ts) X.env) = (assignEach [.Name x p] X.env) ++ (assignEach ts X.env) := by rfl) : DGs X G ρ (.Name x p :: ts) (d1 :: ds) Q := fun σ H vs I r Q' U => by
  cases r with
  | cons r1 r =>
    have I1 := I.dat i (toTrue r1)
    have r' := r.mv (H' := H) (O' := G.O ++ owns (ρ.set i (.dat d1))) (mv_sub fun b hb => by
      rcases List.mem_append.mp hb with m | m
      · exact List.mem_append_left _ m
      · rcases owns_set_mem m with m | m
        · cases m
        · exact List.mem_append_right _ m)
    obtain ⟨g, hg, q⟩ := h _ H _ I1 r' Q' U
    exact ⟨gCons (gName i) g, pgs_cons (L2.pg_name hN hi hx hf) hg, _, _, rfl, q⟩
theorem de_F (h : DF X G ρ e fun ds => Q (.lst ds)) : DE X G ρ c e Q := fun σ H I Q' U => h σ H I Q' fun p vs H' ds k s np hp r q => by
  have npO : p ∉ bs G ρ c := I.fresh np
  exact U _ H' _ k s (.lst hp npO (r.mv (mv_sub fun a ha => List.mem_cons_of_mem _ (bs_mem ha)))) q
end
section
variable {G : Gx} {ρ : List Sl}
theorem set_new3 {σ : L2.St} {H H1 : Hp} {i j l : Nat} {v u t : V} {s1 s2 s3 : Sl} (I : StOk G ρ σ H) (k : Kp G.T G.S H H1) (s : SrcOk G.S H1) (fr : ∀ a ∈ owns [s1, s2, s3], H a = none) (nd : (owns [s1, s2, s3]).Nodup) (na : NewAll G.K (G.O ++ owns ρ ++ owns [s1, s2, s3]) H1 [v, u, t] [s1, s2, s3]) :
    StP G (((ρ.set i s1).set j s2).set l s3) (((σ.set i (some v)).set j (some u)).set l (some t)) H1 (G.O ++ owns ρ ++ owns [s1, s2, s3]) := by
    have eo : owns [s1, s2, s3] = s1.addr ++ (s2.addr ++ s3.addr) := by show s1.addr ++ (s2.addr ++ (s3.addr ++ [])) = _; rw [List.append_nil]
    have h0 : ∀ a ∈ owns [s1, s2, s3], a ∉ G.O ∧ a ∉ owns ρ ∧ G.H0 a = none := fun a ha => by
      have z := fr a ha
      refine ⟨fun m => ?_, fun m => ?_, (I.ext.back I.src) z⟩
      · obtain ⟨o, e⟩ := I.trk a m; rw [z] at e; cases e
      · obtain ⟨o, e⟩ := I.trkO a m; rw [z] at e; cases e
    have P := I.toP k s fr
    have nd' := nd
    rw [eo] at nd' h0
    obtain ⟨n1, n23, n1x⟩ := List.nodup_append.mp nd'
    obtain ⟨n2, n3, n2x⟩ := List.nodup_append.mp n23
    have mm : ∀ a, a ∈ s1.addr ++ (s2.addr ++ s3.addr) → a ∈ G.O ++ owns ρ ++ owns [s1, s2, s3] := fun a ha => List.mem_append_right _ (by rw [eo]; exact ha)
    cases na with
    | cons a1 na =>
      cases na with
      | cons a2 na =>
        cases na with
        | cons a3 na =>
          cases na
          have l1 : ∀ a ∈ s1.addr, a ∈ s1.addr ++ (s2.addr ++ s3.addr) := fun a ha => List.mem_append_left _ ha
          have l2 : ∀ a ∈ s2.addr, a ∈ s1.addr ++ (s2.addr ++ s3.addr) := fun a ha => List.mem_append_right _ (List.mem_append_left _ ha)
          have l3 : ∀ a ∈ s3.addr, a ∈ s1.addr ++ (s2.addr ++ s3.addr) := fun a ha => List.mem_append_right _ (List.mem_append_right _ ha)
          have P1 := P.add i a1 (fun a ha => ⟨mm a (l1 a ha), (h0 a (l1 a ha)).2.1, (h0 a (l1 a ha)).1, (h0 a (l1 a ha)).2.2⟩) n1
          have P2 := P1.add j a2 (fun a ha => ⟨mm a (l2 a ha), fun m => by
            rcases owns_set_mem m with m | m
            · exact n1x a m a (List.mem_append_left _ ha) rfl
            · exact (h0 a (l2 a ha)).2.1 m, (h0 a (l2 a ha)).1, (h0 a (l2 a ha)).2.2⟩) n2
          have P3 := P2.add l a3 (fun a ha => ⟨mm a (l3 a ha), fun m => by
            rcases owns_set_mem m with m | m
            · exact n2x a m a ha rfl
            · rcases owns_set_mem m with m | m
              · exact n1x a m a (List.mem_append_right _ ha) rfl
              · exact (h0 a (l3 a ha)).2.1 m, (h0 a (l3 a ha)).1, (h0 a (l3 a ha)).2.2⟩) n3
          exact P3
end
section
variable {X : Cx} {G : Gx} {ρ : List Sl} {E : DEnds} {a b c : Expr} {pos : Pos} {x y z : Str}
theorem ds_parC3 {px py pz pt : Pos} {kt k2 pt2} (i j l : Nat) (hc : X.calm = true) (hN : X.N.Nodup) (h : DP X G ρ [a, b, c] fun ss => ∃ s1 s2 s3, ss = [s1, s2, s3] ∧ E.nx (((ρ.set i s1).set j s2).set l s3)) (hi : X.N[i]? = some x := by rfl) (hj : X.N[j]? = some y := by rfl) (hl : X.N[l]? = some z := by rfl)
    (hx : Loc X.env.scope x := by first | exact Or.inl rfl | exact Or.inr rfl) (hy : Loc X.env.scope y := by first | exact Or.inl rfl | exact Or.inr rfl) (hz : Loc X.env.scope z := by first | exact Or.inl rfl | exact Or.inr rfl)
    (hf : X.fn x = true ∨ X.env.scope.names.lookup x = some .local := by first | exact .inl rfl | exact .inr rfl) (hf2 : X.fn y = true ∨ X.env.scope.names.lookup y = some .local := by first | exact .inl rfl | exact .inr rfl) (hf3 : X.fn z = true ∨ X.env.scope.names.lookup z = some .local := by first | exact .inl rfl | exact .inr rfl)
    (hs : swapsWithSole [.Tuple [.Name x px, .Name y py, .Name z pz] kt pt] (.Tuple [a, b, c] k2 pt2) pos.line X.env = pure false := by rfl) (hw : swappedStores [.Tuple [.Name x px, .Name y py, .Name z pz] kt pt] (.Tuple [a, b, c] k2 pt2) X.env = pure none := by rfl)
    (h1 : (assignEach [.Tuple [.Name x px, .Name y py, .Name z pz] kt pt] X.env).map (·.2) = [assign (.Tuple [.Name x px, .Name y py, .Name z pz] kt pt) X.env] := by rfl)
    (hn : (assignEach [.Name x px, .Name y py, .Name z pz] X.env).length = 3 := by rfl) (hst : (assignEach [.Name x px, .Name y py, .Name z pz] X.env).findIdx? (·.1) = none := by rfl) : DS X G ρ (.Assign [.Tuple [.Name x px, .Name y py, .Name z pz] kt pt] (.Tuple [a, b, c] k2 pt2) pos) E := fun σ H I D U =>
  ssem_of (L2.ps_asg (pe_tup pa_sem) (pg_tup (n := 3) hc (pgs_cons (L2.pg_name hN hi hx hf) (pgs_cons (L2.pg_name hN hj hy hf2) (pgs_cons (L2.pg_name hN hl hz hf3) pgs_nil))) hn hst) hs hw h1) (h σ H I _ fun vs H1 ss k s fr nd na q => by
    obtain ⟨s1, s2, s3, rfl, q⟩ := q
    cases na with
    | cons a1 na =>
      cases na with
      | cons a2 na =>
        cases na with
        | cons a3 na =>
          cases na
          rename_i v1 v2 v3
          refine ⟨by show 3 ≤ sizeLine; decide, fun p hp => ?_⟩
          refine ⟨p, _, rfl, .of upd_same, rfl, _, _, rfl, _, _, rfl, _, _, rfl, rfl, ?_⟩
          have nw := (NewAll.cons a1 (.cons a2 (.cons a3 .nil))).kp (H' := upd H1 p (.tup [v1, v2, v3])) fun b o e => by rw [upd_ne (ne_of_none e hp)]; exact e
          exact U.nx _ _ _ (set_new3 I (k.trans (Kp.new hp)) (s.new hp) fr nd nw).ok q)
end
end Dw

/-! Dw27: zip of two lists, of two tuples -/
namespace Dw
open PySem PySem.Spec PyProof.Rows L2 RZ
def zipD (xs ys : List D) : List D := List.zipWith (fun x y => D.tup [x, y]) xs ys
theorem zip_get {xs ys : List D} {i : Nat} {d : D} (h : (zipD xs ys)[i]? = some d) : ∃ x y, xs[i]? = some x ∧ ys[i]? = some y ∧ d = .tup [x, y] := by
  unfold zipD at h
  rw [List.getElem?_zipWith] at h
  cases ex : xs[i]? with
  | none => rw [ex] at h; cases h
  | some x =>
    cases ey : ys[i]? with
    | none => rw [ex, ey] at h; cases h
    | some y =>
      rw [ex, ey] at h
      cases h
      exact ⟨x, y, rfl, rfl, rfl⟩
theorem zip_len {xs ys : List D} : (zipD xs ys).length = min xs.length ys.length := by unfold zipD; exact List.length_zipWith
theorem zip_one {K : PySem.W.Frag} {O : List Addr} {H : Hp} {T : Addr} {u v : V} {x y : D} (ht : ∀ a ∈ O, ∃ o, H a = some o) (hT : H T = none) (ru : Rp K O H u x) (rv : Rp K O H v y) :
    (∀ b o, H b = some o → upd H T (.tup [u, v]) b = some o) ∧ Rp K O (upd H T (.tup [u, v])) (.ref T) (.tup [x, y]) := by
  have nT : T ∉ O := fun m => by
    obtain ⟨o, e⟩ := ht T m
    rw [hT] at e; cases e
  have mv : Mv O O H (upd H T (.tup [u, v])) := fun b o n e t_ => ⟨n, by rw [upd_ne (ne_of_none e hT)]; exact e⟩
  exact ⟨fun b o e => by rw [upd_ne (ne_of_none e hT)]; exact e, .tup upd_same nT (.cons (ru.mv mv) (.cons (rv.mv mv) .nil))⟩
theorem itOk_zipL {K : PySem.W.Frag} {a b : Addr} {xs ys : List D} : ItOk K (Itz K a b) (zipD xs ys) [(.ref a, .lst xs), (.ref b, .lst ys)] := fun i H O hp ht => by
  obtain ⟨a', us, e, ha, _, r⟩ := (hp (.ref a, .lst xs) (by simp)).lstI
  cases e
  obtain ⟨b', vs, e, hb, _, r2⟩ := (hp (.ref b, .lst ys) (by simp)).lstI
  cases e
  refine ⟨fun e => ⟨us, vs, .of ha, .of hb, by rw [r.length, r2.length, e, zip_len]; omega⟩, fun d hd => ?_⟩
  obtain ⟨x, y, hx, hy, rfl⟩ := zip_get hd
  obtain ⟨u, hu, ru⟩ := r.getD' hx
  obtain ⟨v, hv, rv⟩ := r2.getD' hy
  refine ⟨⟨us, vs, u, v, .of ha, .of hb, hu, hv⟩, fun z H' hz => ?_⟩
  obtain ⟨T, u', v', rfl, hT, rfl, h1, h2⟩ := hz
  have e1 : u' = u := by have := h1 us (.of ha); rw [hu] at this; exact (Option.some.inj this).symm
  have e2 : v' = v := by have := h2 vs (.of hb); rw [hv] at this; exact (Option.some.inj this).symm
  subst e1; subst e2
  exact zip_one ht hT ru rv
theorem itOk_zipT {K : PySem.W.Frag} {a b : Addr} {xs ys : List D} : ItOk K (ItzT K a b) (zipD xs ys) [(.ref a, .tup xs), (.ref b, .tup ys)] := fun i H O hp ht => by
  obtain ⟨a', us, e, ha, r⟩ := (hp (.ref a, .tup xs) (by simp)).tupI
  cases e
  obtain ⟨b', vs, e, hb, r2⟩ := (hp (.ref b, .tup ys) (by simp)).tupI
  cases e
  refine ⟨fun e => ⟨us, vs, ha, hb, by rw [r.length, r2.length, e, zip_len]; omega⟩, fun d hd => ?_⟩
  obtain ⟨x, y, hx, hy, rfl⟩ := zip_get hd
  obtain ⟨u, hu, ru⟩ := r.getD' hx
  obtain ⟨v, hv, rv⟩ := r2.getD' hy
  refine ⟨⟨us, vs, u, v, ha, hb, hu, hv⟩, fun z H' hz => ?_⟩
  obtain ⟨T, u', v', rfl, hT, rfl, h1, h2⟩ := hz
  have e1 : u' = u := by have := h1 us ha; rw [hu] at this; exact (Option.some.inj this).symm
  have e2 : v' = v := by have := h2 vs hb; rw [hv] at this; exact (Option.some.inj this).symm
  subst e1; subst e2
  exact zip_one ht hT ru rv
def zip2D : List D → (List D → Prop) → Prop
  | [.lst xs, .lst ys], Q => Q (zipD xs ys)
  | [.tup xs, .tup ys], Q => Q (zipD xs ys)
  | _, _ => False
section
variable {X : Cx} {G : Gx} {ρ : List Sl} {e e2 : Expr} {pos p tp : Pos} {elts : List Expr} {kk : Nat}
theorem di_zip {Q : List D → Prop} (hK : X.K = G.K) (hm : X.mg "zip" = none) (h : DA X G ρ true [e, e2] fun ds => zip2D ds Q) (hg : Gl X "zip" := by rfl)
    (hs : starEach [e, e2] X.env = (false, eval e X.env) :: starEach [e2] X.env := by rfl) (hpl : (backTo pos (starEach [e2] X.env)).any (·.1) = false := by rfl) :
    DI X G ρ (.Tuple elts kk tp) (.Call (.Name "zip" p) [e, e2] [] pos) Q := fun σ H I R U =>
  ⟨_, pi_zipA hg hm pa_sem hs hpl, h σ H I _ fun vs H1 ds k s r q => by
    replace q : zip2D ds Q := q
    unfold zip2D at q
    split at q
    · obtain ⟨v, u, rfl, r1, r2⟩ := r.twoI
      obtain ⟨a, us, rfl, ha, na, q1⟩ := r1.lstI
      obtain ⟨b, ws, rfl, hb, nb, q2⟩ := r2.lstI
      refine ⟨a, b, us, ws, rfl, .inl ⟨.of ha, .of hb, U (Itz X.K a b) H1 _ [(.ref a, .lst _), (.ref b, .lst _)] k s (fun p hp => ?_) (by rw [hK]; exact itOk_zipL) q⟩⟩
      rcases List.mem_cons.mp hp with rfl | hp
      · exact ofTrue (O := []) r1
      · rw [List.mem_singleton.mp hp]; exact ofTrue (O := []) r2
    · obtain ⟨v, u, rfl, r1, r2⟩ := r.twoI
      obtain ⟨a, us, rfl, ha, q1⟩ := r1.tupI
      obtain ⟨b, ws, rfl, hb, q2⟩ := r2.tupI
      refine ⟨a, b, us, ws, rfl, .inr ⟨hK ▸ ha, hK ▸ hb, U (ItzT X.K a b) H1 _ [(.ref a, .tup _), (.ref b, .tup _)] k s (fun p hp => ?_) (by rw [hK]; exact itOk_zipT) q⟩⟩
      rcases List.mem_cons.mp hp with rfl | hp
      · exact ofTrue (O := []) r1
      · rw [List.mem_singleton.mp hp]; exact ofTrue (O := []) r2
    · exact q.elim⟩
end
end Dw

/-! Dw28: arithmetic, the results written out -/
namespace Dw
open PySem PySem.Spec PyProof.Rows L2
def subD : D → D → (D → Prop) → Prop
  | .int i, .int j, Q => True ∧ Q (.int (i - j))
  | _, _, _ => False
def divD : D → D → (D → Prop) → Prop
  | .int i, .int j, Q => CDivD i j ∧ Q (.int (i / j))
  | _, _, _ => False
def modD : D → D → (D → Prop) → Prop
  | .int i, .int j, Q => 0 < j ∧ Q (.int (i % j))
  | _, _, _ => False
section
variable {X : Cx} {G : Gx} {ρ : List Sl} {c : Bool} {Q : D → Prop} {a b : Expr} {pos : Pos}
theorem de_subR (h : DE X G ρ false a fun x => DE X G ρ false b fun y => subD x y Q) : DE X G ρ c (.BinOp a .Sub b pos) Q := de_sub (h.imp fun x hx => hx.imp fun y hy => by
  unfold subD at hy
  split at hy
  · exact hy
  · exact hy.elim)
theorem de_divR (h : DE X G ρ false a fun x => DE X G ρ false b fun y => divD x y Q) : DE X G ρ c (.BinOp a .FloorDiv b pos) Q := de_div (h.imp fun x hx => hx.imp fun y hy => by
  unfold divD at hy
  split at hy
  · exact hy
  · exact hy.elim)
theorem de_modR (h : DE X G ρ false a fun x => DE X G ρ false b fun y => modD x y Q) : DE X G ρ c (.BinOp a .Mod b pos) Q := de_mod (h.imp fun x hx => hx.imp fun y hy => by
  unfold modD at hy
  split at hy
  · exact hy
  · exact hy.elim)
end
end Dw

/-! Dw30: an own error whose __init__ says super().__init__(..) and keeps what it was told -/
namespace Dw
open PySem PySem.Spec PyProof.Rows PySem.Calls
section
variable {prog : Program} {w : World} {A : Around} {E : Value → Shared → Prop} {h : Heap} {g : Array GenState} {d : Drawn} {t : Nat} {os : OsState}
variable {nm q : Str} {C N : Addr} {bs bm : List Value} {hdct : Bool} {sn : List Str} {sub : List Value} {ab : Bool} {col : Option Bool} {dd : Option Addr} {k0 k1 k2 k3 k5 : Option Value}
theorem call_mw {u e t0 : Addr} {rest : List Value} {Q : Value → Shared → Prop}
    (hC : h.get? C = some (excClassObj nm q C N bs bm hdct sn sub ab col dd k0 k1 k2 k3 k5 "ValueError.__new__")) (he : h.get? e = some (HandSPX.excO C t0)) (hu : h.get? u = some (W.kxs_mw "ValueError.__init__" e)) (hrest : rest.length ≤ sizeLine)
    (hq : ∀ h' t1, (∀ b o, b ≠ e → h.get? b = some o → h'.get? b = some o) → h'.get? e = some (HandSPX.excO C t1) → Q .none ⟨h', g, d, t, os⟩) :
    wpAny (model prog w) A (call (.ref u) rest) Q E ⟨h, g, d, t, os⟩ := by
  refine wpAny_call (codeAny_of_tree ?_)
  show wpAny _ A.in1 (callAny (.ref u) ⟨rest, []⟩) _ _ _
  simp only [callAny]
  refine wpAny_bind (wpAny_load hu ?_)
  simp only [W.kxs_mw, show (Value.type "method-wrapper" == Value.type "method" || Value.type "method-wrapper" == Value.type "builtin_function_or_method" || Value.type "method-wrapper" == Value.type "method-wrapper") = true by decide, if_true]
  refine W.KFB.if_so (by decide) ?_
  refine wpAny_bind (ESX.check_bound F.excBase_ValueError hC he rfl ?_)
  refine wpAny_bind (wpAny_pure (wpAny_pure ?_))
  refine ⟨Code.quiet_builtin _ (by decide +kernel), codeAny_builtin F.excBase_ValueError.initEntry ?_⟩
  rw [Around.under_plainId F.excBase_ValueError.init.plain _]
  wp_walk
  refine hq _ h.objs.size (fun b o hb ho => ?_) ?_
  · rw [Heap.get?_update_other _ _ (Ne.symm hb)]
    exact Heap.get?_push_of_some _ ho
  · rw [Heap.get?_update_self _ (Heap.get?_push_of_some _ he) rfl]
    rfl
end
theorem callWith_mw {M : Model} {A : Around} {E : Value → Shared → Prop} {s : Shared} {i : String} {u x : Addr} {pos : Pos} {env : Env} {e : Expr} {rest : List Expr} {Q : Value → Shared → Prop}
    (h : wpAny M A (spliced (backTo pos (starEach (e :: rest) env))) (fun vs s₁ => PySem.W.KxsAt i u x s₁.heap ∧ wpAny M A (call (.ref u) vs) Q E s₁) E s)
    (he : starEach (e :: rest) env = (false, eval e env) :: starEach rest env) (hplain : (backTo pos (starEach rest env)).any (·.1) = false) :
    wpAny M A (callWith pos (.ref u) [] (backTo pos (starEach (e :: rest) env)) []) Q E s := by
  rw [he] at h ⊢
  refine PySem.W.kxs_callWith (i := i) (x := x) (by show (false || (backTo pos (starEach rest env)).any (·.1)) = false; rw [hplain]; rfl) ?_
  exact evalArgs_plain h
open L2 NdefX
/-- its words -/
abbrev initNF (name qual : Str) (params : Arguments) (body : List Stmt) (scope : Scope) (cc cda : Addr) : NF := ⟨name, qual, params, body, scope, [("__class__", cc)], cda⟩
theorem ok_init {CX : CXT} {P : Program} {w : World} {K : PySem.W.Frag} {mg : Str → Option Value} {base : Heap} {k : Nat} {C fI cc cda : Addr} {name qual : Str} {params : Arguments} {p0 p1 p2 p3 p4 : Pos} {e : Expr} {es : List Expr} {rest : List Stmt} {scope : Scope}
    {dV kV doc pm ct oc ccl cl : Value} {an od cdd cld : Option Addr} {osl ccs csl : Array (Option Value)} {N ps : List Str} {sp : Sp} {ar : Arg} {cdD : ClassData} {vs0 : Array Value} {file : Str} {tf : Tok}
    (T : OexC K C)
    (hf : K.lookup fI = some ⟨oc, od, .func (PySem.W.fnX name qual params (.Expr (.Call (.Attribute (.Call (.Name "super" p0) [] [] p1) "__init__" p2) (e :: es) [] p3) p4 :: rest) scope [("__class__", cc)] dV kV doc pm an (.ref cda) ct), osl⟩)
    (hcd : PySem.W.codeIn K (.ref cda) qual = true) (S : NScope N ps ["__class__"] scope) (ps0 : ps[0]? = some ("self" : Str)) (hp : (params.posonlyargs ++ params.args).head? = some ar) (har : ar.arg = "self")
    (hcell : K.lookup cc = some ⟨cl, cld, .cell (some (.ref C)), csl⟩) (hD : PySem.W.clsIn K C = some cdD) (hsub : PySem.W.mroIn K C (.ref C) = some true) (hsuper : PySem.W.nsIn K mainGlobals "super" = some none)
    (hcode : K.lookup cda = some ⟨ccl, cdd, .fields vs0, ccs⟩) (hvs : vs0[2]? = some (.str file tf)) (hfile : ((P.main.file : Str) == file) = true) (htop : (P.main.scope.names.lookup ("super" : Str)).isSome = false)
    (hks : scope.names.lookup ("super" : Str) = some .globalImplicit) (hini : PySem.W.alongIn K "__init__" ((cdD.mro.dropWhile (· != .ref C)).drop 1) = some (some (.builtin "ValueError.__init__")))
    (hVE : PySem.W.subIn K (.ref C) (.type "ValueError") = some true) (hop : PySem.W.nsIn K cStatics "thirdparty.any" = some none)
    (len : ∀ vs H Q E, sp vs H Q E → vs.length = ps.length)
    (body : ∀ (A : Around) (outer : List Env) (s : Shared) (H : Hp) (vs : List V) (Q : VK) (E : XK), Room k (A.deeper (envF (initNF name qual params (.Expr (.Call (.Attribute (.Call (.Name "super" p0) [] [] p1) "__init__" p2) (e :: es) [] p3) p4 :: rest) scope cc cda) fI s.heap.objs.size)) → sp vs H Q E →
      ∃ a ta t, vs[0]? = some (.ref a) ∧ H a = some (exo a C none) ∧ PA (ncx CX P w K mg base N (initNF name qual params (.Expr (.Call (.Attribute (.Call (.Name "super" p0) [] [] p1) "__init__" p2) (e :: es) [] p3) p4 :: rest) scope cc cda) fI A outer s H E) (e :: es) ta ∧
        PSs (ncx CX P w K mg base N (initNF name qual params (.Expr (.Call (.Attribute (.Call (.Name "super" p0) [] [] p1) "__init__" p2) (e :: es) [] p3) p4 :: rest) scope cc cda) fI A outer s H E) rest t ∧
        ta (startF N vs [none]) H fun ws H1 => ws.length ≤ 1000 ∧ H1 a = some (exo a C none) ∧ t { nx := fun _ H' => Q .non H', rt := Q } (startF N vs [none]) H1)
    {pl : Env → Sem Bool} (hev : ∀ env, eval (.Call (.Attribute (.Call (.Name "super" p0) [] [] p1) "__init__" p2) (e :: es) [] p3) env = (do
      let ov ← attributeBase (.Call (.Name "super" p0) [] [] p1) "__init__" env (eval (.Call (.Name "super" p0) [] [] p1) env)
      standAt p2.atName
      let (f, first) ← holding [ov] (getMethod ov "__init__" (pl env))
      callWith p3 f first (backTo p3 (starEach (e :: es) env)) []))
    (he : ∀ env, starEach (e :: es) env = (false, eval e env) :: starEach es env) (hpl : ∀ env, (backTo p3 (starEach es env)).any (·.1) = false) (hsw : ∀ env, swapsWith (.Call (.Attribute (.Call (.Name "super" p0) [] [] p1) "__init__" p2) (e :: es) [] p3) none p4.line env = pure false) :
    FnOk P w K mg base CX (k + 1) fI (PySem.W.fnX name qual params (.Expr (.Call (.Attribute (.Call (.Name "super" p0) [] [] p1) "__init__" p2) (e :: es) [] p3) p4 :: rest) scope [("__class__", cc)] dV kV doc pm an (.ref cda) ct) ps sp := by
  obtain ⟨F, eF⟩ : ∃ F, F = initNF name qual params (.Expr (.Call (.Attribute (.Call (.Name "super" p0) [] [] p1) "__init__" p2) (e :: es) [] p3) p4 :: rest) scope cc cda := ⟨_, rfl⟩
  refine ⟨len, fun A outer s H args us vs Q E hr e0 hbind r hsp => ?_⟩
  obtain ⟨a, ta, t, v0, ha0, hPA, hPS, hq⟩ := body A outer s H vs Q E (hr.deeper _) hsp
  have KB : ∀ b o, base.get? b = some o → s.heap.get? b = some o := fun b o e => (e0.bs b o e).1
  have KX : K.In s.heap := e0.mod.kin.keeps KB
  have lim : s.heap.NoLimit := e0.mod.nolimit.keeps KB
  have hl := len _ _ _ _ hsp
  refine codeAny_call_function hr.depth (KX _ _ hf) rfl S.co S.gen rfl (PySem.W.codeRec_of KX hcd) (hbind _ _ _ _ (wpAny_newFunctionEnv S.nocell (fun ⟨n, _⟩ hy => S.par n (List.of_mem_zip hy).1) (fun h₁ hns hsb => ⟨lim.fresh _ hsb, ?_⟩) S.kind))
  rw [← eF] at hPA hPS
  show codeAny _ _ (.func (.Expr (.Call (.Attribute (.Call (.Name "super" p0) [] [] p1) "__init__" p2) (e :: es) [] p3) p4 :: rest) (PySem.W.ksEnv qual scope s.heap.objs.size fI (.ref cda) cc)) _ _
  refine ks_codeAny_funcAt ?_
  have kp : ∀ b o, s.heap.get? b = some o → h₁.get? b = some o := fun b o e => hsb.extBut b o (Nat.ne_of_lt (Heap.lt_size e)) (Heap.get?_push_of_some _ e)
  have KB1 : ∀ b o, base.get? b = some o → h₁.get? b = some o := fun b o e => kp _ _ (KB _ _ e)
  have KX1 : K.In h₁ := e0.mod.kin.keeps KB1
  have cells : CellsAt F.cl ["__class__"] [none] s.heap H := by
    subst eF
    have one : ∀ y c, ([("__class__", cc)] : List (Str × Addr)).lookup y = some c → y = "__class__" ∧ c = cc := fun y c h => by
      simp only [List.lookup] at h
      split at h
      · rename_i z
        exact ⟨by simpa using z, (Option.some.inj h).symm⟩
      · cases h
    refine ⟨rfl, fun y c h => ?_, fun x y c h1 h2 => (one _ _ h1).1.trans (one _ _ h2).1.symm, fun i y h => ?_⟩
    · obtain ⟨_, rfl⟩ := one y c h
      exact ⟨(e0.bs _ _ (e0.mod.kin _ _ hcell)).2, _, _, KX _ _ hcell, rfl⟩
    · match i, h with
      | 0, h =>
        cases h
        exact ⟨cc, by simp [List.lookup], fun v h => by cases h⟩
      | i + 1, h => simp at h
  have SF : NScope N ps ["__class__"] F.scope := by rw [eF]; exact S
  have I : Inv (ncx CX P w K mg base N F fI A outer s H E) [] (startF N vs [none]) H { s with heap := h₁, toks := s.toks + (ps.zip us).length } := inv_startN SF hr.hd e0 hl r cells hns kp
  obtain ⟨t1, hx⟩ := exo_at I.hok ha0
  obtain ⟨mb, hmb, hmbe⟩ := e0.mod.blt
  obtain ⟨oD, hD1, hD2⟩ : ∃ oD, h₁.get? C = some oD ∧ oD.data = .cls cdD := by
    unfold PySem.W.clsIn at hD
    split at hD
    · rename_i c d cd' sl ho
      cases hD
      exact ⟨_, KX1 _ _ ho, rfl⟩
    · cases hD
  have ndp : ps.Nodup := by
    have h := S.nd.sublist (List.take_sublist (ps.length + (["__class__"] : List Str).length) N)
    rw [S.pre] at h
    exact (List.nodup_append.mp h).1
  have mself : ("self" : Str) ∈ ps := List.mem_of_getElem? ps0
  have hself : (ps.zip us).reverse.lookup ("self" : Str) = some (.ref a) := by
    have hlen := r.length
    obtain ⟨u, hu, ru⟩ := r.get v0
    obtain rfl : u = Value.ref a := ru
    exact zip_look ndp ps0 hu
  have IA : PySem.W.InstAt h₁ a _ C none := ⟨hx, rfl, rfl, trivial⟩
  have anC : a ≠ C := PySem.W.ks_ne KX1 IA hD
  subst eF
  refine ks_wpAt_execs_cons (ks_wpAt_Expr_any (ks_wpAt_MethodCall ?_ (hev _)) (by simp [interactive, S.kind]) (hsw _))
  refine ks_wpAt_super_base (env := PySem.W.ksEnv qual scope s.heap.objs.size fI (.ref cda) cc) hks (S.frk _ (by simp)) (by decide +kernel) rfl (KX1 _ _ hf) rfl hp rfl (KX1 _ _ hcode) rfl hvs hfile htop ?_
  refine PySem.W.ks_loadName_global S.kind hks (loadGlobal_builtin (env := PySem.W.ksEnv qual scope s.heap.objs.size fI (.ref cda) cc) (e0.mod.glob.keeps KB1) (PySem.W.mg_none_of e0.mod.kin e0.mod.glob hsuper) (hmb.keeps KB1) ((hmbe _ (by decide +kernel)).trans (by kernel_rfl)) ⟨rfl, ?_⟩)
  refine wpAny_loadName_free S.kind (S.frk _ (by simp)) rfl ⟨_, KX1 _ _ hcell, rfl⟩ ?_
  rw [har]
  refine wpAny_loadName_local S.kind (S.par _ mself) hns hself ?_
  refine ks_wpAny_isType_cls hD1 hD2 ⟨rfl, ?_⟩
  refine ks_wpAny_call_super hD1 hD2 hx rfl (fun c e => by cases e) (PySem.W.looks_mroIn KX1 hsub) (fun h2 e2 k2 => ?_)
  have I2 := I.kept (h' := h2) (t' := s.toks + (ps.zip us).length) k2
  have KX2 : K.In h2 := e0.mod.kin.keeps fun b o e => k2 _ _ (KB1 _ _ e)
  have hx2 := k2 _ _ hx
  have IA2 : PySem.W.InstAt h2 a _ C none := ⟨hx2, rfl, rfl, trivial⟩
  refine PySem.W.kxs_getMethod PySem.W.kxs_ValueError e2 (PySem.W.looks_opaque KX2 hop) (l₀ := cdD.mro) (fun A Q E s k q => wpAny_bind ((PySem.W.looks_clsIn KX2 hD) A _ E s k (wpAny_pure q))) rfl KX2 hini (IA2.type.andThen (PySem.W.looks_subIn KX2 hVE)) anC (by decide +kernel) ?_
  have k3 : ∀ b o, h2.get? b = some o → (h2.push (PySem.W.kxs_mw "ValueError.__init__" a)).get? b = some o := fun b o e => Heap.get?_push_of_some _ e
  have hu3 : (h2.push (PySem.W.kxs_mw "ValueError.__init__" a)).get? h2.objs.size = some (PySem.W.kxs_mw "ValueError.__init__" a) := Heap.get?_push_at rfl rfl
  have I3 := I2.kept (h' := h2.push (PySem.W.kxs_mw "ValueError.__init__" a)) (t' := s.toks + (ps.zip us).length + 1) k3
  have I3p := I3.pins_of (pins' := [(h2.objs.size, PySem.W.kxs_mw "ValueError.__init__" a)]) (fun p hp => by
    rw [List.mem_singleton.mp hp]
    exact ⟨hu3, I2.hok.fresh (Nat.le_refl _), Nat.ne_of_gt I2.lt, I2.nofs (Nat.le_refl _), fun v z => by cases z⟩)
  refine callWith_mw (i := "ValueError.__init__") (x := a) (thn (hPA.run p3 [(h2.objs.size, PySem.W.kxs_mw "ValueError.__init__" a)] _ (startF N vs [none]) H _ I3p hq) fun us' s4 hs4 => ?_) (he _) (hpl _)
  obtain ⟨ws, H4, I4, r4, hlen, hx4, hq4⟩ := hs4
  have hu4 := (I4.pin _ (List.mem_append_right _ (List.mem_singleton.mpr rfl))).1
  refine ⟨hu4, ?_⟩
  obtain ⟨t4, hx4'⟩ := exo_at I4.hok hx4
  obtain ⟨nm, q, N', bs, bm, sn, sub, ab, col, dd, k0, k1, k2', k3', k5, hC, hbm⟩ := T.cls
  have hCh := I4.kIn _ _ hC
  obtain ⟨hp4, g4, d4, tk4, os4⟩ := s4
  refine call_mw hCh hx4' hu4 (by rw [← r4.length, sizeLine_eq]; omega) fun h5 t5 k5' hx5 => ?_
  have J := I4.write (t' := tk4) (x := a) (e := a) (o := exo a C none) (by rw [hx4]; exact True.intro) (.inl rfl) k5' ⟨_, hx5⟩ (exo_ok hx5)
  have eu : upd H4 a (exo a C none) = H4 := by
    funext b
    by_cases hb : b = a
    · rw [hb, upd_same, hx4]
    · rw [upd_ne hb]
  rw [eu] at J
  have J' := J.pins_of (pins' := []) (fun p hp => absurd hp (by simp))
  refine wpAt_of_wpAny (wpAny_mono (hPS.run [] _ (startF N vs [none]) H4 _ J' hq4) (fun fl s' hs => ?_) fun e s' hs => hs)
  have fin : ∀ {σ' : L2.St} {H' : Hp} {v : V} {u : Value}, Inv (ncx CX P w K mg base N (initNF name qual params (.Expr (.Call (.Attribute (.Call (.Name "super" p0) [] [] p1) "__init__" p2) (e :: es) [] p3) p4 :: rest) scope cc cda) fI A outer s H E) [] σ' H' s' → L2.RelV v u → Q v H' → CE outer P w H s Q u s' :=
    fun {σ' H' v u} J rv q => ⟨v, H', J.os, J.bare, J.base, J.hok, rv, q⟩
  cases fl with
  | ret u =>
    obtain ⟨v, σ', H', J, rv, q⟩ := hs
    exact fin J rv q
  | next =>
    obtain ⟨σ', H', J, q⟩ := hs
    exact fin (v := V.non) (u := Value.none) J rfl q
  | brk =>
    obtain ⟨_, _, _, q⟩ := hs
    exact False.elim q
  | cont =>
    obtain ⟨_, _, _, q⟩ := hs
    exact False.elim q
end Dw

/-! Dw31: an own error with a number is raised; defs that raise it -/
namespace Dw
open PySem PySem.Spec PyProof.Rows L2
/-- the first statement of a class -/
def clsInit : Stmt → Stmt
  | .ClassDef _ _ _ (i :: _) _ _ _ _ _ _ _ => i
  | s => s
/-- __init__ keeps the number -/
def spInit (C : Addr) : Sp := fun vs H Q _ => ∃ (a : Addr) (v : V), vs = [.ref a, v] ∧ H a = some (exo a C none) ∧ ∀ dx, H dx = none → dx ≠ a → Q .non (upd (upd H dx (exd dx [("number", v)])) a (exo a C (some dx)))
/-- the error at C of the name x -/
structure TG (P : Program) (w : World) (K : PySem.W.Frag) (mg : Str → Option Value) (base : Heap) (x : Str) (C : Addr) : Prop where
  at_ : mg x = some (.ref C)
  cls : OexC K C
  ini : ∃ (fI : Addr) (fd : FuncData), PySem.W.findIn K (.ref C) "__init__" = some (some (.ref fI)) ∧ PySem.W.typeIn K (.ref fI) = some (.type "function") ∧ FnOk P w K mg base CX0 1 fI fd ["self", "number"] (spInit C) ∧ Binds K fd ["self", "number"] []
  xf : XfC K C
  num : PySem.W.findIn K (.ref C) "number" = some none
  exm : PySem.W.exmOne K (.ref C) (.ref C) = some true
/-- this context lets the error with the number n go -/
def Lets (X : Cx) (G : Gx) (C : Addr) (n : Int) : Prop := ∃ W : WX, Takes X W ∧ ∀ (σ : L2.St) (d : Addr) (H : Hp), Kp G.T G.S G.H0 H → SrcOk G.S H → G.H0 d = none → H d = some (.xd [("number", .int n)]) → W (.ref C) (some d) σ H
/-- a def raises: of the source, the arguments, the number -/
abbrev FE := Option (Addr × Addr) → List D → Int → Prop
def spE (K : PySem.W.Frag) (C : Addr) (fe : FE) : Sp := fun vs H Q E => ∃ (S : Option (Addr × Addr)) (O : List Addr) (ds : List D) (n : Int), RpAll K O H vs ds ∧ SrcOk S H ∧ (∀ a c, S = some (a, c) → a ∈ O ∧ c ∈ O ∧ a ≠ c) ∧ (∀ a ∈ O, ∃ o, H a = some o) ∧
  fe S ds n ∧ ∃ Θ, ∀ d H', Kp Θ S H H' → SrcOk S H' → H d = none → H' d = some (.xd [("number", .int n)]) → E (.ref C) (some d) H'
section
variable {P : Program} {w : World} {K : PySem.W.Frag} {mg : Str → Option Value} {base : Heap}
theorem dfunE {C : Addr} {x qual : Str} {st : Stmt} {f : Addr} {fd : FuncData} {N ps : List Str} {k : Nat} {fe : FE} (F : Fun K x qual st f fd) (Sc : FnScope N ps (defScope st))
    (len : ∀ S ds n, fe S ds n → ds.length = ps.length)
    (body : ∀ {Θ : List (Addr × Str)} (cdv : Value) (A : Around) (outer : List Env) (s : Shared) (H : Hp) (E : XK) (S : Option (Addr × Addr)) (O : List Addr) (ds : List D) (n : Int), Room k (A.deeper (envOfC qual (defScope st) s.heap.objs.size f cdv)) → fe S ds n →
      Lets (cxOf (L2.CX P w) P w K mg base N qual (defScope st) f cdv A outer s H E) ⟨K, S, H, O, [], Θ⟩ C n →
      DSs (cxOf (L2.CX P w) P w K mg base N qual (defScope st) f cdv A outer s H E) ⟨K, S, H, O, [], Θ⟩ (dstart N ds) (defBody st) { nx := fun _ => False, rt := fun _ => False }) : FnOk P w K mg base (L2.CX P w) (k + 1) f fd ps (spE K C fe) := by
  refine F.okX Sc (fun vs H Q E h => ?_) fun cdv A outer s H vs Q E hr h => ?_
  · obtain ⟨S, O, ds, R, r, _, _, _, h, _⟩ := h
    rw [r.length]
    exact len S ds R h
  · obtain ⟨S, O, ds, n, r, hs, hS, ht, h, Θ, q⟩ := h
    exact ⟨_, pss_sem, body cdv A outer s H E S O ds n hr h ⟨_, takes_of rfl rfl rfl rfl, fun σ d H' k s' nd hd => q d H' k s' nd hd⟩ _ H (stOk_start r hs hS ht) _ ⟨fun ρ σ H' I w => w.elim, fun v H' d k s r w => w.elim, fun _ _ _ _ z => z, fun _ _ _ _ z => z⟩⟩
end
section
variable {X : Cx} {G : Gx} {ρ : List Sl} {c : Bool} {Q : D → Prop} {E : DEnds} {e a b : Expr} {es : List Expr} {pos p p2 p3 : Pos}
theorem StOk.none0 {σ : L2.St} {H : Hp} (I : StOk G ρ σ H) {d : Addr} (h : H d = none) : G.H0 d = none := I.ext.back I.src h
/-- a call of a def that raises -/
theorem de_callE {C : Addr} {n : Int} {k : Nat} {f : Addr} {fd : FuncData} {ps : List Str} {fe : FE} {x : Str} (F : FnOk X.prog X.w X.K X.mg X.base (L2.CX X.prog X.w) k f fd ps (spE X.K C fe)) (L : Lets X G C n) (hK : X.K = G.K) (hr : Room k X.A) (hm : X.mg x = some (.ref f)) (hk : PySem.W.keepIn X.K (.ref f) = true) (hb : Binds X.K fd ps [])
    (h : DA X G ρ c (e :: es) fun ds => fe G.S ds n) (hg : Gl X x := by rfl) (hdb : (x == ("__debug__" : Str)) = false := by decide)
    (he : starEach (e :: es) X.env = (false, eval e X.env) :: starEach es X.env := by rfl) (hpl : (backTo pos (starEach es X.env)).any (·.1) = false := by rfl) : DE X G ρ c (.Call (.Name x p) (e :: es) [] pos) Q := fun σ H I Q' U => by
  obtain ⟨W, tk, hW⟩ := L
  refine sem_of (L2.pe_call (E := fun cls d H' => ∀ σ, W cls d σ H') F hr hg hm hk hb .nil (passes_call tk fun cls d σ H' z => z σ) pa_sem hdb he hpl) (h σ H I _ fun vs H1 ds k1 s1 r q => ?_)
  show spE X.K C fe (vs ++ []) H1 Q' _
  rw [List.append_nil, hK]
  have I1 := I.kp k1 s1
  exact ⟨G.S, bs G ρ c, ds, n, r, s1, fun a c e => ⟨(I1.srcB e).1, (I1.srcB e).2, (I1.srcO a c e).2.2⟩, I1.trkB, q, G.T, fun d H' k2 s2 nd hd σ' => hW σ' d H' (I1.ext.trans k2) s2 (I1.none0 nd) hd⟩
/-- raise x(e) -/
theorem ds_raise {C : Addr} {n : Int} {x : Str} (T : TG X.prog X.w X.K X.mg X.base x C) (L : Lets X G C n) (hc : X.calm = true) (hr : Room 2 X.A) (hx : Passes CX0 X (fun _ _ _ => False))
    (h : DE X G ρ c e fun d => d = .int n) (hg : Gl X x := by rfl) (hdb : (x == ("__debug__" : Str)) = false := by decide)
    (he : starEach [e] X.env = (false, eval e X.env) :: starEach [] X.env := by rfl) (hpl : (backTo pos (starEach [] X.env)).any (·.1) = false := by rfl) : DS X G ρ (.Raise (some (.Call (.Name x p) [e] [] pos)) none p2) E := fun σ H I D U => by
  obtain ⟨W, tk, hW⟩ := L
  obtain ⟨fI, fd, iC, tI, F1, hb⟩ := T.ini
  refine ssem_of (ps_raise hc tk (pmk_oex (ds := []) (dvs := []) T.cls iC tI F1 hr hb .nil hx hg T.at_ (pa_cons pe_sem pa_nil he) hdb he hpl)) (h σ H I _ fun v H1 d k1 s1 r q => ?_)
  subst q
  cases r
  refine ⟨by simp, fun a na => ⟨a, .int n, rfl, upd_same, fun dx ndx ne => ⟨rfl, dx, _, upd_same, by rw [upd_ne ne, upd_same], by rw [upd_ne ne] at ndx; exact ndx, ?_⟩⟩⟩
  have I1 := I.kp k1 s1
  have ndx1 : H1 dx = none := by rw [upd_ne ne] at ndx; exact ndx
  have eH : ∀ b, b ≠ dx → upd (del (upd (upd (upd H1 a (exo a C none)) dx (exd dx [("number", .int n)])) a (exo a C (some dx))) a) dx (.xd [("number", .int n)]) b = H1 b := fun b hb => by
    rw [upd_ne hb]
    by_cases ha : b = a
    · rw [ha, del_same, na]
    · rw [del_ne ha, upd_ne ha, upd_ne hb, upd_ne ha]
  have al : ∀ b o, H1 b = some o → upd (del (upd (upd (upd H1 a (exo a C none)) dx (exd dx [("number", .int n)])) a (exo a C (some dx))) a) dx (.xd [("number", .int n)]) b = some o := fun b o z => by
    rw [eH b (fun w => by rw [w, ndx1] at z; cases z)]; exact z
  exact hW σ dx _ (I1.ext.trans (.of_all al)) (s1.of_all al) (I1.none0 ndx1) upd_same
end
end Dw

/-! Dw32: lambdas that are told to a def; what they answer, or the number of what they raise -/
namespace Dw
open PySem PySem.Spec PyProof.Rows L2 LamX
/-- of the table at P a code object c' of the name q is known; it was there, or it came -/
def Grow (P : Addr) (q : Str) (c' : Addr) (H H1 : Hp) : Prop := H1 = H ∨ ∃ ps ps' : Array Value, H P = some (.tbl ps) ∧ H c' = none ∧ H1 = upd (upd H P (.tbl ps')) c' (CodeO c' q) ∧ TabS H1 P q
theorem Grow.kp {P : Addr} {q : Str} {c' : Addr} {H H1 : Hp} (g : Grow P q c' H H1) {Θ : List (Addr × Str)} (hu : ∀ p ∈ Θ, p.1 = P → p.2 = q) (S : Option (Addr × Addr)) : Kp Θ S H H1 := by
  rcases g with rfl | ⟨ps, ps', hP, hc, rfl, ht⟩
  · exact .refl _ _ _
  · have nPc : P ≠ c' := ne_of_none hP hc
    have to : ∀ b o, H b = some o → nT o → upd (upd H P (.tbl ps')) c' (CodeO c' q) b = some o := fun b o e n => by
      rw [upd_ne (ne_of_none e hc), upd_ne (fun z => n ps (by rw [z, hP] at e; exact (Option.some.inj e).symm))]
      exact e
    refine ⟨fun b o _ e n => to b o e n, fun b o e => ?_, fun t p hp => ?_⟩
    · by_cases h1 : b = c'
      · exact ⟨_, by rw [h1]; exact upd_same⟩
      · by_cases h2 : b = P
        · exact ⟨_, by rw [h2, upd_ne nPc]; exact upd_same⟩
        · exact ⟨o, by rw [upd_ne h1, upd_ne h2]; exact e⟩
    · by_cases h2 : p.1 = P
      · rw [hu p hp h2, h2]
        exact ht
      · obtain ⟨us, e1, e2, e3⟩ := t p hp
        refine ⟨us, by rw [upd_ne (ne_of_none e1 hc), upd_ne h2]; exact e1, e2, fun pos cv h => ?_⟩
        obtain ⟨k, e4, e5⟩ := e3 pos cv h
        exact ⟨k, e4, to k _ e5 fun ps => codeO_ne ps⟩
theorem Grow.src {P : Addr} {q : Str} {c' : Addr} {H H1 : Hp} (g : Grow P q c' H H1) {S : Option (Addr × Addr)} (s : SrcOk S H) : SrcOk S H1 := by
  have k := g.kp (Θ := []) (fun p hp => nomatch hp) none
  intro a c e
  obtain ⟨cells, l, m, t, e1, e2, e3⟩ := s a c e
  exact ⟨cells, l, m, t, k.at a _ (fun _ _ z => nomatch z) e1, k.at c _ (fun _ _ z => nomatch z) e2, e3⟩
section
variable {X : Cx} {pins : List (Addr × Obj)} {σ : L2.St} {H : Hp} {s : Shared}
theorem lam_mk {c P : Addr} {params : Arguments} {body : Expr} {scope : Scope} {pos : Pos} {E Q : Value → Shared → Prop} (I : Inv X pins σ H s) (TB : TabB X.base X.mg c P) (hcode : X.env.code = .ref c)
    (hT : TabS H P (X.env.qual ++ "<lambda>")) (hdef : defaultsOf params X.env = ([], [])) (hfree : ∀ y ∈ scope.names, y.2 = .free → ∃ c, X.env.cells.lookup y.1 = some c)
    (h : ∀ (f c' : Addr) (pm ctv : Value) (H1 : Hp) (s' : Shared), Inv X pins σ H1 s' → Grow P (X.env.qual ++ "<lambda>") c' H H1 →
      s'.heap.get? f = some (PySem.W.kla_obj "<lambda>" (X.env.qual ++ "<lambda>") params body scope (cloFrom X.env.cells scope.names []) pm c' ctv) → H1 f = none → f ∉ frs X.stack → H1 c' = some (CodeO c' (X.env.qual ++ "<lambda>")) → Q (.ref f) s') :
    wpAny (model X.prog X.w) X.A (eval (.Lambda params body scope pos) X.env) Q E s := by
  obtain ⟨ps, hP, ht, ha⟩ := hT
  have fr : ∀ f, s.heap.objs.size ≤ f → f ∉ frs X.stack := fun f hf z => by
    rcases List.mem_cons.mp (I.stkSub _ z) with e | e
    · exact absurd (e ▸ I.lt) (Nat.not_lt_of_le hf)
    · exact I.nofs hf e
  refine PySem.W.kla_eval hdef ?_
  have bP : s.heap.BuiltinsAt X.mg P := TB.bm.keeps I.bk
  have hP' : s.heap.get? P = some { cls := .none, data := .fields ps } := I.hok P _ hP
  by_cases hc : codeAmong pos ps.toList = none
  · refine PySem.W.kla_makeFunction (mg := X.mg) (c := c) (P := P) (ps := ps) (closure_ok hfree) I.ok.glob (I.mod.glob.keeps I.bk) hcode (TB.code.keeps I.bk) hP' ht hc TB.gP bP fun c' ctv h' tk hx ge lt hrec htb => ?_
    obtain ⟨k, oc, vs, t, ek, hoc, hd, hv⟩ := hrec
    cases ek
    have nC : H c' = none := I.hok.fresh ge
    have nPc : P ≠ c' := ne_of_none hP nC
    have sz : s.heap.objs.size ≤ h'.objs.size := Nat.le_trans ge (Nat.le_of_lt lt)
    have J := inv_table (t' := tk) (more := #[rawInt pos.line, rawInt pos.col, .ref c']) (h' := h'.push (PySem.W.kla_obj "<lambda>" (X.env.qual ++ "<lambda>") params body scope (cloFrom X.env.cells scope.names []) ((X.mg "__name__").getD .none) c' ctv)) I hP
      (fun b o hb e => Heap.get?_push_of_some _ (hx b o hb e)) (Heap.get?_push_of_some _ htb) ge ⟨oc, vs, t, Heap.get?_push_of_some _ hoc, hd, hv⟩
    refine h h'.objs.size c' _ ctv _ _ J (.inr ⟨ps, _, hP, nC, rfl, _, by rw [upd_ne nPc]; exact upd_same, ?_, fun p' cv z => ?_⟩) (Heap.get?_push_size _ rfl) ?_ (fr _ sz) upd_same
    · rw [Array.toList_append]
      exact PySem.TriplesOk_snoc _ _ _ _ ht
    · rw [Array.toList_append] at z
      rcases among_app _ ht z with z | z
      · obtain ⟨k, e1, e2⟩ := ha p' cv z
        exact ⟨k, e1, by rw [upd_ne (ne_of_none e2 nC), upd_ne (fun w => by rw [w, hP] at e2; exact codeO_ne ps (Option.some.inj e2).symm)]; exact e2⟩
      · exact ⟨c', z, upd_same⟩
    · rw [upd_ne (Nat.ne_of_gt lt), upd_ne (Nat.ne_of_gt (Nat.lt_of_lt_of_le (Heap.lt_size hP') sz))]
      exact I.hok.fresh sz
  · obtain ⟨cv, hcv⟩ := Option.ne_none_iff_exists'.mp hc
    obtain ⟨c', rfl, hco⟩ := ha pos cv hcv
    refine PySem.W.kla_makeFunctionHit (mg := X.mg) (c := c) (P := P) (ps := ps) (closure_ok hfree) I.ok.glob (I.mod.glob.keeps I.bk) hcode (TB.code.keeps I.bk) hP' ht hcv bP fun ctv h' tk hx sz => ?_
    have J : Inv X pins σ H { s with heap := h'.push (PySem.W.kla_obj "<lambda>" (X.env.qual ++ "<lambda>") params body scope (cloFrom X.env.cells scope.names []) ((X.mg "__name__").getD .none) c' ctv), toks := tk } := I.kept fun b o e => Heap.get?_push_of_some _ (hx b o e)
    exact h h'.objs.size c' _ ctv H _ J (.inl rfl) (Heap.get?_push_size _ rfl) (I.hok.fresh sz) (fr _ sz) hco
end
section
variable {X : Cx}
/-- x(lambda: body): x's promise TT of what the lambda reads; the table grows first -/
def tLamG (P : Addr) (q : Str) (TT : (XK → Hp → VK → Prop) → Hp → VK → Prop) (t : XK → TE) : TE := fun σ H Q => TabS H P q ∧ ∀ c' H1, Grow P q c' H H1 → TT (fun E H' Q' => t E σ H' Q') H1 Q
theorem pe_lamG {TT : (XK → Hp → VK → Prop) → Hp → VK → Prop} {x a : Str} {g c P : Addr} {k : Nat} {pg : Arguments} {bg : List Stmt} {sg : Scope} {dV kV doc pm cdv ct oc : Value} {an od : Option Addr} {osl : Array (Option Value)} {Ng : List Str}
    {params : Arguments} {body : Expr} {scope : Scope} {t : XK → TE} {p lpos pos : Pos} (hg : Gl X x) (hm : X.mg x = some (.ref g)) (hk : PySem.W.keepIn X.K (.ref g) = true)
    (lk : X.K.lookup g = some ⟨oc, od, .func (PySem.W.fnOf x x pg bg sg dV kV doc pm an cdv ct), osl⟩) (hcg : PySem.W.codeIn X.K cdv x = true) (hb : L2.Binds X.K (PySem.W.fnOf x x pg bg sg dV kV doc pm an cdv ct) [a] []) (Sg : FnScope Ng [a] sg) (hNg : Ng[0]? = some a) (hva : Vis sg a)
    (hG : GivesTo X Ng x sg g cdv bg a (X.env.qual ++ "<lambda>") TT) (TB : TabB X.base X.mg c P) (hcode : X.env.code = .ref c) (hr : Room (k + 2) X.A) (L : LamS X.env.scope scope) (hdef : defaultsOf params X.env = ([], []))
    (hbind : ∀ (q : Str) (cl : List (Str × Addr)) (pm cv ctv : Value), bindArgs (PySem.W.kla_fn "<lambda>" q params body scope cl pm cv ctv) ⟨[], []⟩ = pure [])
    (hbody : ∀ (A : Around) (outer : List Env) (s : Shared) (H : Hp) (E : XK) (f c' : Addr), Room k (A.deeper (lamEnv X scope s.heap.objs.size f c')) → PE (lamCx X A outer s H E scope f c') body (t E))
    (hdb : (x == ("__debug__" : Str)) = false := by decide) (hd : (a == ("__debug__" : Str)) = false := by decide) (hcd : (a == ("__classdict__" : Str)) = false := by decide) :
    PE X (.Call (.Name x p) [.Lambda params body scope lpos] [] pos) (tLamG P (X.env.qual ++ "<lambda>") TT t) := by
  refine ⟨fun pins s σ H Q I ⟨hT, h⟩ => ?_⟩
  refine wpAny_Call_Name_kw (ld_glob I hg hm ?_ hdb)
  refine PySem.W.callWith_K (h₀ := X.base) I.ok.mod.kin hk ?_ (by rfl) (by rfl)
  show wpAny _ _ (spliced ((false, eval (.Lambda params body scope lpos) X.env) :: backTo pos (starEach [] X.env))) _ _ s
  refine Calls.spliced_cons (lam_mk I TB hcode hT hdef (L.has I.ok) fun f c' pm' ctv H1 s' I1 gr hf hfn hfr hco => Calls.spliced_nil ⟨I1.kIn, ?_⟩)
  refine wpAny_call (codeAny_mono (run_ofS (E := C8.E0) (CX := C8.CX0) (Q := Q) (N := Ng) (ps := [a]) (us := [.ref f]) (vs := [.ref f]) lk hcg Sg hr I1.env0 (hb s' [.ref f] I1.kIn rfl) (.cons rfl .nil) rfl fun hr' => ?_) fun r s2 hq => ?_)
  · obtain ⟨t', ht', hq'⟩ := hG f c' s' H1 Q (fun E H' Q' => t E σ H' Q') (fun W pn xe E p1 p2 tk hW => pe_act (i := 0) I1 L hf hfn hfr (hbind _ _ _ _ _) tk hW hr' (fun A outer s H hr2 => hbody A outer s H E f c' hr2) hNg hva hd hcd) hco (h c' H1 gr)
    exact ⟨t', ht'.nox, hq'⟩
  · rcases r with e | fl
    · exact (show False from hq).elim
    · cases fl with
      | ret u => exact I1.after hq
      | next => exact False.elim hq
      | brk => exact False.elim hq
      | cont => exact False.elim hq
end
end Dw

/-! Dw33: what a lambda answers is told, or the number of the error -/
namespace Dw
open PySem PySem.Spec PyProof.Rows L2 LamX
/-- own lists are forgotten -/
def unown1 : Sl → Sl
  | .own _ _ => .any
  | .ownD _ _ => .any
  | s => s
def unown (ρ : List Sl) : List Sl := ρ.map unown1
theorem owns_unown : ∀ ρ : List Sl, owns (unown ρ) = []
  | [] => rfl
  | s :: r => by
    show (unown1 s).addr ++ owns (unown r) = []
    rw [owns_unown r]
    cases s <;> rfl
/-- the surroundings of a lambda's body that is run at H -/
abbrev Gx.lam (G : Gx) (ρ : List Sl) (H : Hp) : Gx := ⟨G.K, G.S, H, G.O ++ owns ρ, G.P, G.T⟩
section
variable {X : Cx} {G : Gx} {ρ : List Sl} {c : Bool} {Q : D → Prop}
theorem StOk.lam {σ : L2.St} {H : Hp} (I : StOk G ρ σ H) : StOk (G.lam ρ H) (unown ρ) σ H := by
  have e : (G.lam ρ H).O ++ owns (unown ρ) = G.O ++ owns ρ := by rw [owns_unown, List.append_nil]
  refine ⟨by rw [I.len]; exact (List.length_map _).symm, fun i s h => ?_, Kp.refl _ _ _, I.src, fun a c e => ⟨(I.srcA e).1, (I.srcA e).2, (I.srcO a c e).2.2⟩, fun a ha => ?_, by rw [owns_unown]; exact List.nodup_nil, fun a ha => (by rw [owns_unown] at ha; cases ha), fun a ha => (by rw [owns_unown] at ha; cases ha), fun p hp => by rw [e]; exact I.pin p hp⟩
  · unfold unown at h
    rw [List.getElem?_map] at h
    cases h0 : ρ[i]? with
    | none => rw [h0] at h; cases h
    | some t =>
      rw [h0] at h
      obtain ⟨x, hx, ok⟩ := I.slot i t h0
      have h' : unown1 t = s := Option.some.inj h
      subst h'
      refine ⟨x, hx, ?_⟩
      rw [e]
      cases t with
      | any => trivial
      | dat d => exact ok
      | own a ds => trivial
      | ownD a es => trivial
  · rcases List.mem_append.mp ha with h | h
    · exact I.trk a h
    · exact I.trkO a h
/-- what is told, or the number of what is great -/
def TTw (C : Addr) (t1 t2 : Str) : (XK → Hp → VK → Prop) → Hp → VK → Prop := fun tl H Q =>
  tl (fun cls d H' => ∃ dd n, cls = .ref C ∧ d = some dd ∧ H' dd = some (.xd [("number", .int n)]) ∧ ∀ p, H' p = none → Q (.ref p) (upd H' p (.tup [.str t2, .int n]))) H (fun v H' => ∀ p, H' p = none → Q (.ref p) (upd H' p (.tup [.str t1, v])))
theorem takes_len {X : Cx} {W : WX} (t : Takes X W) : Takes X fun cls d σ H => σ.length = X.N.length → W cls d σ H := fun u s' ⟨a, B, sI, pins, σ, H, cls, d, e, I, nb, up, sky, na, os, ag, w⟩ =>
  t u s' ⟨a, B, sI, pins, σ, H, cls, d, e, I, nb, up, sky, na, os, ag, w I.len⟩
/-- what a told-def is: its place, its code, what it makes of a lambda -/
structure Told (P : Program) (w : World) (K : PySem.W.Frag) (mg : Str → Option Value) (base : Heap) (x a : Str) (C : Addr) (t1 t2 : Str) : Prop where
  ex : ∃ (g : Addr) (st : Stmt) (Ng : List Str) (oc : Value) (od an : Option Addr) (kV doc pm cdv ct : Value) (osl : Array (Option Value)), mg x = some (.ref g) ∧ PySem.W.keepIn K (.ref g) = true ∧
    K.lookup g = some ⟨oc, od, .func (PySem.W.fnOf x x (defArgs st) (defBody st) (defScope st) .none kV doc pm an cdv ct), osl⟩ ∧ PySem.W.codeIn K cdv x = true ∧ L2.Binds K (PySem.W.fnOf x x (defArgs st) (defBody st) (defScope st) .none kV doc pm an cdv ct) [a] [] ∧
    FnScope Ng [a] (defScope st) ∧ Ng[0]? = some a ∧ Vis (defScope st) a ∧
    ∀ (X : Cx) (q : Str), X.prog = P → X.w = w → X.K = K → X.mg = mg → X.base = base → GivesTo X Ng x (defScope st) g cdv (defBody st) a q (TTw C t1 t2)
theorem de_told {x a : Str} {C P cd : Addr} {t1 t2 : Str} {k : Nat} {params : Arguments} {body : Expr} {scope : Scope} {p lpos pos : Pos} {R : D → Prop} {Wn : Int → Prop} (T : Told X.prog X.w X.K X.mg X.base x a C t1 t2) (hK : X.K = G.K) (hr : Room (k + 2) X.A)
    (TB : TabB X.base X.mg cd P) (hcode : X.env.code = .ref cd) (hT : Tabs G.T G.H0) (hm : (P, X.env.qual ++ "<lambda>") ∈ G.T) (hu : ∀ p ∈ G.T, p.1 = P → p.2 = X.env.qual ++ "<lambda>") (L : LamS X.env.scope scope)
    (hbody : ∀ (A : Around) (outer : List Env) (s : Shared) (H HZ : Hp) (E : XK) (f c' : Addr), Room k (A.deeper (lamEnv X scope s.heap.objs.size f c')) → (∀ n, Wn n → Lets (lamCx X A outer s H E scope f c') (G.lam ρ HZ) C n) → DE (lamCx X A outer s H E scope f c') (G.lam ρ HZ) (unown ρ) true body R)
    (hR : ∀ d, R d → Q (.tup [.str t1, d])) (hW : ∀ n, Wn n → Q (.tup [.str t2, .int n]))
    (hg : Gl X x := by rfl) (hdef : defaultsOf params X.env = ([], []) := by rfl)
    (hbind : ∀ (q : Str) (cl : List (Str × Addr)) (pm cv ctv : Value), bindArgs (PySem.W.kla_fn "<lambda>" q params body scope cl pm cv ctv) ⟨[], []⟩ = pure [] := by intros; rfl)
    (hdb : (x == ("__debug__" : Str)) = false := by decide) (hd : (a == ("__debug__" : Str)) = false := by decide) (hcd : (a == ("__classdict__" : Str)) = false := by decide) :
    DE X G ρ c (.Call (.Name x p) [.Lambda params body scope lpos] [] pos) Q := fun σ H I Q' U => by
  obtain ⟨g, st, Ng, oc, od, an, kV, doc, pm, cdv, ct, osl, mg, kg, lk, hcg, hb, Sg, hNg, hva, hG⟩ := T.ex
  refine sem_of (pe_lamG (k := k) (t := fun E σ H Q => ∀ A outer s H0 f c', Room k (A.deeper (lamEnv X scope s.heap.objs.size f c')) → eSem (lamCx X A outer s H0 E scope f c') body σ H Q) hg mg kg lk hcg hb Sg hNg hva (hG X _ rfl rfl rfl rfl rfl) TB hcode hr L hdef hbind
    (fun A outer s H0 E f c' hr' => ⟨fun pins s' σ' H' Q'' I' h => (pe_sem (X := lamCx X A outer s H0 E scope f c') (e := body)).run pins s' σ' H' Q'' I' (h A outer s H0 f c' hr')⟩) hdb hd hcd) ⟨I.ext.tab hT _ hm, fun c' H1 gr => ?_⟩
  have k1 : Kp G.T G.S H H1 := gr.kp hu G.S
  have I1 := I.kp k1 (gr.src I.src)
  have sub : ∀ b ∈ bs G ρ c, b ∈ G.O ++ owns ρ := fun b hb => bs_mem hb
  intro A outer s H0 f c2 hr'
  have fresh : ∀ {p' : Addr} {H2 : Hp}, Kp G.T G.S H1 H2 → SrcOk G.S H2 → H2 p' = none → p' ∉ bs G ρ c := fun {p' H2} k2 s2 hp m => by
    obtain ⟨o, e⟩ := ((I.kp k1 (gr.src I.src)).kp k2 s2).trkB p' m
    rw [hp] at e; cases e
  refine hbody A outer s H0 H1 _ f c2 hr' (fun n hn => ?l) σ H1 I1.lam _ ?u
  case l =>
    refine ⟨_, takes_of rfl rfl rfl rfl, fun σ2 dd H2 k2 s2 nd hx => ?_⟩
    refine ⟨dd, n, rfl, rfl, hx, fun p' hp => ?_⟩
    exact U _ _ (.tup [.str t2, .int n]) ((k1.trans k2).trans (.new hp)) (s2.new hp) (.tup upd_same (fresh k2 s2 hp) (.cons (.str _) (.cons (.int _) .nil))) (hW n hn)
  case u =>
    intro v H2 d k2 s2 r hd' p' hp
    refine U _ _ (.tup [.str t1, d]) ((k1.trans k2).trans (.new hp)) (s2.new hp) (.tup upd_same (fresh k2 s2 hp) (.cons (.str _) (.cons ?_ .nil))) (hR d hd')
    refine Rp.new hp (r.mv (mv_sub fun b hb => ?_))
    show b ∈ bs (G.lam ρ H1) (unown ρ) true
    unfold bs
    rw [if_pos rfl]
    exact List.mem_append_left _ (sub b hb)
end
end Dw

/-! Dw34: the law's call, where lambdas are made: tables of code objects -/
namespace Dw
open PySem PySem.Spec PyProof.Rows L2 LamX
/-- what a law with tables promises -/
def spLawT (cs : List (Addr × Addr)) (K : PySem.W.Frag) : Sp := fun vs H Q _ => ∃ (s : Addr) (ns : List Int), vs = [.ref s] ∧ SqL K H s (ns.map V.int) ∧ ns.length ≤ 63 ∧ (∀ p ∈ cs, H p.2 = some (.tbl #[])) ∧ ∀ H', Q (.bl true) H'
theorem lawGT {P : Program} {w : World} {K : PySem.W.Frag} {mg mb : Str → Option Value} {k : Nat} {fa a : Addr} {cs : List (Addr × Addr)} {fd : FuncData} {x : Str} {sp : Sp} {s₁ : Shared} {vs : List Value} {ns : List Int} (KX : K.In s₁.heap) (hns : s₁.heap.Ns mainGlobals mg)
    (hb : s₁.heap.Ns builtinsNs mb) (hbb : ∀ x : Str, x ≠ "__name__" → mb x = bootBuiltins x) (hlim : s₁.heap.NoLimit) (hg : s₁.gens = #[]) (ha : s₁.heap.get? a = some { cls := .type "list", data := .seq vs.toArray }) (hi : IntsAre vs ns) (hl : ns.length ≤ sizeLine) (hr : Room k callerA)
    (hT : ∀ p ∈ cs, s₁.heap.get? p.2 = some { cls := .none, data := .fields #[] }) (nK : ∀ p ∈ cs, K.lookup p.2 = none) (hC : ∀ p ∈ cs, PySem.W.CodeHd s₁.heap p.1 p.2)
    (hbm : ∃ (bm : Addr) (ob : Obj), mg "__builtins__" = some (.ref bm) ∧ bm ≠ builtinsNs ∧ s₁.heap.get? bm = some ob ∧ ob.cls = .type "module" ∧ ob.dict = some builtinsNs ∧ ob.data = .plain)
    (F : ∀ base : Heap, K.In base → base.Ns mainGlobals mg → (∀ p ∈ cs, TabB base mg p.1 p.2) → FnG P w K mg base k fa fd [x] sp) (hbind : ∀ (s : Shared) (u : Value), BindsTo s fd ⟨[u], []⟩ [(x, u)])
    (hsp : ∀ H : Hp, (∀ p ∈ cs, H p.2 = some (.tbl #[])) → SqL K H a (ns.map V.int) → sp [.ref a] H (fun v _ => v = .bl true) E0) :
    codeAny (model P w) callerA (.call (.ref fa) ⟨[.ref a], []⟩) (fun r s' => r = .ok (.ret (.bool true)) ∧ OldK s₁.heap s'.heap ∧ s'.os = s₁.os ∧ AllBare s'.gens) s₁ := by
  have rv : Vals (ns.map V.int) vs := vals_ints hi
  have lv := hi.length
  have lst : (ns.map V.int).length ≤ sizeLine := by rw [List.length_map]; exact hl
  let TS : Addr → Prop := fun b => ∃ p ∈ cs, p.2 = b
  have tabAt : ∀ {b}, TS b → s₁.heap.get? b = some { cls := .none, data := .fields #[] } := fun ⟨p, hp, e⟩ => e ▸ hT p hp
  have nTa : ¬ TS a := fun z => by
    have e := tabAt z
    rw [ha] at e
    exact (nomatch (congrArg Obj.data (Option.some.inj e) : Data.seq vs.toArray _ = Data.fields #[]))
  have run : ∀ H : Hp, (∀ p ∈ cs, H p.2 = some (.tbl #[])) → (∀ b, ¬ TS b → H b = none ∨ ∃ o xs, H b = some (.frz o (.lst xs))) → SqL K H a (ns.map V.int) → HOk P w H s₁.heap → (∀ b, H b ≠ none → b = a ∨ TS b) → (H a ≠ none → K.lookup a = none) →
      codeAny (model P w) callerA (.call (.ref fa) ⟨[.ref a], []⟩) (fun r s' => r = .ok (.ret (.bool true)) ∧ OldK s₁.heap s'.heap ∧ s'.os = s₁.os ∧ AllBare s'.gens) s₁ := fun H hH hO hS hok hA hKa => by
    have toB : ∀ {b : Addr} {o : Obj}, s₁.heap.get? b = some o → H b = none → (hidT s₁.heap H).get? b = some o := fun e n => hidT_get e n
    -- what is neither a list nor an empty record is out of sight
    have off : ∀ {b : Addr} {o : Obj}, s₁.heap.get? b = some o → (∀ xs n, o.data ≠ .seq xs n) → o.data ≠ .fields #[] → H b = none := fun {b o} e h1 h2 => Classical.byContradiction fun z => by
      rcases hA b z with rfl | t
      · rw [ha] at e
        cases e
        exact h1 _ _ rfl
      · rw [tabAt t] at e
        cases e
        exact h2 rfl
    have nsB : ∀ {b : Addr} {m : Str → Option Value}, s₁.heap.Ns b m → (hidT s₁.heap H).Ns b m := fun {b m} ⟨o, es, ep, e, d, r⟩ => ⟨o, es, ep, toB e (off e (fun _ _ z => by rw [d] at z; cases z) (fun z => by rw [d] at z; cases z)), d, r⟩
    have kB : K.In (hidT s₁.heap H) := fun b o e => toB (KX b o e) (Classical.byContradiction fun z => by
      rcases hA b z with rfl | ⟨p, hp, rfl⟩
      · rw [hKa z] at e; cases e
      · rw [nK p hp] at e; cases e)
    have md : Mod K mg (hidT s₁.heap H) := ⟨kB, nsB hns, ⟨mb, nsB hb, hbb⟩, let ⟨mc, h1, h2⟩ := hlim; ⟨mc, nsB h1, h2⟩⟩
    have tb : ∀ p ∈ cs, TabB (hidT s₁.heap H) mg p.1 p.2 := fun p hp => by
      have ne : ∀ {b : Addr} {o : Obj}, s₁.heap.get? b = some o → o.data ≠ .fields #[] → b ≠ p.2 := fun e n z => by
        rw [z, hT p hp] at e
        cases e
        exact n rfl
      refine ⟨?_, ?_, ?_⟩
      · obtain ⟨o, us, file, tf, flags, tg, inF, text, tt, e1, r1, r2, r3, r4⟩ := hC p hp
        exact ⟨o, us, file, tf, flags, tg, inF, text, tt, toB e1 (off e1 (fun _ _ z => by rw [r2] at z; cases z) (fun z => by rw [r2] at z; cases z; simp at r3)), r1, r2, r3, r4⟩
      · obtain ⟨bm, ob, b1, b2, b3, b4, b5, b6⟩ := hbm
        have pl : ob.data ≠ .fields #[] := fun z => by rw [b6] at z; cases z
        refine ⟨bm, ob, b1, b2, fun z => ?_, ne b3 pl, toB b3 (off b3 (fun _ _ z => by rw [b6] at z; cases z) pl), b4, b5, b6⟩
        obtain ⟨o, es, ep, e, d, _⟩ := hns
        rw [z, e] at b3
        cases b3
        rw [d] at b6
        cases b6
      · obtain ⟨o, es, ep, e, d, _⟩ := hns
        exact ne e (fun z => by rw [d] at z; cases z)
    have env : Env0 P w K mg (hidT s₁.heap H) callerA [] s₁ H := ⟨rfl, md, fun b o e => of_hidT e, Nat.le_of_eq (hidT_size _ _), trivial, (fun b hb => nomatch hb), hok, .of_eq hg⟩
    refine codeAny_mono ((F _ kB (nsB hns) tb).run callerA [] s₁ H ⟨[.ref a], []⟩ [.ref a] [.ref a] _ hr rfl env (hbind s₁ (.ref a)) (.cons rfl .nil) (hsp H hH hS)) ?_
    rintro (e | fl) s' h
    · exact False.elim h
    · cases fl with
      | next => exact False.elim h
      | brk => exact False.elim h
      | cont => exact False.elim h
      | ret u =>
        obtain ⟨v, H', os, bare, un, hok', r', q⟩ := h
        replace q : v = .bl true := q
        subst q
        replace r' : u = Value.bool true := r'
        subst r'
        have stay : ∀ b o, ¬ TS b → s₁.heap.get? b = some o → s'.heap.get? b = some o := fun b o nb e => by
          cases q : H b with
          | none => exact un.keep b o e q (fun z => nomatch z) (fun z => nomatch z)
          | some u =>
            rcases hO b nb with z | ⟨ob, xs, z⟩
            · rw [q] at z; cases z
            · obtain ⟨e1, _⟩ := hok b _ z
              obtain ⟨e2, _⟩ := hok' b _ (un.frzs b ob _ z)
              rw [e] at e1
              cases e1
              exact e2
        have grew : ∀ p ∈ cs, ∃ more : Array Value, s'.heap.get? p.2 = some { cls := .none, data := .fields more } := fun p hp => let ⟨more, z⟩ := un.tbls p.2 #[] (hH p hp); ⟨_, hok' p.2 _ z⟩
        refine ⟨rfl, ⟨fun b o e => ?_, fun b o e => ?_⟩, os, bare⟩
        · by_cases hb : TS b
          · obtain ⟨p, hp, rfl⟩ := hb
            obtain ⟨more, hm⟩ := grew p hp
            rw [hT p hp] at e
            cases e
            exact .inr (.inl ⟨((hC p hp).tab (hT p hp)).isCodeTable, rfl, #[], more, rfl, by rw [Array.empty_append]; exact hm⟩)
          · exact .inl (stay b o hb e)
        · by_cases hb : TS b
          · obtain ⟨p, hp, rfl⟩ := hb
            obtain ⟨more, hm⟩ := grew p hp
            exact ⟨_, hm⟩
          · exact ⟨o, stay b o hb e⟩
  classical
  cases hk : K.lookup a with
  | some o =>
    have e := KX a o hk
    rw [ha] at e
    cases e
    refine run (fun b => if TS b then some (.tbl #[]) else none) (fun p hp => if_pos ⟨p, hp, rfl⟩) (fun b hb => .inl (if_neg hb)) (.inr ⟨_, vs.toArray, _, hk, rfl, rfl, rfl, by rw [List.size_toArray, lv]; exact hl, by simpa using rv⟩) (fun b u z => ?_) (fun b z => ?_) (fun z => absurd (if_neg nTa) z)
    · by_cases hb : TS b
      · have z' := (if_pos hb).symm.trans z
        cases z'
        exact tabAt hb
      · exact nomatch (if_neg hb).symm.trans z
    · by_cases hb : TS b
      · exact .inr hb
      · exact absurd (if_neg hb) z
  | none =>
    let H : Hp := fun b => if b = a then some (.frz { cls := .type "list", data := .seq vs.toArray } (.lst (ns.map V.int))) else if TS b then some (.tbl #[]) else none
    have Ha : H a = some (.frz { cls := .type "list", data := .seq vs.toArray } (.lst (ns.map V.int))) := if_pos rfl
    have Ht : ∀ b, TS b → H b = some (.tbl #[]) := fun b hb => (if_neg (show ¬ b = a from fun z => nTa (z ▸ hb))).trans (if_pos hb)
    have Hn : ∀ b, b ≠ a → ¬ TS b → H b = none := fun b h1 h2 => (if_neg h1).trans (if_neg h2)
    refine run H (fun p hp => Ht _ ⟨p, hp, rfl⟩) (fun b hb => ?_) (.inl (.inr ⟨_, Ha⟩)) (fun b u z => ?_) (fun b z => ?_) (fun _ => hk)
    · by_cases h : b = a
      · exact .inr ⟨_, _, h ▸ Ha⟩
      · exact .inl (Hn b h hb)
    · by_cases h : b = a
      · subst h
        cases Ha.symm.trans z
        exact ⟨ha, lst, vs, _, rv, ha⟩
      · by_cases hb : TS b
        · cases (Ht b hb).symm.trans z
          exact tabAt hb
        · exact nomatch (Hn b h hb).symm.trans z
    · by_cases h : b = a
      · exact .inl h
      · by_cases hb : TS b
        · exact .inr hb
        · exact absurd (Hn b h hb) z
/-- the goal that k_head leaves, from the law's promise -/
theorem walkGT {l : PySem.W.OpenLaw} {n k : Nat} {q : Program} {loose : List Str} {XP : (Str → Option Value) → Heap → Prop} {YP : World → Heap → Prop} {d : DefRec} {K : Params → PySem.W.Frag} {x : Str} {cs : List (Addr × Addr)}
    (hn : l.most = some n) (hn2 : n ≤ 63) (hdf : d.params.defaults = []) (hr : Room k callerA) (hY : ∀ (w : World) (h : Heap), YP w h → (K w.params).In h)
    (hT : ∀ (w : World) (h : Heap), YP w h → ∀ p ∈ cs, h.get? p.2 = some { cls := .none, data := .fields #[] })
    (nK : ∀ w : World, ∀ p ∈ cs, (K w.params).lookup p.2 = none) (hC : ∀ w : World, ∀ p ∈ cs, PySem.W.codeHdIn (K w.params) p.1 p.2 = true)
    (F : ∀ (w : World) (mg : Str → Option Value) (fa : Addr) (h : Heap), (K w.params).In h → h.Ns mainGlobals mg → mg d.name = some (.ref fa) →
      ∃ fd : FuncData, (∀ (s : Shared) (u : Value), BindsTo s fd ⟨[u], []⟩ [(x, u)]) ∧ ∀ base : Heap, (K w.params).In base → base.Ns mainGlobals mg → (∀ p ∈ cs, TabB base mg p.1 p.2) → FnG l.prog w (K w.params) mg base k fa fd [x] (spLawT cs (K w.params))) :
    PySem.W.WalkO q loose XP YP l.row.toRowW d [] (fun f vs => PySem.call f vs) := by
  refine Att.attach_call hn hdf ?_
  intro w s₀ s₁ mg mb fa o pm cd doc a vs ns G Y ho hd hcd hmg hobj hints hlen hg
  have inK := hY w _ Y
  obtain ⟨fd, hb, hF⟩ := F w mg fa _ inK G.T.g hmg
  exact lawGT inK G.T.g G.T.b G.T.builtins G.T.nolimit hg hobj hints (Nat.le_trans hlen (Nat.le_trans hn2 (by rw [sizeLine_eq]; decide))) hr (hT w _ Y) (nK w) (fun p hp => PySem.W.codeHd_of_K inK (hC w p hp)) G.T.bmain hF hb fun H hH hS => ⟨a, ns, rfl, hS, Nat.le_trans hlen hn2, hH, fun _ => rfl⟩
end Dw
namespace Dw
open PySem PySem.Spec PyProof.Rows L2
/-- the code of the law's def -/
structure LawCode (K : PySem.W.Frag) (f : Addr) (cv : Value) : Prop where
  ex : ∃ (oc : Value) (od : Option Addr) (fd : FuncData) (osl : Array (Option Value)), K.lookup f = some ⟨oc, od, .func fd, osl⟩ ∧ fd.code = cv
theorem LawCode.eq {K : PySem.W.Frag} {f : Addr} {cv cdv oc kV doc pm ct : Value} {od an : Option Addr} {osl : Array (Option Value)} {x q : Str} {as : Arguments} {b : List Stmt} {sc : Scope} (h : LawCode K f cv)
    (lk : K.lookup f = some ⟨oc, od, .func (PySem.W.fnOf x q as b sc .none kV doc pm an cdv ct), osl⟩) : cdv = cv := by
  obtain ⟨_, _, fd, _, l, e⟩ := h.ex
  rw [lk] at l
  cases l
  exact e
end Dw

/-! Dw35: defs that raise, by their names -/
namespace Dw
open PySem PySem.Spec PyProof.Rows L2
section
variable (P : Program) (w : World) (K : PySem.W.Frag) (mg : Str → Option Value) (base : Heap)
/-- the def of the name x answers (another reading than Df's first one) -/
abbrev Dx (x : Str) (k : Nat) (ps : List Str) (fs : FS) : Prop := Df P w K mg base x k ps fs
/-- the def of the name x raises -/
structure De (C : Addr) (x : Str) (k : Nat) (ps : List Str) (fe : FE) : Prop where
  ex : ∃ f fd, FnOk P w K mg base (L2.CX P w) k f fd ps (spE K C fe) ∧ mg x = some (.ref f) ∧ PySem.W.keepIn K (.ref f) = true ∧ Binds K fd ps []
end
section
variable {P : Program} {w : World} {K : PySem.W.Frag} {mg : Str → Option Value} {base : Heap}
theorem At.de {C : Addr} {x : Str} {st : Stmt} {ps N : List Str} {k : Nat} {fe : FE} (A : At K mg x st ps) (Sc : FnScope N ps (defScope st)) (len : ∀ S ds n, fe S ds n → ds.length = ps.length)
    (body : ∀ {Θ : List (Addr × Str)} (f : Addr) (cdv : Value) (A : Around) (outer : List Env) (s : Shared) (H : Hp) (E : XK) (S : Option (Addr × Addr)) (O : List Addr) (ds : List D) (n : Int), Room k (A.deeper (envOfC x (defScope st) s.heap.objs.size f cdv)) → fe S ds n →
      Lets (cxOf (L2.CX P w) P w K mg base N x (defScope st) f cdv A outer s H E) ⟨K, S, H, O, [], Θ⟩ C n →
      DSs (cxOf (L2.CX P w) P w K mg base N x (defScope st) f cdv A outer s H E) ⟨K, S, H, O, [], Θ⟩ (dstart N ds) (defBody st) { nx := fun _ => False, rt := fun _ => False }) : De P w K mg base C x (k + 1) ps fe := by
  obtain ⟨f, fd, F, m, b⟩ := A.ex
  exact ⟨f, fd, dfunE F Sc len fun cdv A outer s H E S O ds R => body f cdv A outer s H E S O ds R, m, F.kp, b⟩
theorem De.mono {C : Addr} {x : Str} {j k : Nat} {ps : List Str} {fe : FE} (d : De P w K mg base C x j ps fe) (h : j ≤ k) : De P w K mg base C x k ps fe := by
  obtain ⟨f, fd, F, r⟩ := d.ex
  exact ⟨f, fd, F.mono h, r⟩
end
section
variable {X : Cx} {G : Gx} {ρ : List Sl} {c : Bool} {Q : D → Prop} {E : DEnds} {e a b : Expr} {es : List Expr} {pos p p2 p3 : Pos}
theorem de_e {C : Addr} {n : Int} {k : Nat} {ps : List Str} {fe : FE} {x : Str} (F : De X.prog X.w X.K X.mg X.base C x k ps fe) (L : Lets X G C n) (hr : Room k X.A) (h : DA X G ρ c (e :: es) fun ds => fe G.S ds n) (hK : X.K = G.K := by rfl) (hg : Gl X x := by rfl) (hdb : (x == ("__debug__" : Str)) = false := by decide)
    (he : starEach (e :: es) X.env = (false, eval e X.env) :: starEach es X.env := by rfl) (hpl : (backTo pos (starEach es X.env)).any (·.1) = false := by rfl) : DE X G ρ c (.Call (.Name x p) (e :: es) [] pos) Q := by
  obtain ⟨f, fd, F, m, kp, b⟩ := F.ex
  exact de_callE F L hK hr m kp b h hg hdb he hpl
end
end Dw

/-! S14: numbers of more than 300 figures -/
namespace W
open PySem PySem.Spec PyProof.Rows L2 Dw M
def fsLong2 : FS := fun _ ds R => ∃ x : Int, ds = [.int x] ∧ x.natAbs < 2 ^ 1900 ∧ R (.bl (decide (10 ^ 300 ≤ x.natAbs)))
def feNotLong : FE := fun _ ds n => n = 0 ∧ ∃ (d : D) (xs : List Int), ds = [d] ∧ (d = .tup (xs.map .int) ∨ d = .lst (xs.map .int)) ∧ xs.length ≤ 1000 ∧ (∀ x ∈ xs, x.natAbs < 2 ^ 1900) ∧ ∃ x ∈ xs, 10 ^ 300 ≤ x.natAbs
def fePushed : FE := fun _ ds n => n = 0 ∧ ∃ (w : List Int) (m : Int), ds = [.tup (w.map .int), .int m] ∧ w.length ≤ 1000 ∧ (∀ x ∈ w, (x + m).natAbs < 2 ^ 1900) ∧ ∃ x ∈ w, 10 ^ 300 ≤ (x + m).natAbs
/-- the number of what is great by its figures -/
structure LongN (mg : Str → Option Value) : Prop where
  num : ∃ t, mg "LONG_NUMBER" = some (.int 0 t)
theorem bits_iff {x : Int} : Builtin.Int.intBits x ≤ 997 ↔ x.natAbs < 2 ^ 997 := intBits_le_iff
theorem repr_abs (x : Int) : (Str.ofString (toString (if x < 0 then -x else x))).length = (Nat.repr x.natAbs).length := by
  rw [PySem.ofString_length]
  have e : (if x < 0 then -x else x) = Int.ofNat x.natAbs := by
    show _ = ((x.natAbs : Nat) : Int)
    split <;> omega
  rw [e]
  rfl
theorem figs_iff {x : Int} : (Str.ofString (toString (if x < 0 then -x else x))).length ≤ 300 ↔ x.natAbs < 10 ^ 300 := by
  rw [repr_abs]
  exact Nat.length_repr_le_iff (by decide)
theorem figs_301 {x : Int} (h : x.natAbs < 2 ^ 997) : (Str.ofString (toString (if x < 0 then -x else x))).length ≤ 301 := by
  rw [repr_abs]
  exact (Nat.length_repr_le_iff (by decide)).mpr (Nat.lt_trans h (by decide +kernel))
theorem log_997 {x : Int} (h : x.natAbs < 2 ^ 997) : (if x < 0 then -x else x).natAbs.log2 < 1920 := by
  rw [abs_same]
  by_cases e : x.natAbs = 0
  · rw [e]; decide
  · exact (Nat.log2_lt e).mpr (Nat.lt_trans h (by decide +kernel))
theorem long_figs {x : Int} : decide ((300 : Int) < ((Str.ofString (toString (if x < 0 then -x else x))).length : Nat)) = decide (10 ^ 300 ≤ x.natAbs) := by
  have h := @figs_iff x
  rw [decide_eq_decide]
  constructor
  · intro z
    exact Nat.not_lt.mp fun w => by have := h.mpr w; omega
  · intro z
    have : ¬ (Str.ofString (toString (if x < 0 then -x else x))).length ≤ 300 := fun w => absurd (h.mp w) (Nat.not_lt.mpr z)
    omega
theorem long_bits {x : Int} (h : (997 : Int) < (Builtin.Int.intBits x : Nat)) : 10 ^ 300 ≤ x.natAbs := by
  have z : ¬ x.natAbs < 2 ^ 997 := fun w => by have := bits_iff.mpr w; omega
  exact Nat.le_trans (by decide +kernel) (Nat.not_lt.mp z)
end W

/-! which places go turned: pairs low, high with high's place before low's -/
namespace M
/-- two places, the later of which comes from before -/
def tn (w : List Int) (lo hi : Int) : Bool := decide (bk w hi < bk w lo)
def fbh (n lo r : Int) : Int := if r > lo then r else r + n
/-- how many places of a rest behind lo are turned with it -/
def tmany (w : List Int) (lo r : Int) : Int := max 0 ((bk w lo - bk w (fbh w.length lo r)) / w.length + 1)
section
variable {w : List Int}
theorem bk_add (W : Win w) (x k : Int) : bk w (x + w.length * k) = bk w x + w.length * k := per_bk W x k
theorem bk_inj (W : Win w) {a b : Int} (h : bk w a % w.length = bk w b % w.length) : a % w.length = b % w.length := by
  have e := nx_congr W h
  rwa [nx_bk W, nx_bk W] at e
theorem bk_inj0 (W : Win w) {a b : Int} (h : bk w a = bk w b) : a = b := by rw [← nx_bk W a, h, nx_bk W]
theorem tmany_ok (W : Win w) {lo r k : Int} (l0 : 0 ≤ lo) (l1 : lo < w.length) (r0 : 0 ≤ r) (r1 : r < w.length) (ne : r ≠ lo) (k0 : 0 ≤ k) : tn w lo (fbh w.length lo r + w.length * k) = true ↔ k < tmany w lo r := by
  have hn : (0 : Int) < w.length := by have := W.pos; omega
  unfold tn tmany
  rw [decide_eq_true_eq, bk_add W]
  have hm : (fbh w.length lo r) % w.length = r := by
    unfold fbh
    split
    · exact Int.emod_eq_of_lt r0 r1
    · rw [Int.add_emod_right]; exact Int.emod_eq_of_lt r0 r1
  generalize hg : bk w lo - bk w (fbh w.length lo r) = g
  have hz : g % w.length ≠ 0 := fun z => by
    rw [← hg] at z
    have := bk_inj W (sub_mod_zero.mp z)
    rw [hm, Int.emod_eq_of_lt l0 l1] at this
    exact ne this.symm
  have e1 := Int.mul_ediv_add_emod g w.length
  have e2 := Int.emod_nonneg g (show (w.length : Int) ≠ 0 by omega)
  have e3 := Int.emod_lt_of_pos g hn
  have key : ((w.length : Int) * k < g ↔ k < g / w.length + 1) := by
    constructor
    · intro h
      refine Classical.byContradiction fun z => ?_
      have z' : g / w.length + 1 ≤ k := by omega
      have := Int.mul_le_mul_of_nonneg_left z' (Int.le_of_lt hn)
      rw [Int.mul_add, Int.mul_one] at this
      omega
    · intro h
      have z' : k ≤ g / w.length := by omega
      have := Int.mul_le_mul_of_nonneg_left z' (Int.le_of_lt hn)
      omega
  omega
theorem same_class (W : Win w) {lo k : Int} (k0 : 0 < k) : tn w lo (lo + w.length * k) = false := by
  have hn : (0 : Int) < w.length := by have := W.pos; omega
  unfold tn
  rw [bk_add W, decide_eq_false_iff_not]
  have := Int.mul_pos hn k0
  omega
end
/-- turned in the one, not in the other -/
def Pr (one other : List Int) (lo hi : Int) : Prop := lo < hi ∧ tn one lo hi = true ∧ tn other lo hi = false
def cand (one other : List Int) (lo r : Int) : Option Int := if tmany one lo r > tmany other lo r then some (fbh one.length lo r + one.length * tmany other lo r) else none
def rests (n : Nat) (lo : Int) : List Int := (cells n).filter fun r => decide (r ≠ lo)
section
variable {one other : List Int}
theorem fbh_gt {n lo r : Int} (l1 : lo < n) (r0 : 0 ≤ r) (ne : r ≠ lo) : lo < fbh n lo r := by
  unfold fbh; split <;> omega
theorem cand_pr (U : Win one) (V : Win other) (hl : one.length = other.length) {lo c : Int} (l0 : 0 ≤ lo) (l1 : lo < one.length) (h : c ∈ (rests one.length lo).filterMap (cand one other lo)) : Pr one other lo c := by
  obtain ⟨r, hr, hc⟩ := List.mem_filterMap.mp h
  unfold rests at hr
  rw [List.mem_filter, mem_cells, decide_eq_true_eq] at hr
  unfold cand at hc
  split at hc
  · rename_i gt
    have hc' := Option.some.inj hc
    have t0 : 0 ≤ tmany other lo r := by unfold tmany; omega
    have a := (tmany_ok U l0 l1 hr.1.1 hr.1.2 hr.2 t0).mpr gt
    have b := (tmany_ok V (lo := lo) (r := r) (k := tmany other lo r) l0 (by rw [← hl]; exact l1) hr.1.1 (by rw [← hl]; exact hr.1.2) hr.2 t0)
    rw [← hl, hc'] at b
    rw [hc'] at a
    refine ⟨?_, a, ?_⟩
    · have := fbh_gt l1 hr.1.1 hr.2
      have hn : (0 : Int) ≤ one.length * tmany other lo r := Int.mul_nonneg (by omega) t0
      omega
    · cases e : tn other lo c with
      | false => rfl
      | true => have := b.mp e; omega
  · cases hc
theorem pr_cand (U : Win one) (V : Win other) (hl : one.length = other.length) {lo hi : Int} (l0 : 0 ≤ lo) (l1 : lo < one.length) (h : Pr one other lo hi) : ∃ c ∈ (rests one.length lo).filterMap (cand one other lo), c ≤ hi := by
  obtain ⟨h1, h2, h3⟩ := h
  have hn : (0 : Int) < one.length := by have := U.pos; omega
  have r0 := Int.emod_nonneg hi (show (one.length : Int) ≠ 0 by omega)
  have r1 := Int.emod_lt_of_pos hi hn
  have eq := Int.mul_ediv_add_emod hi one.length
  by_cases e : hi % one.length = lo
  · exfalso
    have ek : hi = lo + one.length * (hi / one.length) := by omega
    have kp : 0 < hi / one.length := by
      refine Classical.byContradiction fun z => ?_
      have z' : hi / one.length ≤ 0 := by omega
      have := Int.mul_le_mul_of_nonneg_left z' (Int.le_of_lt hn)
      rw [Int.mul_zero] at this
      omega
    have := same_class U (lo := lo) kp
    rw [← ek, h2] at this
    cases this
  · -- the class of the rest
    have hk : ∃ k, 0 ≤ k ∧ hi = fbh one.length lo (hi % one.length) + one.length * k := by
      unfold fbh
      split
      · refine ⟨hi / one.length, ?_, by omega⟩
        refine Classical.byContradiction fun z => ?_
        have z' : hi / one.length ≤ -1 := by omega
        have := Int.mul_le_mul_of_nonneg_left z' (Int.le_of_lt hn)
        rw [Int.mul_neg, Int.mul_one] at this
        omega
      · refine ⟨hi / one.length - 1, ?_, by rw [Int.mul_sub, Int.mul_one]; omega⟩
        refine Classical.byContradiction fun z => ?_
        have z' : hi / one.length ≤ 0 := by omega
        have := Int.mul_le_mul_of_nonneg_left z' (Int.le_of_lt hn)
        rw [Int.mul_zero] at this
        omega
    obtain ⟨k, k0, ek⟩ := hk
    have a := (tmany_ok U l0 l1 r0 r1 e k0)
    have b := (tmany_ok V (lo := lo) (r := hi % one.length) (k := k) l0 (by rw [← hl]; exact l1) r0 (by rw [← hl]; exact r1) e k0)
    rw [← hl, ← ek, h3] at b
    rw [← ek] at a
    have ka := a.mp h2
    have kb : ¬ k < tmany other lo (hi % one.length) := fun z => by have := b.mpr z; cases this
    refine ⟨fbh one.length lo (hi % one.length) + one.length * tmany other lo (hi % one.length), List.mem_filterMap.mpr ⟨hi % one.length, ?_, ?_⟩, ?_⟩
    · unfold rests
      rw [List.mem_filter, mem_cells, decide_eq_true_eq]
      exact ⟨⟨r0, r1⟩, e⟩
    · unfold cand
      rw [if_pos (by omega)]
    · have z : tmany other lo (hi % one.length) ≤ k := by omega
      have := Int.mul_le_mul_of_nonneg_left z (Int.le_of_lt hn)
      omega
theorem pr_big (U : Win one) {B : Nat} (hB : ∀ x ∈ one, x.natAbs ≤ B) {lo hi : Int} (l0 : 0 ≤ lo) (l1 : lo < one.length) (h : Pr one other lo hi) : 0 < hi ∧ hi ≤ 2 * B + 6 * one.length := by
  obtain ⟨h1, h2, h3⟩ := h
  have hn : (0 : Int) < one.length := by have := U.pos; omega
  have r0 := Int.emod_nonneg hi (show (one.length : Int) ≠ 0 by omega)
  have r1 := Int.emod_lt_of_pos hi hn
  have eq := Int.mul_ediv_add_emod hi one.length
  have b1 := bk_big U hB lo
  have b2 := bk_big U hB (hi % one.length)
  have e : bk one hi = bk one (hi % one.length) + one.length * (hi / one.length) := by
    rw [← bk_add U]; congr 1; omega
  unfold tn at h2
  rw [decide_eq_true_eq, e] at h2
  omega
end
/-! the push of one map on the other -/
theorem delta_sum {w : List Int} (W : Win w) : ((cells w.length).map fun c => nx w c - c).sum = w.length * push w := by
  rw [push_sum W, sum_sub]
  have e : (cells w.length).map (nx w) = w := mk_nx w
  rw [e, List.map_id']
theorem push_on {u v : List Int} (U : Win u) (V : Win v) (hl : u.length = v.length) : push (v.map (nx u)) = push u + push v := by
  obtain ⟨S, sl, sn⟩ := win_on U V hl
  have h1 := delta_sum S
  have h2 := delta_sum U
  have h3 := delta_sum V
  have hn := U.pos
  rw [sl] at h1
  have e : (cells u.length).map (fun c => nx (v.map (nx u)) c - c) = (cells u.length).map fun c => (nx u (nx v c) - nx v c) - (c - nx v c) := by
    apply List.map_congr_left
    intro c _
    rw [sn]; omega
  rw [e, sum_sub] at h1
  have e2 : ((cells u.length).map fun c => c - nx v c).sum = - ((cells u.length).map fun c => nx v c - c).sum := by
    generalize cells u.length = l
    induction l with
    | nil => rfl
    | cons a l ih => simp only [List.map_cons, List.sum_cons, ih]; omega
  have per : ∀ x : Int, nx u x - x = nx u (x % u.length) - x % u.length := fun x => by
    have q := nx_add (w := u) (x := x % u.length) (k := x / u.length)
    have e : x % u.length + u.length * (x / u.length) = x := by have := Int.mul_ediv_add_emod x u.length; omega
    rw [e] at q; omega
  have e3 : ((cells u.length).map fun c => nx u (nx v c) - nx v c).sum = ((cells u.length).map fun c => nx u c - c).sum := by
    have z : (cells u.length).map (fun c => nx u (nx v c) - nx v c) = (v.map fun x => x % (v.length : Int)).map fun c => nx u c - c := by
      rw [hl]
      have : (cells v.length).map (fun c => nx u (nx v c) - nx v c) = ((cells v.length).map (nx v)).map fun y => nx u (y % v.length) - y % v.length := by
        rw [List.map_map]
        apply List.map_congr_left
        intro c _
        have := per (nx v c)
        rw [hl] at this
        exact this
      rw [this]
      have mv : (cells v.length).map (nx v) = v := mk_nx v
      rw [mv, List.map_map]; rfl
    rw [z, hl]
    exact perm_sum _ V.perm
  have h1' : ((cells u.length).map fun c => nx u (nx v c) - nx v c).sum - ((cells u.length).map fun c => c - nx v c).sum = u.length * push (v.map (nx u)) := h1
  rw [e3, e2, h2] at h1'
  rw [← hl] at h3
  rw [h3] at h1'
  have : (u.length : Int) * push (v.map (nx u)) = u.length * (push u + push v) := by rw [Int.mul_add]; omega
  exact Int.eq_of_mul_eq_mul_left (by omega) this
theorem push_pushed {w : List Int} (W : Win w) (m : Int) : push (w.map (· + m)) = push w + m := by
  obtain ⟨S, sl, sn⟩ := win_pushed W m
  have h1 := push_sum S
  have h2 := push_sum W
  have hn := W.pos
  rw [sl] at h1
  have e : (w.map (· + m)).sum = w.sum + w.length * m := by
    clear h1 h2 S sl sn W hn
    induction w with
    | nil => simp
    | cons a l ih => simp only [List.map_cons, List.sum_cons, ih, List.length_cons]; rw [Int.natCast_add, Int.add_mul]; omega
  have : (w.length : Int) * push (w.map (· + m)) = w.length * (push w + m) := by rw [Int.mul_add]; omega
  exact Int.eq_of_mul_eq_mul_left (by omega) this
/-- the straight map pushed -/
def sht (n : Nat) (c : Int) : List Int := (cells n).map (· + c)
theorem win_sht {n : Nat} (hn : 0 < n) (c : Int) : Win (sht n c) ∧ (sht n c).length = n ∧ (∀ x, nx (sht n c) x = x + c) ∧ push (sht n c) = c := by
  have W0 : Win (cells n) := by
    have : cells n = mk n fun x => x := by unfold mk; rw [List.map_id']
    rw [this]
    exact win_mk hn fun a b a0 a1 b0 b1 h => by rwa [Int.emod_eq_of_lt a0 a1, Int.emod_eq_of_lt b0 b1] at h
  have l0 : (cells n).length = n := by unfold cells; rw [List.length_map, List.length_range]
  have n0 : ∀ x, nx (cells n) x = x := fun x => by
    have : cells n = mk n fun x => x := by unfold mk; rw [List.map_id']
    rw [this]
    exact nx_mk hn (fun x k => rfl) x
  obtain ⟨S, sl, sn⟩ := win_pushed W0 c
  refine ⟨S, sl.trans l0, fun x => by rw [show sht n c = (cells n).map (· + c) from rfl, sn, n0], ?_⟩
  have p := push_pushed W0 c
  have z : push (cells n) = 0 := by
    have h := push_sum W0
    rw [l0] at h
    have : (n : Int) * push (cells n) = n * 0 := by rw [Int.mul_zero]; omega
    exact Int.eq_of_mul_eq_mul_left (by omega) this
  rw [z, Int.zero_add] at p
  exact p
/-- the same places turned and the same push: the same map -/
theorem same_map {u v : List Int} (U : Win u) (V : Win v) (hl : u.length = v.length) (h : ∀ lo hi : Int, 0 ≤ lo → lo < u.length → lo < hi → (tn u lo hi = tn v lo hi)) (hp : push u = push v) : u = v := by
  have hn : (0 : Int) < u.length := by have := U.pos; omega
  have ord : ∀ x y : Int, x < y → (bk u y < bk u x ↔ bk v y < bk v x) := fun x y hxy => by
    have e := Int.mul_ediv_add_emod x u.length
    have q := h (x % u.length) (y - u.length * (x / u.length)) (Int.emod_nonneg _ (by omega)) (Int.emod_lt_of_pos _ hn) (by omega)
    unfold tn at q
    have ex : x = x % u.length + u.length * (x / u.length) := by omega
    have ey : y = (y - u.length * (x / u.length)) + u.length * (x / u.length) := by omega
    have qq := decide_eq_decide.mp q
    have b1 := bk_add U (x % u.length) (x / u.length)
    have b2 := bk_add U (y - u.length * (x / u.length)) (x / u.length)
    have b3 := bk_add V (x % u.length) (x / u.length)
    have b4 := bk_add V (y - u.length * (x / u.length)) (x / u.length)
    rw [← hl] at b3 b4
    rw [← ex] at b1 b3
    rw [← ey] at b2 b4
    omega
  have mono : ∀ x y : Int, bk u x < bk u y → bk v x < bk v y := fun x y hxy => by
    rcases Int.lt_trichotomy x y with z | z | z
    · have := ord x y z
      have ne : bk v x ≠ bk v y := fun e => by have := bk_inj0 V e; omega
      omega
    · rw [z] at hxy; omega
    · exact (ord y x z).mp hxy
  let g : Int → Int := fun y => bk v (nx u y)
  have gm : ∀ a b : Int, a < b → g a < g b := fun a b hab => mono _ _ (by rw [bk_nx U, bk_nx U]; exact hab)
  have gp : ∀ y, g (y + u.length) = g y + u.length := fun y => by
    show bk v (nx u (y + u.length)) = _
    have q := nx_add (w := u) (x := y) (k := 1)
    rw [Int.mul_one] at q
    have q2 := bk_add V (nx u y) 1
    rw [Int.mul_one, ← hl] at q2
    rw [q, q2]
  have gk : ∀ (k : Nat) (y : Int), g y + k ≤ g (y + k) := fun k => by
    induction k with
    | zero => intro y; simp
    | succ k ih =>
      intro y
      have a := ih y
      have b := gm (y + k) (y + (k + 1 : Nat)) (by omega)
      omega
  have gs : ∀ k : Nat, k ≤ u.length → g k = g 0 + k := fun k hk => by
    have a := gk k 0
    have b := gk (u.length - k) k
    have c := gp 0
    have e1 : (0 : Int) + (k : Int) = k := by omega
    have e2 : ((k : Nat) : Int) + ((u.length - k : Nat) : Int) = 0 + u.length := by omega
    rw [e1] at a
    rw [e2, c] at b
    omega
  have eq : ∀ c ∈ cells u.length, nx u c = nx v (c + g 0) := fun c hc => by
    rw [mem_cells] at hc
    have q := gs c.toNat (by omega)
    have e : ((c.toNat : Nat) : Int) = c := by omega
    rw [e] at q
    have q' : bk v (nx u c) = g 0 + c := q
    have := congrArg (nx v) q'
    rw [nx_bk V] at this
    rw [this, Int.add_comm]
  obtain ⟨S, sl, sn, sp⟩ := win_sht (n := u.length) U.pos (g 0)
  have eu : u = (sht u.length (g 0)).map (nx v) := by
    have a : u = (cells u.length).map (nx u) := (mk_nx u).symm
    have b : (sht u.length (g 0)).map (nx v) = (cells u.length).map fun c => nx v (c + g 0) := by
      unfold sht; rw [List.map_map]; rfl
    rw [b]
    exact a.trans (List.map_congr_left eq)
  have p := push_on V S (by rw [sl, hl])
  rw [← eu, sp] at p
  have z : g 0 = 0 := by omega
  rw [eu, z]
  unfold sht
  have e0 : (cells u.length).map (· + (0 : Int)) = cells u.length := by
    have : (fun x : Int => x + 0) = fun x => x := by funext x; omega
    rw [this, List.map_id']
  rw [e0, hl]
  exact mk_nx v
end M

/-! what the defs of the turned pairs promise -/
namespace W
open PySem PySem.Spec PyProof.Rows L2 Dw M
/-- a module's name for a tuple of one text -/
def TupOf (K : PySem.W.Frag) (mg : Str → Option Value) (x y : Str) : Prop := ∃ a, mg x = some (.ref a) ∧ ∀ H O, Rp K O H (.ref a) (.tup [.str y])
theorem tupOf_mk {K : PySem.W.Frag} {mg : Str → Option Value} {x y : Str} {a : Addr} {d : Option Addr} {t : Tok} {n : Nat} {sl : Array (Option Value)} (m : mg x = some (.ref a)) (l : K.lookup a = some ⟨.type "tuple", d, .seq #[.str y t] n, sl⟩) : TupOf K mg x y :=
  ⟨a, m, fun H O => .tupK (fun H' => .inr ⟨_, _, _, l, rfl, rfl, by show 1 ≤ sizeLine; decide, (show Vals [V.str y] [Value.str y t] from .cons (show RelV (V.str y) (Value.str y t) from ⟨t, rfl⟩) .nil)⟩) (.cons (.str y) .nil)⟩
structure Aheads (K : PySem.W.Frag) (mg : Str → Option Value) : Prop where
  ahead : TupOf K mg "AHEAD" "ahead"
  push : TupOf K mg "PUSH" "push"
  pair : ∃ t, mg "PAIR" = some (.str "pair" t)
def fsTurned : FS := fun _ ds R => ∃ w lo hi, ds = [.tup (w.map .int), .int lo, .int hi] ∧ Win w ∧ w.length ≤ 1000 ∧ R (.bl (tn w lo hi))
def fsBehind : FS := fun _ ds R => ∃ n lo r : Int, ds = [.int n, .int lo, .int r] ∧ R (.int (fbh n lo r))
def fsMany : FS := fun _ ds R => ∃ w lo r, ds = [.tup (w.map .int), .int lo, .int r] ∧ Win w ∧ w.length ≤ 1000 ∧ R (.int (tmany w lo r))
def Least (one other : List Int) (lo hi : Int) : Prop := Pr one other lo hi ∧ ∀ h, Pr one other lo h → hi ≤ h
def fsFirst : FS := fun _ ds R => ∃ (u v : List Int) (lo : Int), ds = [.tup (u.map .int), .tup (v.map .int), .int lo] ∧ Win u ∧ Win v ∧ u.length = v.length ∧ u.length ≤ 1000 ∧ 0 ≤ lo ∧ lo < u.length ∧ ((∀ h, ¬ Pr u v lo h) → R .non) ∧ ∀ h, Least u v lo h → R (.int h)
def NoPr (u v : List Int) : Prop := ∀ lo : Int, 0 ≤ lo → lo < u.length → ∀ h, ¬ Pr u v lo h
/-- what is told of two maps -/
def Due (u v : List Int) (d : D) : Prop :=
  (push u ≠ push v ∧ d = .tup [.str "push"]) ∨
  (push u = push v ∧ ∃ lo hi : Int, 0 ≤ lo ∧ lo < u.length ∧ Least u v lo hi ∧ (∀ lo' : Int, 0 ≤ lo' → lo' < lo → ∀ h, ¬ Pr u v lo' h) ∧ d = .tup [.str "pair", .int lo, .int hi]) ∨
  (push u = push v ∧ NoPr u v ∧ d = .tup [.str "ahead"])
def fsAhead : FS := fun _ ds R => ∃ u v : List Int, ds = [.tup (u.map .int), .tup (v.map .int)] ∧ Win u ∧ Win v ∧ u.length = v.length ∧ u.length ≤ 1000 ∧ (∀ x ∈ u, x.natAbs ≤ 10 ^ 200) ∧ ∀ d, Due u v d → R d
def fsIsAhead : FS := fun _ ds R => ∃ u v : List Int, ds = [.tup (u.map .int), .tup (v.map .int)] ∧ Win u ∧ Win v ∧ u.length = v.length ∧ u.length ≤ 1000 ∧ ((push u = push v ∧ NoPr u v) → R (.bl true)) ∧ (¬ (push u = push v ∧ NoPr u v) → R (.bl false))
theorem max_py {g : Int} : (if g > 0 then g else 0) = max 0 g := by split <;> omega
/-- the least pair is there, or none -/
theorem least_or (U : Win u) (V : Win v) (hl : u.length = v.length) {lo : Int} (l0 : 0 ≤ lo) (l1 : lo < u.length) {L : List Int} (eL : L = (rests u.length lo).filterMap (cand u v lo)) : (L = [] → ∀ h, ¬ Pr u v lo h) ∧ ∀ m, m ∈ L → (∀ y ∈ L, m ≤ y) → Least u v lo m := by
  subst eL
  refine ⟨fun e h p => ?_, fun m hm hy => ⟨cand_pr U V hl l0 l1 hm, fun h p => ?_⟩⟩
  · obtain ⟨c, hc, _⟩ := pr_cand U V hl l0 l1 p
    rw [e] at hc; cases hc
  · obtain ⟨c, hc, hle⟩ := pr_cand U V hl l0 l1 p
    have := hy c hc
    omega
theorem least_ex (U : Win u) (V : Win v) (hl : u.length = v.length) {lo : Int} (l0 : 0 ≤ lo) (l1 : lo < u.length) : (∀ h, ¬ Pr u v lo h) ∨ ∃ h, Least u v lo h := by
  have hmin : ∀ l : List Int, l ≠ [] → ∃ m ∈ l, ∀ y ∈ l, m ≤ y := fun l => by
    induction l with
    | nil => intro h; exact absurd rfl h
    | cons a l ih =>
      intro _
      by_cases e : l = []
      · subst e; exact ⟨a, by simp, fun y hy => by simp at hy; omega⟩
      · obtain ⟨m, hm, h⟩ := ih e
        by_cases z : a ≤ m
        · exact ⟨a, by simp, fun y hy => by
            rcases List.mem_cons.mp hy with rfl | hy
            · omega
            · have := h y hy; omega⟩
        · exact ⟨m, by simp [hm], fun y hy => by
            rcases List.mem_cons.mp hy with rfl | hy
            · omega
            · exact h y hy⟩
  obtain ⟨a, b⟩ := least_or U V hl l0 l1 rfl
  by_cases e : (rests u.length lo).filterMap (cand u v lo) = []
  · exact .inl (a e)
  · obtain ⟨m, hm, hy⟩ := hmin _ e
    exact .inr ⟨m, b m hm hy⟩
theorem take_filterMap {α β : Type} {f : α → Option β} {l : List α} {i : Nat} {a : α} (h : l[i]? = some a) : (l.take (i + 1)).filterMap f = (l.take i).filterMap f ++ (match f a with | some b => [b] | none => []) := by
  rw [List.take_add_one, h, List.filterMap_append]
  congr 1
  simp only [Option.toList, List.filterMap_cons, List.filterMap_nil]
  cases f a <;> rfl
theorem take_get {α : Type} {l : List α} {i : Nat} {f : α → D} {d : D} (h : (l.map f)[i]? = some d) : ∃ r, l[i]? = some r ∧ d = f r ∧ r ∈ l ∧ i < l.length := by
  rw [List.getElem?_map] at h
  cases e : l[i]? with
  | none => rw [e] at h; cases h
  | some r => rw [e] at h; cases h; exact ⟨r, rfl, rfl, List.mem_of_getElem? e, (List.getElem?_eq_some_iff.mp e).1⟩
theorem rests_len (n : Nat) (lo : Int) : (rests n lo).length ≤ n := by
  unfold rests
  have := List.length_filter_le (fun r : Int => decide (r ≠ lo)) (cells n)
  have e : (cells n).length = n := by unfold cells; rw [List.length_map, List.length_range]
  omega
theorem small_mul {i j : Int} (h : -100000 ≤ i ∧ i ≤ 100000) : CMulD i j := .inl (.inl ⟨by omega, by omega⟩)
end W

/-! steps; bounds of what goes turned -/
namespace M
theorem win_inj {w : List Int} (hn : 0 < w.length) (inj : ∀ (i j : Nat) (hi : i < w.length) (hj : j < w.length), w[i] % (w.length : Int) = w[j] % (w.length : Int) → i = j) : Win w := by
  refine ⟨hn, all_cells ?_ (fun x hx => ?_) (by rw [List.length_map])⟩
  · unfold List.Nodup
    rw [List.pairwise_iff_getElem]
    intro i j hi hj hij e
    rw [List.length_map] at hi hj
    rw [List.getElem_map, List.getElem_map] at e
    have := inj i j hi hj e
    omega
  · obtain ⟨y, _, rfl⟩ := List.mem_map.mp hx
    exact ⟨Int.emod_nonneg _ (by omega), Int.emod_lt_of_pos _ (by omega)⟩
theorem inj_win {w : List Int} (W : Win w) {i j : Nat} (hi : i < w.length) (hj : j < w.length) (h : w[i] % (w.length : Int) = w[j] % (w.length : Int)) : i = j := by
  have nd : (w.map fun x => x % (w.length : Int)).Nodup := W.perm.nodup_iff.mpr (nodup_cells _)
  have e : (w.map fun x => x % (w.length : Int))[i]'(by rw [List.length_map]; exact hi) = (w.map fun x => x % (w.length : Int))[j]'(by rw [List.length_map]; exact hj) := by
    rw [List.getElem_map, List.getElem_map]; exact h
  exact (List.getElem_inj nd).mp e
/-- two places exchanged, up to whole times n -/
theorem win_swap {w : List Int} (W : Win w) {a b : Nat} (ha : a < w.length) (hb : b < w.length) (ne : a ≠ b) {x y : Int} (hx : x % (w.length : Int) = w[b] % (w.length : Int)) (hy : y % (w.length : Int) = w[a] % (w.length : Int)) : Win ((w.set a x).set b y) := by
  have hl : ((w.set a x).set b y).length = w.length := by rw [List.length_set, List.length_set]
  have val : ∀ (k : Nat) (hk : k < w.length), ((w.set a x).set b y)[k]'(by rw [hl]; exact hk) % (w.length : Int) = w[if k = a then b else if k = b then a else k]'(by split <;> (try split) <;> omega) % (w.length : Int) := fun k hk => by
    rw [List.getElem_set, List.getElem_set]
    by_cases e1 : b = k
    · subst e1
      have e2 : ¬ b = a := fun z => ne z.symm
      simp only [if_true, e2, if_false]
      exact hy
    · rw [if_neg e1]
      by_cases e2 : a = k
      · subst e2
        simp only [if_true]
        exact hx
      · rw [if_neg e2]
        have e3 : ¬ k = a := fun z => e2 z.symm
        have e4 : ¬ k = b := fun z => e1 z.symm
        simp only [e3, e4, if_false]
  refine win_inj (by rw [hl]; exact W.pos) fun i j hi hj h => ?_
  rw [hl] at hi hj
  rw [hl, val i hi, val j hj] at h
  have := inj_win W _ _ h
  by_cases a1 : i = a <;> by_cases a2 : i = b <;> by_cases a3 : j = a <;> by_cases a4 : j = b <;> simp_all <;> omega
/-- a step: two places beside one another exchanged -/
def stp (w : List Int) (s : Nat) : List Int :=
  if s + 1 < w.length then (w.set s (w.getD (s + 1) 0)).set (s + 1) (w.getD s 0) else (w.set s (w.getD 0 0 + w.length)).set 0 (w.getD s 0 - w.length)
theorem getD_lt {w : List Int} {i : Nat} (h : i < w.length) : w.getD i 0 = w[i] := by rw [List.getD_eq_getElem?_getD, List.getElem?_eq_getElem h]; rfl
theorem stp_length {w : List Int} {s : Nat} : (stp w s).length = w.length := by unfold stp; split <;> rw [List.length_set, List.length_set]
theorem win_stp {w : List Int} (W : Win w) {s : Nat} (hs : s < w.length) (h2 : 2 ≤ w.length) : Win (stp w s) := by
  unfold stp
  split
  · rename_i h
    exact win_swap W hs h (by omega) (by rw [getD_lt h]) (by rw [getD_lt hs])
  · rename_i h
    refine win_swap W hs (by omega) (by omega) ?_ ?_
    · rw [getD_lt (by omega : 0 < w.length), Int.add_emod_right]
    · rw [getD_lt hs, Int.sub_emod_right]
theorem mem_set2 {w : List Int} {a b : Nat} {x y z : Int} (h : z ∈ (w.set a x).set b y) : z ∈ w ∨ z = x ∨ z = y := by
  rcases List.mem_or_eq_of_mem_set h with h | h
  · rcases List.mem_or_eq_of_mem_set h with h | h
    · exact .inl h
    · exact .inr (.inl h)
  · exact .inr (.inr h)
theorem stp_big {w : List Int} {s B : Nat} (hs : s < w.length) (h0 : 0 < w.length) (hB : ∀ x ∈ w, x.natAbs ≤ B) : ∀ x ∈ stp w s, x.natAbs ≤ B + w.length := fun x hx => by
  have gb : ∀ i, i < w.length → (w.getD i 0).natAbs ≤ B := fun i hi => by rw [getD_lt hi]; exact hB _ (List.getElem_mem hi)
  unfold stp at hx
  split at hx
  · rename_i h
    rcases mem_set2 hx with h1 | rfl | rfl
    · have := hB x h1; omega
    · have := gb _ h; omega
    · have := gb _ hs; omega
  · rcases mem_set2 hx with h1 | rfl | rfl
    · have := hB x h1; omega
    · have := gb _ h0; omega
    · have := gb _ hs; omega
theorem push_big {w : List Int} (W : Win w) {B : Nat} (hB : ∀ x ∈ w, x.natAbs ≤ B) : (push w).natAbs ≤ w.length * (B + 1) := by
  have hn := W.pos
  have gen : ∀ (l : List Int) (n : Int), 0 < n → (∀ x ∈ l, x.natAbs ≤ B) → (l.map (· / n)).sum.natAbs ≤ l.length * (B + 1) := fun l n h0 => by
    induction l with
    | nil => intro _; simp
    | cons a l ih =>
      intro h
      have i1 := ih fun x hx => h x (by simp [hx])
      have h1 := h a (by simp)
      have e1 := Int.mul_ediv_add_emod a n
      have e2 := Int.emod_nonneg a (show n ≠ 0 by omega)
      have e3 := Int.emod_lt_of_pos a h0
      have q : (a / n).natAbs ≤ B + 1 := by
        have hle : a / n ≤ B + 1 := by
          refine Classical.byContradiction fun z => ?_
          have z' : (B : Int) + 2 ≤ a / n := by omega
          have a1 := Int.mul_le_mul_of_nonneg_left z' (Int.le_of_lt h0)
          have a2 : (B : Int) + 2 ≤ n * (B + 2) := by
            have := Int.mul_le_mul_of_nonneg_right (show (1 : Int) ≤ n by omega) (show (0 : Int) ≤ B + 2 by omega)
            omega
          omega
        have hge : -((B : Int) + 1) ≤ a / n := by
          refine Classical.byContradiction fun z => ?_
          have z' : a / n ≤ -((B : Int) + 2) := by omega
          have a1 := Int.mul_le_mul_of_nonneg_left z' (Int.le_of_lt h0)
          have a3 : n * (-((B : Int) + 2)) = -(n * B) - 2 * n := by rw [Int.mul_neg, Int.mul_add]; omega
          have a4 : (B : Int) ≤ n * B := by
            have := Int.mul_le_mul_of_nonneg_right (show (1 : Int) ≤ n by omega) (show (0 : Int) ≤ B by omega)
            omega
          omega
        omega
      rw [List.map_cons, List.sum_cons, List.length_cons, Nat.add_mul, Nat.one_mul]
      omega
  exact gen w w.length (by omega) hB
/-- places that come turned are near -/
theorem tn_near {w : List Int} (W : Win w) {B : Int} (h : ∀ c ∈ cells w.length, -B ≤ bk w c - c ∧ bk w c - c ≤ B) {lo hi : Int} (t : tn w lo hi = true) : hi < lo + 2 * B := by
  have hn : (0 : Int) < w.length := by have := W.pos; omega
  have all : ∀ x, -B ≤ bk w x - x ∧ bk w x - x ≤ B := fun x => by
    have q := h (x % w.length) (mem_cells.mpr (md W x))
    have e := bk_add W (x % w.length) (x / w.length)
    have ex : x % w.length + w.length * (x / w.length) = x := by have := Int.mul_ediv_add_emod x w.length; omega
    rw [ex] at e
    omega
  unfold tn at t
  rw [decide_eq_true_eq] at t
  have a := all lo
  have b := all hi
  omega
end M

/-! what the law's own defs of k42 promise -/
namespace W
open PySem PySem.Spec PyProof.Rows L2 Dw M
/-- a window near by: whole parts from -K to K -/
def fsNear : FS := fun S ds R => ∃ (a c : Addr) (n K : Int), S = some (a, c) ∧ ds = [.ref a, .int n, .int K] ∧ 1 ≤ n ∧ n ≤ 8 ∧ 0 ≤ K ∧ K ≤ 1000 ∧ ∀ w : List Int, Win w → (w.length : Int) = n → (∀ x ∈ w, (x.natAbs : Int) ≤ n + n * K) → R (.tup (w.map .int))
theorem near_of {n K : Int} {zs ys : List Int} (h1 : 1 ≤ n) (h0 : 0 ≤ K) (hz : zs.Perm (rg 0 n)) (h : All2 (fun x y => ∃ k : Int, -K ≤ k ∧ k ≤ K ∧ y = x + n * k) zs ys) : Win ys ∧ (ys.length : Int) = n ∧ ∀ x ∈ ys, (x.natAbs : Int) ≤ n + n * K := by
  have hl : (ys.length : Int) = n := by
    rw [← h.length, hz.length_eq, rg_length]; omega
  have hm : ∀ x ∈ zs, 0 ≤ x ∧ x < n := fun x hx => mem_rg.mp (hz.mem_iff.mp hx)
  have em : ys.map (fun x => x % n) = zs := by
    clear hz hl
    induction h with
    | nil => rfl
    | cons a _ ih =>
      obtain ⟨k, _, _, rfl⟩ := a
      rw [List.map_cons, ih fun x hx => hm x (by simp [hx])]
      congr 1
      rw [Int.add_mul_emod_self_left]
      have := hm _ (List.mem_cons_self ..)
      exact Int.emod_eq_of_lt this.1 this.2
  refine ⟨⟨by omega, ?_⟩, hl, ?_⟩
  · rw [hl, em, ← rg_cells, hl]; exact hz
  · clear hl em hz
    induction h with
    | nil => intro x hx; cases hx
    | cons a _ ih =>
      intro x hx
      rcases List.mem_cons.mp hx with rfl | hx
      · obtain ⟨k, k1, k2, rfl⟩ := a
        have b := hm _ (List.mem_cons_self ..)
        have e1 := Int.mul_le_mul_of_nonneg_left k2 (show 0 ≤ n by omega)
        have e2 := Int.mul_le_mul_of_nonneg_left k1 (show 0 ≤ n by omega)
        rw [Int.mul_neg] at e2
        omega
      · exact ih (fun y hy => hm y (by simp [hy])) x hx
def fsLPush : FS := fun _ ds R => ∃ w : List Int, ds = [.tup (w.map .int)] ∧ Win w ∧ w.length ≤ 1000 ∧ R (.int (push w))
def fsStep : FS := fun _ ds R => ∃ (w : List Int) (s : Int), ds = [.tup (w.map .int), .int s] ∧ w.length ≤ 1000 ∧ 0 ≤ s ∧ s < w.length ∧ R (.tup ((stp w s.toNat).map .int))
def fsLBack : FS := fun _ ds R => ∃ w : List Int, ds = [.tup (w.map .int)] ∧ Win w ∧ w.length ≤ 1000 ∧ R (.tup ((mk w.length (bk w)).map .int))
def fsBound : FS := fun _ ds R => ∃ v : List Int, ds = [.tup (v.map .int)] ∧ 0 < v.length ∧ v.length ≤ 1000 ∧ ∀ M : Int, (∀ i : Nat, i < v.length → ((v.getD i 0 - i).natAbs : Int) ≤ M) → (∃ i : Nat, i < v.length ∧ ((v.getD i 0 - i).natAbs : Int) = M) → R (.int (M * 2 + 1))
def fsDue : FS := fun _ ds R => ∃ u v : List Int, ds = [.tup (u.map .int), .tup (v.map .int)] ∧ Win u ∧ Win v ∧ u.length = v.length ∧ u.length ≤ 1000 ∧ (∀ x ∈ u, x.natAbs ≤ 1000) ∧ ∀ d, Due u v d → R d
theorem ixN_eq {n : Nat} {i : Int} {j : Nat} (e : i = j) (h : j < n) : ixN n i = some j := by
  subst e
  rw [ixN_nat (by omega) (by omega)]
  congr 1
theorem map_set2 {w : List Int} {a b : Nat} {x y : Int} : ((w.map D.int).set a (.int x)).set b (.int y) = ((w.set a x).set b y).map D.int := by rw [List.map_set, List.map_set]
/-- some rests met, the others 0 -/
def backAt (w : List Int) (seen : List Int) : List Int := (cells w.length).map fun r => if r ∈ seen then bk w r else 0
theorem backAt_nil (w : List Int) : backAt w [] = List.replicate w.length 0 := by
  unfold backAt
  apply List.ext_getElem?
  intro i
  rw [List.getElem?_map, List.getElem?_replicate]
  by_cases h : i < w.length
  · rw [cells_get h, if_pos h]; simp
  · rw [if_neg h]
    have : (cells w.length)[i]? = none := List.getElem?_eq_none (by unfold cells; simp; omega)
    rw [this]; rfl
theorem backAt_set {w seen : List Int} {r : Int} (r0 : 0 ≤ r) (r1 : r < w.length) : (backAt w seen).set r.toNat (bk w r) = backAt w (seen ++ [r]) := by
  unfold backAt
  apply List.ext_getElem?
  intro i
  have hlen : ((cells w.length).map fun r => if r ∈ seen then bk w r else 0).length = w.length := by unfold cells; simp
  by_cases h : i < w.length
  · rw [List.getElem?_map (l := cells w.length) (i := i) (f := fun r' => if r' ∈ seen ++ [r] then bk w r' else 0), cells_get h]
    by_cases e : r.toNat = i
    · subst e
      rw [List.getElem?_set_self (by rw [hlen]; exact h)]
      have : ((r.toNat : Nat) : Int) = r := by omega
      simp [this]
    · rw [List.getElem?_set_ne e, List.getElem?_map, cells_get h]
      have ne : ¬ ((i : Int) = r) := fun z => e (by omega)
      simp [ne]
  · rw [List.getElem?_eq_none (by rw [List.length_set, hlen]; omega), List.getElem?_eq_none (by unfold cells; simp; omega)]
theorem backAt_all {w seen : List Int} (h : ∀ r ∈ cells w.length, r ∈ seen) : backAt w seen = mk w.length (bk w) := by
  unfold backAt mk
  apply List.map_congr_left
  intro r hr
  rw [if_pos (h r hr)]
theorem rep_ints (n : Nat) (x : Int) : (List.replicate n [D.int x]).flatten = (List.replicate n x).map D.int := by
  induction n with
  | zero => rfl
  | succ n ih => rw [List.replicate_succ, List.flatten_cons, ih, List.replicate_succ, List.map_cons]; rfl
theorem placed_get {ds : List D} {i : Nat} {d : D} (h : (Dw.placed ds)[i]? = some d) : ∃ x, ds[i]? = some x ∧ d = .tup [.int i, x] ∧ i < ds.length := by
  unfold Dw.placed at h
  rw [List.getElem?_mapIdx] at h
  cases e : ds[i]? with
  | none => rw [e] at h; cases h
  | some x => rw [e] at h; cases h; exact ⟨x, rfl, rfl, (List.getElem?_eq_some_iff.mp e).1⟩
theorem placed_map {α : Type} (f : α → D) (l : List α) : Dw.placed (l.map f) = (l.mapIdx fun i a => ((i : Nat), a)).map fun p => .tup [.int p.1, f p.2] := by
  unfold Dw.placed
  apply List.ext_getElem?
  intro i
  rw [List.getElem?_mapIdx, List.getElem?_map, List.getElem?_map, List.getElem?_mapIdx]
  cases l[i]? <;> rfl
theorem mem_idx {α : Type} {l : List α} {p : Nat × α} (h : p ∈ l.mapIdx fun i a => ((i : Nat), a)) : l[p.1]? = some p.2 := by
  obtain ⟨i, hi⟩ := List.getElem?_of_mem h
  rw [List.getElem?_mapIdx] at hi
  cases e : l[i]? with
  | none => rw [e] at hi; cases hi
  | some a =>
    rw [e] at hi
    have : (i, a) = p := Option.some.inj hi
    subst this
    exact e
end W

/-! the law of k42: what is told is one thing, and what it is told of -/
namespace W
open PySem PySem.Spec PyProof.Rows L2 Dw M
theorem least_uniq {u v : List Int} {lo a b : Int} (h : Least u v lo a) (k : Least u v lo b) : a = b := by
  have := h.2 b k.1
  have := k.2 a h.1
  omega
theorem due_uniq {u v : List Int} {d e : D} (h : Due u v d) (k : Due u v e) : d = e := by
  rcases h with ⟨p, rfl⟩ | ⟨p, lo, hi, l0, l1, m, no, rfl⟩ | ⟨p, no, rfl⟩
  · rcases k with ⟨q, rfl⟩ | ⟨q, _⟩ | ⟨q, _⟩
    · rfl
    · exact absurd q p
    · exact absurd q p
  · rcases k with ⟨q, _⟩ | ⟨q, lo2, hi2, k0, k1, m2, no2, rfl⟩ | ⟨q, no2, rfl⟩
    · exact absurd p q
    · have e : lo = lo2 := by
        rcases Int.lt_trichotomy lo lo2 with z | z | z
        · exact absurd m.1 (no2 lo l0 z hi)
        · exact z
        · exact absurd m2.1 (no lo2 k0 z hi2)
      subst e
      rw [least_uniq m m2]
    · exact absurd m.1 (no2 lo l0 l1 hi)
  · rcases k with ⟨q, _⟩ | ⟨q, lo2, hi2, k0, k1, m2, no2, rfl⟩ | ⟨q, no2, rfl⟩
    · exact absurd p q
    · exact absurd m2.1 (no lo2 k0 k1 hi2)
    · rfl
theorem due_rok {u v : List Int} (U : Win u) (hs : u.length ≤ 1000) (hb : ∀ x ∈ u, x.natAbs ≤ 10 ^ 200) {d : D} (h : Due u v d) : Rok 60 100 d := by
  have sx : ∀ x : Str, x = "push" ∨ x = "pair" ∨ x = "ahead" → Rok 59 10 (.str x) := fun x hx => by
    rcases hx with rfl | rfl | rfl
    · exact (Rok.str (by decide +kernel) (by decide +kernel)).mono (by decide +kernel)
    · exact (Rok.str (by decide +kernel) (by decide +kernel)).mono (by decide +kernel)
    · exact (Rok.str (by decide +kernel) (by decide +kernel)).mono (by decide +kernel)
  rcases h with ⟨p, rfl⟩ | ⟨p, lo, hi, l0, l1, m, no, rfl⟩ | ⟨p, no, rfl⟩
  · refine Rok.tup' (n := 59) (k := 10) (fun x hx => ?_) (by simp)
    rw [List.mem_singleton.mp hx]
    exact sx _ (.inl rfl)
  · refine Rok.tup' (n := 59) (k := 10) (fun x hx => ?_) (by simp)
    simp only [List.mem_cons, List.not_mem_nil, or_false] at hx
    obtain ⟨b0, b1⟩ := pr_big U hb l0 l1 m.1
    rcases hx with rfl | rfl | rfl
    · exact sx _ (.inr (.inl rfl))
    · exact (Rok.int (Nat.lt_of_le_of_lt (show lo.natAbs ≤ 1000 by omega) (by decide +kernel))).mono (by decide)
    · refine (Rok.int (Nat.lt_of_le_of_lt (show hi.natAbs ≤ 2 * 10 ^ 200 + 6000 from ?_) (by decide +kernel))).mono (by decide)
      generalize 10 ^ 200 = B at b1 ⊢
      omega
  · refine Rok.tup' (n := 59) (k := 10) (fun x hx => ?_) (by simp)
    rw [List.mem_singleton.mp hx]
    exact sx _ (.inr (.inr rfl))
theorem eq_pa : eqD (.tup [.str "push"]) (.tup [.str "ahead"]) = false := by decide +kernel
theorem eq_ap : eqD (.tup [.str "ahead"]) (.tup [.str "push"]) = false := by decide +kernel
theorem eq_aa : eqD (.tup [.str "ahead"]) (.tup [.str "ahead"]) = true := by decide +kernel
theorem eq_pp : eqD (.tup [.str "push"]) (.tup [.str "push"]) = true := by decide +kernel
theorem eq_long {a b c e : D} : eqD (.tup [a, b, c]) (.tup [e]) = false := by simp [eqD, D.py, pyAll, PyData.eqv, PyData.eqvAll]
theorem due_ahead {u v : List Int} {d : D} (h : Due u v d) : eqD d (.tup [.str "ahead"]) = true ↔ (push u = push v ∧ NoPr u v) := by
  rcases h with ⟨p, rfl⟩ | ⟨p, lo, hi, l0, l1, m, no, rfl⟩ | ⟨p, no, rfl⟩
  · rw [eq_pa]
    exact ⟨fun z => absurd z (by decide), fun z => absurd z.1 p⟩
  · rw [eq_long]
    exact ⟨fun z => absurd z (by decide), fun z => absurd m.1 (z.2 lo l0 l1 hi)⟩
  · rw [eq_aa]
    exact ⟨fun _ => ⟨p, no⟩, fun _ => rfl⟩
theorem due_push {u v : List Int} {d : D} (h : Due u v d) : eqD d (.tup [.str "push"]) = !decide (push u = push v) := by
  rcases h with ⟨p, rfl⟩ | ⟨p, lo, hi, l0, l1, m, no, rfl⟩ | ⟨p, no, rfl⟩
  · rw [eq_pp]; simp [p]
  · rw [eq_long]; simp [p]
  · rw [eq_ap]; simp [p]
/-- the same turned places and alike pushes: the same told -/
theorem due_alike {u v u' v' : List Int} (hl : u.length = u'.length) (h1 : ∀ lo hi, tn u' lo hi = tn u lo hi) (h2 : ∀ lo hi, tn v' lo hi = tn v lo hi) (hp : (push u' = push v') ↔ (push u = push v)) {d : D} (h : Due u' v' d) : Due u v d := by
  have e : ∀ lo hi, Pr u' v' lo hi ↔ Pr u v lo hi := fun lo hi => by unfold Pr; rw [h1, h2]
  have el : ∀ lo hi, Least u' v' lo hi ↔ Least u v lo hi := fun lo hi => by
    unfold Least
    rw [e]
    exact and_congr Iff.rfl ⟨fun a h k => a h ((e lo h).mpr k), fun a h k => a h ((e lo h).mp k)⟩
  rcases h with ⟨p, rfl⟩ | ⟨p, lo, hi, l0, l1, m, no, rfl⟩ | ⟨p, no, rfl⟩
  · exact .inl ⟨fun z => p (hp.mpr z), rfl⟩
  · exact .inr (.inl ⟨hp.mp p, lo, hi, l0, by rw [hl]; exact l1, (el lo hi).mp m, fun lo' a b h k => no lo' a b h ((e lo' h).mpr k), rfl⟩)
  · exact .inr (.inr ⟨hp.mp p, fun lo a b h k => no lo a (by rw [← hl]; exact b) h ((e lo h).mpr k), rfl⟩)
theorem tn_far {w : List Int} (W : Win w) (lo hi k : Int) : tn w (lo + w.length * k) (hi + w.length * k) = tn w lo hi := by
  unfold tn
  rw [bk_add W, bk_add W]
  exact decide_eq_decide.mpr (by omega)
/-- behind a push -/
theorem behind {u : List Int} (U : Win u) (c : Int) : Win ((sht u.length c).map (nx u)) ∧ ((sht u.length c).map (nx u)).length = u.length ∧ push ((sht u.length c).map (nx u)) = push u + c ∧ (∀ lo hi, tn ((sht u.length c).map (nx u)) lo hi = tn u lo hi) := by
  obtain ⟨S, sl, sn, sp⟩ := win_sht (n := u.length) U.pos c
  obtain ⟨B, bl, bn⟩ := win_on U S sl.symm
  have hp := push_on U S sl.symm
  rw [sp] at hp
  refine ⟨B, bl, hp, fun lo hi => ?_⟩
  have eb : ∀ y, bk ((sht u.length c).map (nx u)) y = bk u y - c := fun y => bk_eq B (by
    rw [bn, sn]
    have : bk u y - c + c = bk u y := by omega
    rw [this, nx_bk U])
  unfold tn
  rw [eb, eb]
  exact decide_eq_decide.mpr (by omega)
theorem behind_big {u : List Int} (U : Win u) {B : Nat} (hB : ∀ x ∈ u, x.natAbs ≤ B) (c : Int) : ∀ x ∈ (sht u.length c).map (nx u), x.natAbs ≤ c.natAbs + B + 3 * u.length := fun x hx => by
  obtain ⟨y, hy, rfl⟩ := List.mem_map.mp hx
  unfold sht at hy
  obtain ⟨z, hz, rfl⟩ := List.mem_map.mp hy
  rw [mem_cells] at hz
  have := nx_big U hB (z + c)
  omega
theorem tn_sht {n : Nat} (hn : 0 < n) (c : Int) {lo hi : Int} (h : lo < hi) : tn (sht n c) lo hi = false := by
  obtain ⟨S, sl, sn, sp⟩ := win_sht hn c
  have eb : ∀ y, bk (sht n c) y = y - c := fun y => bk_eq S (by rw [sn]; omega)
  unfold tn
  rw [eb, eb, decide_eq_false_iff_not]
  omega
theorem no_sht {n : Nat} (hn : 0 < n) (c : Int) (v : List Int) : NoPr (sht n c) v := fun lo l0 l1 h p => by
  have := tn_sht hn c p.1
  rw [p.2.1] at this; cases this
theorem no_self (u : List Int) : NoPr u u := fun lo l0 l1 h p => by
  have := p.2.1.symm.trans p.2.2
  cases this
theorem plain_of {u : List Int} (U : Win u) (h : NoPr u (sht u.length (push u))) : u = sht u.length (push u) := by
  obtain ⟨S, sl, sn, sp⟩ := win_sht (n := u.length) U.pos (push u)
  refine same_map U S sl.symm (fun lo hi l0 l1 lt => ?_) sp.symm
  have e := tn_sht U.pos (push u) lt
  rw [e]
  cases z : tn u lo hi with
  | false => rfl
  | true => exact absurd ⟨lt, z, e⟩ (h lo l0 l1 hi)
theorem both_of {u v : List Int} (U : Win u) (V : Win v) (hl : u.length = v.length) (hp : push u = push v) (h1 : NoPr u v) (h2 : NoPr v u) : u = v := by
  refine same_map U V hl (fun lo hi l0 l1 lt => ?_) hp
  cases a : tn u lo hi <;> cases b : tn v lo hi <;> first | rfl | skip
  · exact absurd ⟨lt, b, a⟩ (h2 lo l0 (by rw [← hl]; exact l1) hi)
  · exact absurd ⟨lt, a, b⟩ (h1 lo l0 l1 hi)
theorem rok_ints {l : List Int} (h : ∀ x ∈ l, x.natAbs ≤ 10 ^ 300) (hl : l.length ≤ 300) : Rok 60 300 (.tup (l.map .int)) := by
  refine Rok.tup' (n := 59) (k := 0) (fun x hx => ?_) (by rw [List.length_map]; omega)
  obtain ⟨c, hc, rfl⟩ := List.mem_map.mp hx
  exact Rok.int (Nat.lt_of_le_of_lt (h c hc) (by decide +kernel))
end W

/-! a map taken so often, either way -/
namespace M
def itb (w : List Int) : Nat → Int → Int
  | 0, x => x
  | k + 1, x => bk w (itb w k x)
def itz (w : List Int) (N x : Int) : Int := match N with
  | .ofNat k => it w k x
  | .negSucc k => itb w (k + 1) x
theorem int_ind {P : Int → Prop} (h0 : P 0) (h : ∀ q, P q ↔ P (q + 1)) : ∀ q, P q := by
  have up : ∀ k : Nat, P k := fun k => by
    induction k with
    | zero => exact h0
    | succ k ih => exact (h k).mp ih
  have dn : ∀ k : Nat, P (-(k : Int)) := fun k => by
    induction k with
    | zero => exact h0
    | succ k ih =>
      refine (h _).mpr ?_
      have e : -((k + 1 : Nat) : Int) + 1 = -(k : Int) := by omega
      rw [e]; exact ih
  intro q
  by_cases z : 0 ≤ q
  · have e : q = ((q.toNat : Nat) : Int) := by omega
    rw [e]; exact up _
  · have e : q = -(((-q).toNat : Nat) : Int) := by omega
    rw [e]; exact dn _
section
variable {w : List Int}
theorem itz_nat (k : Nat) (x : Int) : itz w k x = it w k x := rfl
theorem itz_zero (x : Int) : itz w 0 x = x := rfl
theorem itz_succ (W : Win w) (N x : Int) : itz w (N + 1) x = nx w (itz w N x) := by
  cases N with
  | ofNat k => rfl
  | negSucc k =>
    cases k with
    | zero => exact (nx_bk W x).symm
    | succ k =>
      have e : Int.negSucc (k + 1) + 1 = Int.negSucc k := by omega
      rw [e]
      show itb w (k + 1) x = nx w (bk w (itb w (k + 1) x))
      rw [nx_bk W]
theorem itz_uniq (W : Win w) {F : Int → Int} (hF : ∀ N, F (N + 1) = nx w (F N)) : ∀ N, F N = itz w N (F 0) := by
  refine int_ind rfl fun q => ?_
  rw [hF, itz_succ W]
  exact ⟨fun h => by rw [h], fun h => nx_inj0 W h⟩
theorem itz_add (W : Win w) (A N x : Int) : itz w (A + N) x = itz w A (itz w N x) := by
  have q := itz_uniq W (F := fun A => itz w (A + N) x) (fun A => by
    show itz w (A + 1 + N) x = _
    have e : A + 1 + N = (A + N) + 1 := by omega
    rw [e, itz_succ W]) A
  have e0 : (0 : Int) + N = N := by omega
  rw [e0] at q
  exact q
theorem itz_shift (W : Win w) (N x k : Int) : itz w N (x + w.length * k) = itz w N x + w.length * k := by
  have q := itz_uniq W (F := fun N => itz w N x + w.length * k) (fun N => by rw [itz_succ W, nx_add]) N
  exact q.symm
theorem itz_one (W : Win w) (x : Int) : itz w 1 x = nx w x := rfl
theorem itz_neg (W : Win w) (N x : Int) : itz w (-N) (itz w N x) = x := by
  rw [← itz_add W]
  have e : -N + N = 0 := by omega
  rw [e]; rfl
theorem itz_inj (W : Win w) (N : Int) {a b : Int} (h : itz w N a = itz w N b) : a = b := by rw [← itz_neg W N a, h, itz_neg W]
theorem itz_cong (W : Win w) (N : Int) {a b : Int} (h : itz w N a % w.length = itz w N b % w.length) : a % w.length = b % w.length := by
  have e : itz w N a = itz w N b + w.length * ((itz w N a - itz w N b) / w.length) := by
    have z := sub_mod_zero.mpr h
    have := Int.mul_ediv_add_emod (itz w N a - itz w N b) w.length
    omega
  have q : a = b + w.length * ((itz w N a - itz w N b) / w.length) := itz_inj W N (by rw [itz_shift W]; exact e)
  rw [q, Int.add_mul_emod_self_left]
theorem win_pow (W : Win w) (N : Int) : Win (mk w.length (itz w N)) ∧ (∀ x, nx (mk w.length (itz w N)) x = itz w N x) := by
  refine ⟨win_mk W.pos fun a b a0 a1 b0 b1 h => ?_, nx_mk W.pos fun x k => itz_shift W N x k⟩
  have := itz_cong W N h
  rwa [Int.emod_eq_of_lt a0 a1, Int.emod_eq_of_lt b0 b1] at this
/-- whole rounds -/
theorem itz_turns (W : Win w) {L : Nat} {r d : Int} (h : it w L r = r + w.length * d) (q : Int) : itz w (L * q) r = r + w.length * (d * q) := by
  refine int_ind (P := fun q => itz w (L * q) r = r + w.length * (d * q)) (by simp [itz_zero]) (fun q => ?_) q
  have e : (L : Int) * (q + 1) = L + L * q := by rw [Int.mul_add]; omega
  have e2 : (w.length : Int) * (d * (q + 1)) = w.length * d + w.length * (d * q) := by rw [Int.mul_add, Int.mul_add]; simp; omega
  have e3 : itz w L (r + w.length * (d * q)) = r + (w.length * d + w.length * (d * q)) := by
    rw [itz_shift W, itz_nat, h]; omega
  rw [e, itz_add W, e2, ← e3]
  exact ⟨fun h => by rw [h], fun h => itz_inj W _ h⟩
theorem along (W : Win w) {L : Nat} {r d : Int} (hL : 0 < L) (h : it w L r = r + w.length * d) (m : Int) : it w (m % L).toNat r + m / L * (d * w.length) = itz w m r := by
  have e := Int.mul_ediv_add_emod m L
  have e0 := Int.emod_nonneg m (show (L : Int) ≠ 0 by omega)
  have em : m = ((m % L).toNat : Nat) + (L : Int) * (m / L) := by omega
  have q := itz_add W ((m % L).toNat : Nat) (L * (m / L)) r
  rw [← em, itz_turns W h, itz_shift W, itz_nat] at q
  have z : m / L * (d * w.length) = w.length * (d * (m / L)) := by
    rw [Int.mul_comm (m / L), Int.mul_assoc, Int.mul_left_comm]
  rw [z]
  exact q.symm
theorem nx_step {B : Nat} (W : Win w) (hB : ∀ x ∈ w, x.natAbs ≤ B) (x : Int) : (nx w x - x).natAbs ≤ B + w.length := by
  have m := md W x
  have hl : (x % w.length).toNat < w.length := by omega
  have hb : (w.getD (x % w.length).toNat 0).natAbs ≤ B := by rw [getD_lt hl]; exact hB _ (List.getElem_mem hl)
  unfold nx
  generalize w.getD (x % w.length).toNat 0 = y at hb ⊢
  omega
theorem itz_far {B : Nat} (W : Win w) (hB : ∀ x ∈ w, x.natAbs ≤ B) (N x : Int) : (itz w N x - x).natAbs ≤ N.natAbs * (B + w.length) := by
  have up : ∀ (k : Nat) (x : Int), (itz w k x - x).natAbs ≤ k * (B + w.length) := fun k => by
    induction k with
    | zero => intro x; simp [itz_zero]
    | succ k ih =>
      intro x
      have h1 := ih x
      have h2 := nx_step W hB (itz w k x)
      have e : itz w ((k + 1 : Nat) : Int) x = nx w (itz w k x) := itz_succ W k x
      rw [e, Nat.add_mul, Nat.one_mul]
      omega
  by_cases z : 0 ≤ N
  · have e : N = ((N.toNat : Nat) : Int) := by omega
    have h := up N.toNat x
    rw [← e] at h
    have en : N.toNat = N.natAbs := by omega
    rw [en] at h
    exact h
  · have e : N = -(((-N).toNat : Nat) : Int) := by omega
    have h := up (-N).toNat (itz w N x)
    have q : itz w (((-N).toNat : Nat) : Int) (itz w N x) = x := by
      have : (((-N).toNat : Nat) : Int) = -N := by omega
      rw [this, itz_neg W]
    rw [q] at h
    have en : (-N).toNat = N.natAbs := by omega
    rw [en] at h
    omega
end
end M

/-! what the defs of the powers promise -/
namespace W
open PySem PySem.Spec PyProof.Rows L2 Dw M
theorem dval_put {es : List (Key × D)} {k j : Key} {d : D} : dValD (putD es k d) j = if k = j then some d else dValD es j := by
  unfold putD
  by_cases h : (es.any fun p => decide (p.1 = k)) = true
  · rw [if_pos h]
    induction es with
    | nil => simp at h
    | cons p es ih =>
      rw [List.map_cons]
      unfold dValD
      rw [List.find?_cons, List.find?_cons]
      by_cases e : p.1 = k
      · by_cases z : k = j
        · subst z
          simp [e]
        · have e2 : ¬ p.1 = j := fun q => z (e.symm.trans q)
          simp only [e, if_true, z, if_false, decide_false, e2]
          by_cases h2 : (es.any fun p => decide (p.1 = k)) = true
          · have := ih h2
            unfold dValD at this
            rw [if_neg z] at this
            exact this
          · have same : es.map (fun p => if p.1 = k then (p.1, d) else p) = es := by
              clear ih h
              induction es with
              | nil => rfl
              | cons q es ih =>
                rw [List.any_cons, Bool.or_eq_true, not_or] at h2
                rw [List.map_cons, ih h2.2, if_neg (by simpa using h2.1)]
            rw [same]
      · have h2 : (es.any fun p => decide (p.1 = k)) = true := by
          rw [List.any_cons, Bool.or_eq_true] at h
          rcases h with h | h
          · exact absurd (by simpa using h) e
          · exact h
        have := ih h2
        unfold dValD at this
        simp only [e, if_false]
        by_cases z : p.1 = j
        · have zk : ¬ k = j := fun q => e (z.trans q.symm)
          simp [z, zk]
        · simp only [z, decide_false]
          exact this
  · rw [if_neg h]
    unfold dValD
    rw [List.find?_append]
    by_cases z : k = j
    · subst z
      have : es.find? (fun p => decide (p.1 = k)) = none := by
        rw [List.find?_eq_none]
        intro p hp q
        exact h (List.any_eq_true.mpr ⟨p, hp, q⟩)
      rw [this]
      simp
    · simp [z]
theorem has_dval {es : List (Key × D)} {k : Key} (h : hasK es k = true) : ∃ d, dValD es k = some d := by
  rw [← dVal_has] at h
  exact Option.isSome_iff_exists.mp h
def fsPlaces : FS := fun _ ds R => ∃ w r, ds = [.tup (w.map .int), .tup ((orb w r).map .int)] ∧ Win w ∧ w.length ≤ 64 ∧ 0 ≤ r ∧ r < w.length ∧ R (.lst (((List.range (per w r)).map fun i => it w i r).map .int))
def fsAlong : FS := fun _ ds R => ∃ (ps : List Int) (st m : Int), ds = [.lst (ps.map .int), .int ps.length, .int st, .int m] ∧ 0 < ps.length ∧ ps.length ≤ 1000 ∧ CMulD (m / ps.length) st ∧ R (.int (ps.getD (m % ps.length).toNat 0 + m / ps.length * st))
def fsPower : FS := fun _ ds R => ∃ (w : List Int) (N : Int), ds = [.tup (w.map .int), .int N] ∧ Win w ∧ w.length ≤ 64 ∧ (∀ x ∈ w, x.natAbs ≤ 10 ^ 300) ∧ N.natAbs ≤ 10 ^ 310 ∧ (∀ x ∈ cells w.length, (itz w N x).natAbs < 10 ^ 300) ∧ R (.tup ((mk w.length (itz w N)).map .int))
theorem orb_len_eq {w : List Int} {r : Int} : (orb w r).length = per w r := by unfold orb; rw [List.length_map, List.length_range]
theorem orb_get {w : List Int} {r : Int} {i : Nat} (h : i < per w r) : (orb w r)[i]? = some (it w i r % w.length) := by
  unfold orb
  rw [List.getElem?_map, List.getElem?_range h]; rfl
theorem drift_wide {w : List Int} {r : Int} (W : Win w) (h8 : w.length ≤ 64) (hb : ∀ x ∈ w, x.natAbs ≤ 10 ^ 300) (h0 : 0 ≤ r) (h1 : r < w.length) : (drift w r * w.length).natAbs ≤ 10 ^ 310 := by
  have e := drift_ok W h0 h1
  have b := it_big hb W r (per w r)
  have hp := (per_ok W h0 h1).2.1
  have b2 : per w r * (10 ^ 300 + w.length) ≤ 64 * (10 ^ 300 + 64) := Nat.mul_le_mul (by omega) (by omega)
  have b4 : 64 * (10 ^ 300 + 64) + 128 ≤ 10 ^ 310 := by decide +kernel
  rw [Int.mul_comm]
  generalize 64 * (10 ^ 300 + 64) = u at b2 b4
  generalize 10 ^ 310 = q at b4 ⊢
  omega
theorem wide_mul {i j : Int} (h1 : i.natAbs ≤ 10 ^ 320) (h2 : j.natAbs ≤ 10 ^ 320) : CMulD i j :=
  .inr ⟨Nat.lt_of_le_of_lt h1 (by decide +kernel), Nat.lt_of_le_of_lt h2 (by decide +kernel)⟩
theorem div_small {m L : Int} (h : 0 < L) : (m / L).natAbs ≤ m.natAbs + 1 := by
  have e1 := Int.mul_ediv_add_emod m L
  have e2 := Int.emod_nonneg m (show L ≠ 0 by omega)
  have e3 := Int.emod_lt_of_pos m h
  by_cases z : 0 ≤ m / L
  · have := Int.mul_le_mul_of_nonneg_right (show (1 : Int) ≤ L by omega) z
    omega
  · have := Int.mul_le_mul_of_nonneg_right (show (1 : Int) ≤ L by omega) (show (0 : Int) ≤ -(m / L) by omega)
    rw [Int.mul_neg, Int.one_mul] at this
    refine Classical.byContradiction fun q => ?_
    have q' : m / L ≤ m - 1 - 1 ∨ m / L ≤ -(m.natAbs : Int) - 2 := by omega
    have k1 : L * (m / L) ≤ L * (-(m.natAbs : Int) - 2) := Int.mul_le_mul_of_nonneg_left (by omega) (by omega)
    have k2 : L * (-(m.natAbs : Int) - 2) = -(L * m.natAbs) - 2 * L := by rw [Int.mul_sub, Int.mul_neg]; omega
    have k3 := Int.mul_le_mul_of_nonneg_right (show (1 : Int) ≤ L by omega) (show (0 : Int) ≤ (m.natAbs : Int) by omega)
    omega
/-- the place told is the place taken so often -/
theorem power_at {w : List Int} (W : Win w) {r N : Int} (h0 : 0 ≤ r) (h1 : r < w.length) {j : Nat} (hj : j < per w r) : (((List.range (per w r)).map fun i => it w i r).getD (((j : Int) + N) % (per w r : Int)).toNat 0 + ((j : Int) + N) / (per w r : Int) * (drift w r * w.length)) + it w j r % w.length - it w j r = itz w N (it w j r % w.length) := by
  have hp := per_ok W h0 h1
  have hm : (((j : Int) + N) % (per w r : Int)).toNat < per w r := by
    have a := Int.emod_nonneg ((j : Int) + N) (show (per w r : Int) ≠ 0 by omega)
    have b := Int.emod_lt_of_pos ((j : Int) + N) (show (0 : Int) < per w r by omega)
    omega
  have g : ((List.range (per w r)).map fun i => it w i r).getD (((j : Int) + N) % (per w r : Int)).toNat 0 = it w (((j : Int) + N) % (per w r : Int)).toNat r := by
    rw [List.getD_eq_getElem?_getD, List.getElem?_map, List.getElem?_range hm]; rfl
  rw [g, along W (by omega) (drift_ok W h0 h1)]
  have e1 : (j : Int) + N = N + j := by omega
  rw [e1, itz_add W, itz_nat]
  have e2 : it w j r = it w j r % w.length + w.length * (it w j r / w.length) := by have := Int.mul_ediv_add_emod (it w j r) w.length; omega
  have e3 := itz_shift W N (it w j r % w.length) (it w j r / w.length)
  rw [← e2] at e3
  omega
end W

/-! the least common number of the cells, and the lines of all powers -/
namespace M
section
variable {w : List Int}
def lcmR (w : List Int) (rs : List Int) : Nat := rs.foldl (fun a r => Nat.lcm a (per w r)) 1
def lcmL (w : List Int) : Nat := lcmR w (rounds w w.length)
theorem lcmR_snoc (rs : List Int) (r : Int) : lcmR w (rs ++ [r]) = Nat.lcm (lcmR w rs) (per w r) := by
  unfold lcmR; rw [List.foldl_append]; rfl
theorem lcmR_take {rs : List Int} {i : Nat} {r : Int} (h : rs[i]? = some r) : lcmR w (rs.take (i + 1)) = Nat.lcm (lcmR w (rs.take i)) (per w r) := by
  rw [List.take_add_one, h]; exact lcmR_snoc _ _
theorem lcmR_go {rs : List Int} : ∀ {a : Nat}, a ∣ rs.foldl (fun a r => Nat.lcm a (per w r)) a ∧ ∀ r ∈ rs, per w r ∣ rs.foldl (fun a r => Nat.lcm a (per w r)) a := by
  induction rs with
  | nil => intro a; exact ⟨Nat.dvd_refl _, fun r h => by simp at h⟩
  | cons r rs ih =>
    intro a
    rw [List.foldl_cons]
    have := @ih (Nat.lcm a (per w r))
    refine ⟨Nat.dvd_trans (Nat.dvd_lcm_left _ _) this.1, fun x h => ?_⟩
    rcases List.mem_cons.mp h with rfl | h
    · exact Nat.dvd_trans (Nat.dvd_lcm_right _ _) this.1
    · exact this.2 x h
theorem lcmR_div {rs : List Int} {m : Nat} (h : ∀ r ∈ rs, per w r ∣ m) : ∀ {a : Nat}, a ∣ m → rs.foldl (fun a r => Nat.lcm a (per w r)) a ∣ m := by
  induction rs with
  | nil => intro a ha; exact ha
  | cons r rs ih =>
    intro a ha
    rw [List.foldl_cons]
    exact ih (fun x hx => h x (List.mem_cons_of_mem _ hx)) (Nat.lcm_dvd ha (h r (List.mem_cons_self)))
theorem small_dvd : ∀ k : Nat, 1 ≤ k → k ≤ 8 → k ∣ 840 := fun k h1 h8 => by
  have : k = 1 ∨ k = 2 ∨ k = 3 ∨ k = 4 ∨ k = 5 ∨ k = 6 ∨ k = 7 ∨ k = 8 := by omega
  rcases this with rfl | rfl | rfl | rfl | rfl | rfl | rfl | rfl <;> decide
theorem lcmR_ok (W : Win w) (h8 : w.length ≤ 8) {rs : List Int} (h : ∀ r ∈ rs, 0 ≤ r ∧ r < w.length) : 1 ≤ lcmR w rs ∧ lcmR w rs ≤ 840 ∧ lcmR w rs ∣ 840 := by
  have d : lcmR w rs ∣ 840 := lcmR_div (fun r hr => by
    have p := per_ok W (h r hr).1 (h r hr).2
    exact small_dvd _ p.1 (by omega)) (Nat.one_dvd _)
  exact ⟨Nat.pos_of_dvd_of_pos d (by decide), Nat.le_of_dvd (by decide) d, d⟩
theorem lcmL_ok (W : Win w) (h8 : w.length ≤ 8) : 1 ≤ lcmL w ∧ lcmL w ≤ 840 ∧ lcmL w ∣ 840 :=
  lcmR_ok W h8 fun r hr => (rounds_ok W w.length (Nat.le_refl _)).rng r hr
theorem lcmL_per {r : Int} (h : r ∈ rounds w w.length) : per w r ∣ lcmL w := lcmR_go.2 r h
/-- once round a cell's round -/
theorem itz_round (W : Win w) {r : Int} (h0 : 0 ≤ r) (h1 : r < w.length) (j : Nat) (q : Int) :
    itz w (per w r * q) (it w j r % w.length) = it w j r % w.length + w.length * (drift w r * q) := by
  have a : it w (per w r) r = r + w.length * drift w r := drift_ok W h0 h1
  have b : it w (per w r) (it w j r) = it w j r + w.length * drift w r := by
    rw [← itz_nat, ← itz_nat, ← itz_add W, Int.add_comm, itz_add W, itz_nat (per w r), a, itz_shift W]
  have c : it w (per w r) (it w j r % w.length) = it w j r % w.length + w.length * drift w r := by
    have e := Int.mul_ediv_add_emod (it w j r) w.length
    have e2 := itz_shift W (per w r : Nat) (it w j r % w.length) (it w j r / w.length)
    have e3 : it w j r % w.length + w.length * (it w j r / w.length) = it w j r := by omega
    rw [e3, itz_nat, itz_nat, b] at e2
    omega
  exact itz_turns W c q
/-- the line of a place, for all numbers L by L -/
theorem itz_line (W : Win w) {x : Int} (hx : x ∈ cells w.length) (q e : Int) :
    itz w (lcmL w * q + e) x = q * (itz w (lcmL w : Nat) x - x) + itz w e x := by
  have I := rounds_ok W w.length (Nat.le_refl _)
  have hx' := mem_cells.mp hx
  obtain ⟨r, hr, ho⟩ := I.all x hx'.1 hx'.2
  obtain ⟨m, hm⟩ := lcmL_per hr
  have hr0 := I.rng r hr
  obtain ⟨j, hj, rfl⟩ : ∃ j, j < per w r ∧ it w j r % w.length = x := by
    unfold orb at ho
    obtain ⟨j, hj, e⟩ := List.mem_map.mp ho
    exact ⟨j, List.mem_range.mp hj, e⟩
  have t := itz_round W hr0.1 hr0.2 j
  have t1 : itz w (lcmL w : Nat) (it w j r % w.length) = it w j r % w.length + w.length * (drift w r * m) := by
    rw [← t, hm]; congr 1
  have t2 : itz w (lcmL w * q) (it w j r % w.length) = it w j r % w.length + w.length * (drift w r * (m * q)) := by
    rw [← t, hm, ← Int.mul_assoc]; congr 1
  rw [Int.add_comm, itz_add W, t2, itz_shift W, t1]
  have e1 : q * (it w j r % w.length + w.length * (drift w r * m) - it w j r % w.length) = w.length * (drift w r * (m * q)) := by
    rw [show it w j r % w.length + w.length * (drift w r * (m : Int)) - it w j r % w.length = w.length * (drift w r * m) by omega]
    rw [Int.mul_comm q, Int.mul_assoc, Int.mul_assoc]
  omega
/-- how far L steps lead -/
theorem itz_lead (W : Win w) {r : Int} (hr : r ∈ rounds w w.length) (j : Nat) :
    (lcmL w : Int) / (per w r : Int) * (drift w r * w.length) = itz w (lcmL w : Nat) (it w j r % w.length) - it w j r % w.length := by
  have I := rounds_ok W w.length (Nat.le_refl _)
  have hr0 := I.rng r hr
  obtain ⟨m, hm⟩ := lcmL_per hr
  have hp := (per_ok W hr0.1 hr0.2).1
  have t := itz_round W hr0.1 hr0.2 j m
  have t1 : itz w (lcmL w : Nat) (it w j r % w.length) = it w j r % w.length + w.length * (drift w r * m) := by
    rw [← t, hm]; congr 1
  have d : (lcmL w : Int) / (per w r : Int) = m := by
    rw [hm]
    show ((per w r * m : Nat) : Int) / (per w r : Int) = m
    rw [Int.natCast_mul, Int.mul_comm]
    exact Int.mul_ediv_cancel _ (by omega)
  rw [t1, d, Int.mul_comm (m : Int), Int.mul_comm (drift w r), Int.mul_assoc]
  omega
/-- a line by the whole number itself -/
def lineW (w : List Int) (e x : Int) : Int × Int :=
  (0 + (itz w (lcmL w : Nat) x - x), -(itz w (lcmL w : Nat) x - x) * e + itz w e x * lcmL w)
/-- whether d numbers of lines tell all -/
def Tells (w : List Int) (d : Nat) : Prop := ∀ e : Nat, e < lcmL w → ∀ x ∈ cells w.length, lineW w (e : Int) x = lineW w ((e : Int) % (d : Int)) x
theorem tells_all (w : List Int) : Tells w (lcmL w) := fun e h x _ => by
  rw [Int.emod_eq_of_lt (by omega) (by omega)]
theorem tells_line (W : Win w) (hL : 1 ≤ lcmL w) {d : Nat} (hd : 1 ≤ d) (dv : d ∣ lcmL w) (h : Tells w d) {x : Int} (hx : x ∈ cells w.length) :
    (itz w (lcmL w : Nat) x - x) * d / lcmL w = itz w (d : Nat) x - x ∧ ∀ N : Int, itz w N x = N / (d : Int) * (itz w (d : Nat) x - x) + itz w (N % (d : Int)) x := by
  have big := itz_line W hx
  obtain ⟨c, ec⟩ : ∃ c, c = itz w (lcmL w : Nat) x - x := ⟨_, rfl⟩
  obtain ⟨L, eL⟩ : ∃ L : Int, L = (lcmL w : Int) := ⟨_, rfl⟩
  have hL' : 1 ≤ L := by omega
  have h2 : ∀ e : Int, 0 ≤ e → e < L → -c * e + itz w e x * L = -c * (e % (d : Int)) + itz w (e % (d : Int)) x * L := fun e h0 h1 => by
    have := h e.toNat (by omega) x hx
    unfold lineW at this
    have z : ((e.toNat : Nat) : Int) = e := by omega
    rw [z] at this
    have := (Prod.mk.inj this).2
    rw [← ec, ← eL] at this
    exact this
  have dvL : ((d : Nat) : Int) ∣ L := by rw [eL]; exact Int.natCast_dvd_natCast.mpr dv
  have key : c * d = L * (itz w (d : Nat) x - x) := by
    by_cases z : d = lcmL w
    · rw [← z] at eL ec
      rw [eL, ec, Int.mul_comm]
    · have lt : (d : Int) < L := by have := Nat.le_of_dvd (by omega) dv; omega
      have k := h2 d (by omega) lt
      rw [Int.emod_self, itz_zero, Int.mul_zero, Int.neg_mul] at k
      rw [Int.mul_sub, Int.mul_comm L, Int.mul_comm L]
      omega
  refine ⟨?_, fun N => ?_⟩
  · rw [← ec, ← eL, key, Int.mul_comm]
    exact Int.mul_ediv_cancel _ (by omega)
  · have e1 := Int.mul_ediv_add_emod N L
    have e0 := Int.emod_nonneg N (show L ≠ 0 by omega)
    have e2 := Int.emod_lt_of_pos N (show (0 : Int) < L by omega)
    have m := h2 _ e0 e2
    rw [Int.emod_emod_of_dvd N dvL] at m
    have b := big (N / L) (N % L)
    rw [← ec, ← eL] at b
    rw [e1] at b
    have f1 := Int.mul_ediv_add_emod N (d : Int)
    -- L times both sides
    have t : L * itz w N x = L * (N / (d : Int) * (itz w (d : Nat) x - x) + itz w (N % (d : Int)) x) := by
      rw [b, Int.mul_add, Int.mul_add, Int.mul_left_comm L (N / (d : Int)), ← key]
      generalize itz w (N % L) x = g1 at *
      generalize itz w (N % (d : Int)) x = g2 at *
      have m1 : L * g1 = c * (N % L) - c * (N % (d : Int)) + L * g2 := by
        rw [Int.neg_mul, Int.neg_mul, Int.mul_comm g1, Int.mul_comm g2] at m
        omega
      rw [m1]
      have m2 : L * (N / L * c) = c * (L * (N / L)) := by rw [Int.mul_comm (N / L) c, Int.mul_left_comm]
      have m3 : N / (d : Int) * (c * d) = c * ((d : Int) * (N / (d : Int))) := by rw [Int.mul_left_comm, Int.mul_comm (N / (d : Int))]
      have m4 : L * (N / L) = N - N % L := by omega
      have m5 : (d : Int) * (N / (d : Int)) = N - N % (d : Int) := by omega
      rw [m2, m3, m4, m5, Int.mul_sub, Int.mul_sub]
      omega
    exact Int.eq_of_mul_eq_mul_left (by omega) t
end
end M

/-! what the defs of the lines of powers promise -/
namespace W
open PySem PySem.Spec PyProof.Rows L2 Dw M
def prD (p : Int × Int) : D := .tup [.int p.1, .int p.2]
theorem eqvAll_prs : ∀ u v : List (Int × Int), PyData.eqvAll (pyAll (u.map prD)) (pyAll (v.map prD)) = decide (u = v)
  | [], [] => by simp [pyAll, PyData.eqvAll]
  | [], b :: v => by simp [pyAll, PyData.eqvAll]
  | a :: u, [] => by simp [pyAll, PyData.eqvAll]
  | a :: u, b :: v => by
    have ih := eqvAll_prs u v
    simp only [List.map_cons, pyAll, D.py, PyData.eqvAll, ih, prD, PyData.eqv]
    rw [Bool.eq_iff_iff]
    simp [Prod.ext_iff]
theorem eqD_prs {u v : List (Int × Int)} : eqD (.lst (u.map prD)) (.lst (v.map prD)) = decide (u = v) := by
  show PyData.eqv (.list _) (.list _) = _
  simp only [PyData.eqv]
  exact eqvAll_prs u v
theorem flat_prs : ∀ (u : List (Int × Int)) (n : Nat), flatAll (n + 1) (u.map prD) = true
  | [], n => flatAll_nil
  | p :: u, n => by
    rw [List.map_cons, flatAll_cons, flat_prs u n]
    simp [prD, flat, flatAll_cons, flatAll_nil]
/-- lines of d numbers, place by place -/
def lineL (w : List Int) (d : Nat) (e x : Int) : Int × Int := (itz w (d : Nat) x - x, itz w e x)
def rowL (w : List Int) (d : Nat) (e : Int) : D := .tup (((cells w.length).map (lineL w d e)).map prD)
/-- windows that the lines can be told of -/
structure Fit (w : List Int) : Prop where
  win : Win w
  n8 : w.length ≤ 8
  few : ∀ x ∈ w, x.natAbs ≤ 10 ^ 290
theorem Fit.n0 {w : List Int} (F : Fit w) : 0 < w.length := by have := F.win.pos; omega
theorem Fit.big {w : List Int} (F : Fit w) {e : Nat} (he : e ≤ 840) {x : Int} (hx : x ∈ cells w.length) : (itz w e x).natAbs < 10 ^ 295 := by
  have hx' := mem_cells.mp hx
  have b := it_big F.few F.win x e
  rw [itz_nat]
  have n8 := F.n8
  have b2 : e * (10 ^ 290 + w.length) ≤ 840 * (10 ^ 290 + 8) := Nat.mul_le_mul he (by omega)
  have b3 : 840 * (10 ^ 290 + 8) + 8 < 10 ^ 295 := by decide +kernel
  generalize 840 * (10 ^ 290 + 8) = u at b2 b3
  generalize 10 ^ 295 = q at b3 ⊢
  omega
def fsLcm : FS := fun _ ds R => ∃ a b : Nat, ds = [.int a, .int b] ∧ 1 ≤ a ∧ a ≤ 10000 ∧ 1 ≤ b ∧ b ≤ 10000 ∧ R (.int (Nat.lcm a b : Nat))
def fsCells : FS := fun _ ds R => ∃ w : List Int, ds = [.tup (w.map .int)] ∧ Win w ∧ w.length ≤ 8 ∧ R (.int (lcmL w : Nat))
def fsLineAt : FS := fun _ ds R => ∃ (p : Int × Int) (t : Int), ds = [prD p, .int t] ∧ CMulD p.1 t ∧ R (.int (p.1 * t + p.2))
def fsLineSum : FS := fun _ ds R => ∃ p q : Int × Int, ds = [prD p, prD q] ∧ R (prD (p.1 + q.1, p.2 + q.2))
def divs (k : Nat) : List Int := (rg 1 ((k : Int) + 1)).filter fun x => decide ((k : Int) % x = 0)
def fsDivisors : FS := fun _ ds R => ∃ k : Nat, ds = [.int k] ∧ k ≤ 900 ∧ R (.tup ((divs k).map .int))
def fsRow : FS := fun _ ds R => ∃ (w : List Int) (e : Nat), ds = [.tup (w.map .int), .int e, .int (lcmL w : Nat)] ∧ Fit w ∧ e < lcmL w ∧ R (rowL w (lcmL w) e)
def fsWhole : FS := fun _ ds R => ∃ (w : List Int) (e : Nat), ds = [rowL w (lcmL w) e, .int (lcmL w : Nat), .int e] ∧ Fit w ∧ e < lcmL w ∧ R (.lst (((cells w.length).map (lineW w e)).map prD))
/-- the least number of lines that tell all, and their rows -/
def LeastR (w : List Int) (R : D → Prop) : Prop := ∀ d : Nat, 1 ≤ d → d ∣ lcmL w → Tells w d → (∀ d' : Nat, 1 ≤ d' → d' ∣ lcmL w → d' < d → ¬ Tells w d') → R (.tup [.int d, .tup ((cells d).map (rowL w d))])
def fsLeast : FS := fun _ ds R => ∃ w : List Int, ds = [.lst ((cells (lcmL w)).map (rowL w (lcmL w)))] ∧ Fit w ∧ LeastR w R
def fsPowers : FS := fun _ ds R => ∃ w : List Int, ds = [.tup (w.map .int)] ∧ Fit w ∧ LeastR w R
theorem lcm_div (a b : Nat) (h : 1 ≤ a) : (a : Int) / ((Nat.gcd a b : Nat) : Int) * (b : Int) = ((Nat.lcm a b : Nat) : Int) := by
  unfold Nat.lcm
  rw [← Int.natCast_ediv, ← Int.natCast_mul]
  congr 1
  exact Nat.div_mul_right_comm (Nat.gcd_dvd_left a b) b
theorem gcd_go {a b : Nat} {Q : D → Prop} (q : Q (.int ((Nat.gcd a b : Nat) : Int))) : gcdD [.int a, .int b] Q := by
  show Q (.int ((Nat.gcd (a : Int).natAbs (b : Int).natAbs : Nat) : Int))
  rw [Int.natAbs_natCast, Int.natAbs_natCast]
  exact q
theorem get_pr {p : Int × Int} : atI [D.int p.1, D.int p.2] 0 = some (.int p.1) ∧ atI [D.int p.1, D.int p.2] 1 = some (.int p.2) := by
  constructor <;> rfl
theorem mem_divs {k : Nat} {x : Int} : x ∈ divs k ↔ 1 ≤ x ∧ x < (k : Int) + 1 ∧ (k : Int) % x = 0 := by
  unfold divs
  rw [List.mem_filter, mem_rg]
  simp only [decide_eq_true_eq]
  exact and_assoc
theorem divs_nat {k : Nat} {x : Int} (h : x ∈ divs k) : ∃ d : Nat, x = d ∧ 1 ≤ d ∧ d ≤ k ∧ d ∣ k := by
  obtain ⟨a, b, c⟩ := mem_divs.mp h
  obtain ⟨d, rfl⟩ : ∃ d : Nat, x = d := ⟨x.toNat, by omega⟩
  exact ⟨d, rfl, by omega, by omega, Int.natCast_dvd_natCast.mp (Int.dvd_of_emod_eq_zero c)⟩
theorem divs_has {k d : Nat} (hk : 1 ≤ k) (h1 : 1 ≤ d) (h : d ∣ k) : (d : Int) ∈ divs k :=
  mem_divs.mpr ⟨by omega, by have := Nat.le_of_dvd hk h; omega, Int.emod_eq_zero_of_dvd (Int.natCast_dvd_natCast.mpr h)⟩
theorem divs_srt (k : Nat) : (divs k).Pairwise (· < ·) := by
  unfold divs rg
  refine List.Pairwise.filter _ ?_
  rw [List.pairwise_map]
  exact List.Pairwise.imp (fun h => by omega) List.pairwise_lt_range
theorem srt_before {l : List Int} (s : l.Pairwise (· < ·)) {i : Nat} {x y : Int} (h : l[i]? = some x) (hy : y ∈ l) (lt : y < x) : y ∈ l.take i := by
  have hi := (List.getElem?_eq_some_iff.mp h).1
  rw [← List.take_append_drop i l] at hy s
  rcases List.mem_append.mp hy with z | z
  · exact z
  · exfalso
    rw [List.drop_eq_getElem_cons hi] at z s
    have e := (List.getElem?_eq_some_iff.mp h).2
    rw [e] at z s
    rcases List.mem_cons.mp z with z | z
    · omega
    · have := List.rel_of_pairwise_cons (List.pairwise_append.mp s).2.1 z
      omega
theorem cut_first {ds : List D} {k : Nat} : Dw.cutD ds none (some (k : Int)) = ds.take k := by
  unfold Dw.cutD
  rw [HT.sIx_none, HT.sIx_nat, List.drop_zero, Nat.sub_zero]
  by_cases h : k ≤ ds.length
  · rw [Nat.min_eq_left h]
  · rw [Nat.min_eq_right (by omega), List.take_length, List.take_of_length_le (by omega)]
theorem cells_take {k n : Nat} (h : k ≤ n) : (cells n).take k = cells k := by
  unfold cells
  rw [← List.map_take, List.take_range, Nat.min_eq_left h]
theorem cells_len (n : Nat) : (cells n).length = n := by unfold cells; simp
theorem cells_get {n : Nat} {i : Int} (h0 : 0 ≤ i) (h1 : i < n) : (cells n).getD i.toNat default = i := by
  unfold cells
  rw [List.getD_eq_getElem?_getD, List.getElem?_map, List.getElem?_range (by omega)]
  show ((i.toNat : Nat) : Int) = i
  omega
theorem flat_row {u : List (Int × Int)} : flat 60 (.lst (u.map prD)) = true := by
  simp only [flat]
  exact flat_prs u 58
/-- the test of the lines is whether they tell all -/
theorem tells_test {w : List Int} {d : Nat} : ((cells (lcmL w)).map fun e => decide ((cells w.length).map (lineW w e) = (cells w.length).map (lineW w (e % (d : Int))))).all id = true ↔ Tells w d := by
  rw [List.all_eq_true]
  constructor
  · intro h e he x hx
    have := h _ (List.mem_map.mpr ⟨(e : Int), mem_cells.mpr ⟨by omega, by omega⟩, rfl⟩)
    exact List.map_inj_left.mp (of_decide_eq_true this) x hx
  · rintro h b hb
    obtain ⟨e, he, rfl⟩ := List.mem_map.mp hb
    have he' := mem_cells.mp he
    refine decide_eq_true (List.map_inj_left.mpr fun x hx => ?_)
    have := h e.toNat (by omega) x hx
    have z : ((e.toNat : Nat) : Int) = e := by omega
    rw [z] at this
    exact this
theorem placed_cells {n : Nat} {f : Int → D} : Dw.placed ((cells n).map f) = (cells n).map fun x => .tup [.int x, f x] := by
  unfold Dw.placed cells
  rw [List.map_map, List.map_map]
  refine List.ext_getElem? fun i => ?_
  rw [List.getElem?_mapIdx, List.getElem?_map, List.getElem?_map]
  by_cases h : i < n
  · rw [List.getElem?_range h]; rfl
  · rw [List.getElem?_eq_none (by rw [List.length_range]; omega)]; rfl
end W

/-! maps taken so often, behind one another, undone -/
namespace M
section
variable {w : List Int}
theorem pow_on (W : Win w) (A B : Int) : (mk w.length (itz w B)).map (nx (mk w.length (itz w A))) = mk w.length (itz w (A + B)) := by
  unfold mk
  rw [List.map_map]
  refine List.map_congr_left fun x _ => ?_
  have := (win_pow W A).2 (itz w B x)
  unfold mk at this
  rw [Function.comp_apply, this, itz_add W]
theorem it_back (W : Win w) (x : Int) : ∀ t : Nat, it w t (it (mk w.length (bk w)) t x) = x
  | 0 => rfl
  | t + 1 => by
    have e : nx (mk w.length (bk w)) (it (mk w.length (bk w)) t x) = bk w (it (mk w.length (bk w)) t x) := nx_mk W.pos (per_bk W) _
    show it w (t + 1) (nx _ _) = x
    rw [e]
    have c : it w (t + 1) (bk w (it (mk w.length (bk w)) t x)) = it w t (nx w (bk w (it (mk w.length (bk w)) t x))) := by
      rw [it_it]; rfl
    rw [c, nx_bk W, it_back W x t]
theorem pow_back (W : Win w) (t : Nat) : mk w.length (itz (mk w.length (bk w)) t) = mk (mk w.length (itz w t)).length (bk (mk w.length (itz w t))) := by
  have l : (mk w.length (itz w t)).length = w.length := mk_length
  rw [l]
  unfold mk
  refine List.map_congr_left fun x _ => ?_
  refine (bk_eq (win_pow W t).1 ?_).symm
  rw [(win_pow W t).2, itz_nat, itz_nat]
  exact it_back W x t
theorem pow_next (W : Win w) (t : Nat) : (mk w.length (itz w t)).map (nx w) = mk w.length (itz w (t + 1 : Nat)) := by
  unfold mk
  rw [List.map_map]
  rfl
end
end M

/-! what the law's own defs of k67 promise -/
namespace W
open PySem PySem.Spec PyProof.Rows L2 Dw M
def fsWin67 : FS := fun S ds R => ∃ (a c : Addr) (n far : Int), S = some (a, c) ∧ ds = [.ref a, .int n, .int far] ∧ 1 ≤ n ∧ n ≤ 8 ∧ 0 ≤ far ∧ far ≤ 10 ^ 9 ∧ ∀ w : List Int, Win w → (w.length : Int) = n → (∀ x ∈ w, x.natAbs ≤ 10 ^ 11) → R (.tup (w.map .int))
def fsOnL : FS := fun _ ds R => ∃ u v : List Int, ds = [.tup (u.map .int), .tup (v.map .int)] ∧ Win u ∧ v.length ≤ 1000 ∧ R (.tup ((v.map (nx u)).map .int))
def fsUndL : FS := fun _ ds R => ∃ u : List Int, ds = [.tup (u.map .int)] ∧ Win u ∧ u.length ≤ 1000 ∧ R (.tup ((mk u.length (bk u)).map .int))
def fsFar : FS := fun S ds R => ∃ (a c : Addr), S = some (a, c) ∧ ds = [.ref a] ∧ ∀ x : Int, x.natAbs ≤ 10 ^ 281 → R (.int x)
def fsLed : FS := fun _ ds R => ∃ (w : List Int) (x N : Int), ds = [.tup (w.map .int), .int x, .int N] ∧ Win w ∧ w.length ≤ 8 ∧ (∀ x ∈ w, x.natAbs ≤ 10 ^ 290) ∧ N.natAbs ≤ 10 ^ 310 ∧ R (.int (itz w N x))
section
variable {w : List Int}
theorem it_rest (x : Int) (k : Nat) : it w k x = it w k (x % w.length) + w.length * (x / w.length) := by
  rw [← it_add]
  congr 1
  have := Int.mul_ediv_add_emod x w.length
  omega
theorem rest_in (W : Win w) (x : Int) : 0 ≤ x % w.length ∧ x % w.length < w.length := by
  have h0 : (0 : Int) < w.length := by have := W.pos; omega
  exact ⟨Int.emod_nonneg _ (by omega), Int.emod_lt_of_pos _ h0⟩
/-- how many cells the round of a place has -/
def perX (w : List Int) (x : Int) : Nat := per w (x % w.length)
theorem perX_ok (W : Win w) (x : Int) : 1 ≤ perX w x ∧ perX w x ≤ w.length ∧ it w (perX w x) x = x + w.length * drift w (x % w.length) ∧ ∀ k, 1 ≤ k → k < perX w x → (it w k x - x) % w.length ≠ 0 := by
  have hr := rest_in W x
  have hp := per_ok W hr.1 hr.2
  have e := Int.mul_ediv_add_emod x w.length
  refine ⟨hp.1, hp.2.1, ?_, fun k k1 k2 => ?_⟩
  · have d := drift_ok W hr.1 hr.2
    unfold perX
    rw [it_rest, d]
    omega
  · have n := hp.2.2.2 k k1 k2
    rw [it_rest x k]
    intro z
    apply n
    have e2 : it w k (x % w.length) + w.length * (x / w.length) - x = it w k (x % w.length) - x % w.length := by omega
    rw [e2] at z
    have := Int.emod_emod_of_dvd (it w k (x % w.length)) (Int.dvd_refl (w.length : Int))
    have q := Int.emod_eq_emod_iff_emod_sub_eq_zero.mpr z
    rw [q, Int.emod_emod_of_dvd _ (Int.dvd_refl _)]
theorem perX_back (W : Win w) (x : Int) : (it w (perX w x) x - x) % w.length = 0 := by
  rw [(perX_ok W x).2.2.1]
  have : x + w.length * drift w (x % w.length) - x = w.length * drift w (x % w.length) := by omega
  rw [this, Int.mul_emod_right]
theorem led_at (W : Win w) (x N : Int) : it w (N % (perX w x : Int)).toNat x + (it w (perX w x) x - x) * ((N - N % (perX w x : Int)) / (perX w x : Int)) = itz w N x := by
  have p := perX_ok W x
  have e := Int.mul_ediv_add_emod N (perX w x : Int)
  have e1 : (N - N % (perX w x : Int)) / (perX w x : Int) = N / (perX w x : Int) := by
    have : N - N % (perX w x : Int) = N / (perX w x : Int) * (perX w x : Int) := by rw [Int.mul_comm]; omega
    rw [this, Int.mul_ediv_cancel _ (by omega)]
  rw [e1, ← along W (L := perX w x) (by omega) p.2.2.1 N, p.2.2.1]
  congr 1
  rw [Int.mul_comm]
  congr 1
  rw [Int.mul_comm (drift w (x % w.length))]
  omega
end
end W

/-! kinds of rounds, orders -/
namespace M
section
variable {w u : List Int}
/-- how many cells the round of a rest has, and its drift -/
def kind (w : List Int) (x : Int) : Int × Int := ((per w x : Int), drift w x)
def kinds (w : List Int) : List (Int × Int) := (rounds w w.length).map (kind w)
theorem per_orb_le (W : Win w) {r c : Int} (h0 : 0 ≤ r) (h1 : r < w.length) (hc : c ∈ orb w r) : per w c ≤ per w r := by
  have hc' := orb_range W hc
  have m := round_moves W h0 h1 hc (k := 0)
  rw [Int.mul_zero, Int.add_zero] at m
  rcases Nat.lt_or_ge (per w r) (per w c) with z | z
  · exfalso
    refine (per_ok W hc'.1 hc'.2).2.2.2 (per w r) (per_ok W h0 h1).1 z ?_
    rw [m, Int.add_mul_emod_self_left, Int.emod_eq_of_lt hc'.1 hc'.2]
  · exact z
theorem kind_orb (W : Win w) {r c : Int} (h0 : 0 ≤ r) (h1 : r < w.length) (hc : c ∈ orb w r) : kind w c = kind w r := by
  have hc' := orb_range W hc
  have e : per w c = per w r := Nat.le_antisymm (per_orb_le W h0 h1 hc) (per_orb_le W hc'.1 hc'.2 (orb_symm W h0 h1 hc))
  have m := round_moves W h0 h1 hc (k := 0)
  rw [Int.mul_zero, Int.add_zero] at m
  have d := drift_ok W hc'.1 hc'.2
  rw [e, m] at d
  have hn : (0 : Int) < w.length := by have := W.pos; omega
  have e2 : drift w c = drift w r := by
    have : (w.length : Int) * drift w r = w.length * drift w c := by omega
    exact (Int.eq_of_mul_eq_mul_left (by omega) this).symm
  unfold kind
  rw [e, e2]
theorem flat_kinds (W : Win w) : ∀ rs : List Int, (∀ r ∈ rs, 0 ≤ r ∧ r < w.length) → (rs.flatMap (orb w)).map (kind w) = rs.flatMap fun r => List.replicate (per w r) (kind w r)
  | [], _ => rfl
  | r :: rs, h => by
    have hr := h r (by simp)
    rw [List.flatMap_cons, List.map_append, List.flatMap_cons, flat_kinds W rs fun x hx => h x (by simp [hx])]
    congr 1
    refine List.eq_replicate_iff.mpr ⟨by unfold orb; simp, fun k hk => ?_⟩
    obtain ⟨c, hc, rfl⟩ := List.mem_map.mp hk
    exact kind_orb W hr.1 hr.2 hc
theorem count_flat (k : Int × Int) : ∀ rs : List Int, (rs.flatMap fun r => List.replicate (per w r) (kind w r)).count k = (rs.map (kind w)).count k * k.1.toNat
  | [] => by simp
  | r :: rs => by
    rw [List.flatMap_cons, List.count_append, count_flat k rs, List.map_cons, List.count_cons, List.count_replicate]
    by_cases e : kind w r = k
    · subst e
      simp only [beq_self_eq_true, if_true]
      rw [Nat.add_mul, Nat.one_mul]
      have : (kind w r).1.toNat = per w r := by simp [kind]
      rw [this]
      omega
    · have e2 : (kind w r == k) = false := by simp [e]
      simp [e2]
theorem count_cells (W : Win w) (k : Int × Int) : ((cells w.length).map (kind w)).count k = (kinds w).count k * k.1.toNat := by
  have a := count_flat (w := w) k (rounds w w.length)
  rw [← flat_kinds W _ (rounds_ok W w.length (Nat.le_refl _)).rng] at a
  exact (((rounds_cells W).map (kind w)).count_eq k).symm.trans a
theorem kind_pos (W : Win w) {k : Int × Int} (h : k ∈ kinds w) : 1 ≤ k.1.toNat := by
  obtain ⟨r, hr, rfl⟩ := List.mem_map.mp h
  have hr' := (rounds_ok W w.length (Nat.le_refl _)).rng r hr
  have := (per_ok W hr'.1 hr'.2).1
  simp only [kind]
  omega
theorem kinds_perm (W : Win w) (U : Win u) (h : ((cells w.length).map (kind w)).Perm ((cells u.length).map (kind u))) : (kinds w).Perm (kinds u) := by
  refine List.perm_iff_count.mpr fun k => ?_
  have e := h.count_eq k
  rw [count_cells W, count_cells U] at e
  by_cases z : k.1.toNat = 0
  · have a : (kinds w).count k = 0 := List.count_eq_zero.mpr fun m => by have := kind_pos W m; omega
    have b : (kinds u).count k = 0 := List.count_eq_zero.mpr fun m => by have := kind_pos U m; omega
    rw [a, b]
  · exact Nat.eq_of_mul_eq_mul_right (by omega) e
/-! named anew -/
theorem it_named {g late : List Int} (h : ∀ x, nx late (nx g x) = nx g (nx w x)) (x : Int) : ∀ i, it late i (nx g x) = nx g (it w i x)
  | 0 => rfl
  | i + 1 => by
    show nx late (it late i (nx g x)) = nx g (nx w (it w i x))
    rw [it_named h x i, h]
theorem nx_mod_iff {g : List Int} (G : Win g) {a b : Int} : nx g a % g.length = nx g b % g.length ↔ a % g.length = b % g.length := ⟨nx_inj G, nx_congr G⟩
theorem kind_named {g late : List Int} (W : Win w) (G : Win g) (L : Win late) (gl : g.length = w.length) (ll : late.length = w.length) (h : ∀ x, nx late (nx g x) = nx g (nx w x)) {c : Int} (hc : c ∈ cells w.length) : kind late (nx g c % w.length) = kind w c := by
  have hc' := mem_cells.mp hc
  have hn : (0 : Int) < w.length := by have := W.pos; omega
  have eq1 : per late (nx g c % w.length) = per w c := by
    unfold per
    rw [ll]
    congr 1
    funext i
    have a : it late i (nx g c % w.length) % w.length = it late i (nx g c) % w.length := by have := it_mod L (nx g c) i; rwa [ll] at this
    rw [a, it_named h]
    rw [Bool.eq_iff_iff]
    simp only [beq_iff_eq]
    have b := nx_mod_iff G (a := it w i c) (b := c)
    rw [gl] at b
    rw [b, Int.emod_eq_of_lt hc'.1 hc'.2]
  have d := drift_ok W hc'.1 hc'.2
  have e1 : it late (per w c) (nx g c) = nx g c + w.length * drift w c := by
    rw [it_named h, d]
    have := nx_add (w := g) (x := c) (k := drift w c)
    rwa [gl] at this
  have e2 : it late (per w c) (nx g c % w.length) = nx g c % w.length + w.length * drift w c := by
    have := it_add (w := late) (x := nx g c % w.length) (k := nx g c / w.length) (per w c)
    rw [ll] at this
    have e := Int.mul_ediv_add_emod (nx g c) w.length
    have e3 : nx g c % w.length + w.length * (nx g c / w.length) = nx g c := by omega
    rw [e3, e1] at this
    omega
  unfold kind
  rw [eq1]
  congr 1
  unfold drift
  rw [eq1, e2, ll]
  have : nx g c % w.length + w.length * drift w c - nx g c % w.length = w.length * drift w c := by omega
  rw [this, Int.mul_ediv_cancel_left _ (by omega)]
  rfl
theorem kinds_named {g late : List Int} (W : Win w) (G : Win g) (L : Win late) (gl : g.length = w.length) (ll : late.length = w.length) (h : ∀ x, nx late (nx g x) = nx g (nx w x)) : (kinds w).Perm (kinds late) := by
  refine kinds_perm W L ?_
  have p : ((cells w.length).map fun c => nx g c % w.length).Perm (cells w.length) := by
    refine all_cells ?_ (fun x hx => ?_) (by simp [cells])
    · refine List.pairwise_map.mpr ((nodup_cells w.length).imp_of_mem fun {a b} ha hb ne e => ne ?_)
      have ha' := mem_cells.mp ha
      have hb' := mem_cells.mp hb
      rw [← gl] at e
      have := nx_inj G e
      rw [gl, Int.emod_eq_of_lt ha'.1 ha'.2, Int.emod_eq_of_lt hb'.1 hb'.2] at this
      exact this
    · obtain ⟨y, _, rfl⟩ := List.mem_map.mp hx
      have hn : (0 : Int) < w.length := by have := W.pos; omega
      exact ⟨Int.emod_nonneg _ (by omega), Int.emod_lt_of_pos _ hn⟩
  rw [ll]
  have q := p.map (kind late)
  rw [List.map_map] at q
  have e : (cells w.length).map (kind late ∘ fun c => nx g c % w.length) = (cells w.length).map (kind w) := List.map_congr_left fun c hc => kind_named W G L gl ll h hc
  rw [e] at q
  exact q
/-! orders -/
/-- taken t times it moves nothing -/
def still (w : List Int) (t : Nat) : Prop := ∀ x, it w t x = x
def ordr (w : List Int) : Option Nat := if (rounds w w.length).all (fun r => decide (drift w r = 0)) = true then some (lcmL w) else none
theorem still_all (W : Win w) (h : ∀ r ∈ rounds w w.length, drift w r = 0) {t : Nat} (ht : lcmL w ∣ t) : still w t := by
  have I := rounds_ok W w.length (Nat.le_refl _)
  have cell : ∀ x ∈ cells w.length, it w t x = x := fun x hx => by
    have hx' := mem_cells.mp hx
    obtain ⟨r, hr, ho⟩ := I.all x hx'.1 hx'.2
    have hr' := I.rng r hr
    obtain ⟨q, eq⟩ := Nat.dvd_trans (lcmL_per hr) ht
    have m := round_moves W hr'.1 hr'.2 ho (k := 0)
    rw [h r hr, Int.mul_zero, Int.add_zero, Int.add_zero] at m
    have := itz_turns W (L := per w r) (r := x) (d := 0) (by rw [m]; simp) q
    rw [eq, ← itz_nat]
    push_cast
    rw [this]
    simp
  intro x
  have hn : (0 : Int) < w.length := by have := W.pos; omega
  have e := Int.mul_ediv_add_emod x w.length
  have c := cell (x % w.length) (mem_cells.mpr ⟨Int.emod_nonneg _ (by omega), Int.emod_lt_of_pos _ hn⟩)
  have a := it_add (w := w) (x := x % w.length) (k := x / w.length) t
  rw [c] at a
  have e3 : x % w.length + w.length * (x / w.length) = x := by omega
  rwa [e3] at a
theorem still_inv (W : Win w) {t : Nat} (ht : 1 ≤ t) (h : still w t) : (∀ r ∈ rounds w w.length, drift w r = 0) ∧ lcmL w ∣ t := by
  have I := rounds_ok W w.length (Nat.le_refl _)
  have key : ∀ r ∈ rounds w w.length, per w r ∣ t ∧ drift w r = 0 := fun r hr => by
    have hr' := I.rng r hr
    have p := per_ok W hr'.1 hr'.2
    have e := Nat.div_add_mod t (per w r)
    have tw : it w (per w r * (t / per w r)) r = r + w.length * (drift w r * (t / per w r : Nat)) := by
      have := itz_turns W (L := per w r) (drift_ok W hr'.1 hr'.2) (t / per w r : Nat)
      rw [← itz_nat]; push_cast; push_cast at this; exact this
    have a : it w t r = it w (t % per w r) r + w.length * (drift w r * (t / per w r : Nat)) := by
      have := it_it (w := w) (per w r * (t / per w r)) r (t % per w r)
      rw [tw, it_add] at this
      have e2 : t % per w r + per w r * (t / per w r) = t := by omega
      rwa [e2] at this
    have b := h r
    rw [b] at a
    have s0 : t % per w r = 0 := by
      rcases Nat.eq_zero_or_pos (t % per w r) with z | z
      · exact z
      · exfalso
        refine p.2.2.2 (t % per w r) z (Nat.mod_lt _ p.1) ?_
        have c : it w (t % per w r) r = r + w.length * (-(drift w r * (t / per w r : Nat))) := by rw [Int.mul_neg]; omega
        rw [c, Int.add_mul_emod_self_left, Int.emod_eq_of_lt hr'.1 hr'.2]
    refine ⟨Nat.dvd_of_mod_eq_zero s0, ?_⟩
    rw [s0] at a
    have a' : r = r + w.length * (drift w r * (t / per w r : Nat)) := a
    have hn : (0 : Int) < w.length := by have := W.pos; omega
    have z : (w.length : Int) * (drift w r * (t / per w r : Nat)) = 0 := by omega
    have q1 : 1 ≤ t / per w r := Nat.div_pos (Nat.le_of_dvd ht (Nat.dvd_of_mod_eq_zero s0)) p.1
    rcases Int.mul_eq_zero.mp z with z | z
    · omega
    · rcases Int.mul_eq_zero.mp z with z | z
      · exact z
      · omega
  exact ⟨fun r hr => (key r hr).2, lcmR_div (fun r hr => (key r hr).1) (Nat.one_dvd _)⟩
theorem ordr_some (W : Win w) {m : Nat} (h : ordr w = some m) : m = lcmL w ∧ ∀ r ∈ rounds w w.length, drift w r = 0 := by
  unfold ordr at h
  split at h
  · rename_i z
    rw [List.all_eq_true] at z
    exact ⟨(Option.some.inj h).symm, fun r hr => of_decide_eq_true (z r hr)⟩
  · cases h
theorem ordr_none (h : ordr w = none) : ∃ r ∈ rounds w w.length, drift w r ≠ 0 := by
  unfold ordr at h
  split at h
  · cases h
  · rename_i z
    simpa [List.all_eq_true] using z
theorem ordr_same (W : Win w) (U : Win u) (w8 : w.length ≤ 8) (u8 : u.length ≤ 8) (h : ∀ t, 1 ≤ t → (still w t ↔ still u t)) : ordr w = ordr u := by
  have lw := (lcmL_ok W w8).1
  have lu := (lcmL_ok U u8).1
  cases ew : ordr w with
  | none =>
    cases eu : ordr u with
    | none => rfl
    | some m =>
      obtain ⟨r, hr, ne⟩ := ordr_none ew
      obtain ⟨_, z⟩ := ordr_some U eu
      exact absurd ((still_inv W lu ((h _ lu).mpr (still_all U z (Nat.dvd_refl _)))).1 r hr) ne
  | some k =>
    obtain ⟨rfl, z⟩ := ordr_some W ew
    have a := still_inv U lw ((h _ lw).mp (still_all W z (Nat.dvd_refl _)))
    cases eu : ordr u with
    | none =>
      obtain ⟨r, hr, ne⟩ := ordr_none eu
      exact absurd (a.1 r hr) ne
    | some m =>
      obtain ⟨rfl, z2⟩ := ordr_some U eu
      have b := still_inv W lu ((h _ lu).mpr (still_all U z2 (Nat.dvd_refl _)))
      rw [Nat.dvd_antisymm b.2 a.2]
theorem ordr_named {g late : List Int} (W : Win w) (G : Win g) (L : Win late) (ll : late.length = w.length) (w8 : w.length ≤ 8) (h : ∀ x, nx late (nx g x) = nx g (nx w x)) : ordr late = ordr w := by
  refine ordr_same L W (by omega) w8 fun t _ => ⟨fun s x => ?_, fun s x => ?_⟩
  · have := s (nx g x)
    rw [it_named h] at this
    exact nx_inj0 G this
  · have := it_named h (bk g x) t
    rw [nx_bk G, s, nx_bk G] at this
    exact this
theorem ordr_back (W : Win w) (w8 : w.length ≤ 8) : ordr (mk w.length (bk w)) = ordr w := by
  refine ordr_same (win_bk W) W (by rw [mk_length]; exact w8) w8 fun t _ => ⟨fun s x => ?_, fun s x => ?_⟩
  · have := it_back W x t
    rwa [s] at this
  · have a := it_back W x t
    exact by rw [s] at a; exact a
/-- the powers that are straight -/
theorem straight_iff (W : Win w) (t : Nat) : mk w.length (itz w t) = cells w.length ↔ still w t := by
  constructor
  · intro h
    have cell : ∀ x ∈ cells w.length, it w t x = x := fun x hx => by
      unfold mk at h
      have e : (cells w.length).map (itz w t) = (cells w.length).map id := by rw [List.map_id]; exact h
      exact List.map_inj_left.mp e x hx
    intro x
    have hn : (0 : Int) < w.length := by have := W.pos; omega
    have e := Int.mul_ediv_add_emod x w.length
    have c := cell (x % w.length) (mem_cells.mpr ⟨Int.emod_nonneg _ (by omega), Int.emod_lt_of_pos _ hn⟩)
    have a := it_add (w := w) (x := x % w.length) (k := x / w.length) t
    rw [c] at a
    have e3 : x % w.length + w.length * (x / w.length) = x := by omega
    rwa [e3] at a
  · intro h
    unfold mk
    have : (itz w t) = id := funext fun x => h x
    rw [this, List.map_id]
/-- without drifts all multiples of the order are straight -/
theorem itz_still (W : Win w) {t : Nat} (h : still w t) (q x : Int) : itz w (t * q) x = x := by
  have := itz_turns W (L := t) (r := x) (d := 0) (by rw [h x]; simp) q
  rw [this]; simp
theorem itz_before (W : Win w) {t : Nat} (h : still w t) (x : Int) : itz w ((t : Int) - 1) x = bk w x := by
  refine (bk_eq W ?_).symm
  rw [← itz_succ W]
  have : (t : Int) - 1 + 1 = t := by omega
  rw [this]
  exact h x
/-- lines of a map without drifts do not go on -/
theorem least_still (W : Win w) (w8 : w.length ≤ 8) (h : ∀ r ∈ rounds w w.length, drift w r = 0) {d : Nat} (d1 : 1 ≤ d) (dv : d ∣ lcmL w) (tl : Tells w d) : d = lcmL w := by
  have L := (lcmL_ok W w8).1
  have sl := still_all W h (Nat.dvd_refl _)
  rcases Nat.lt_or_ge d (lcmL w) with z | z
  · exfalso
    have s : still w d := (straight_iff W d).mp (by
      have e : cells w.length = (cells w.length).map id := (List.map_id _).symm
      rw [e]
      unfold mk
      refine List.map_congr_left fun x hx => ?_
      have t := tl d z x hx
      have e0 : ((d : Nat) : Int) % (d : Int) = 0 := Int.emod_self
      rw [e0] at t
      unfold lineW at t
      have t2 := (Prod.mk.inj t).2
      have sx : itz w (lcmL w : Nat) x = x := sl x
      rw [sx] at t2
      simp only [Int.sub_self, Int.neg_zero, Int.zero_mul, Int.zero_add, itz_zero] at t2
      exact Int.eq_of_mul_eq_mul_right (by omega) t2)
    have := Nat.le_of_dvd (by omega) (still_inv W d1 s).2
    omega
  · exact Nat.le_antisymm (Nat.le_of_dvd (by omega) dv) z
end
end M

/-! least common numbers by trying; windows by rounds drawn -/
namespace M
theorem lcm_foldl : ∀ {ls : List Nat}, (∀ l ∈ ls, 1 ≤ l ∧ l ≤ 8) → ∀ {a : Nat}, 1 ≤ a → a ∣ 840 → 1 ≤ ls.foldl Nat.lcm a ∧ ls.foldl Nat.lcm a ∣ 840
  | [], _, a, h1, h2 => ⟨h1, h2⟩
  | l :: ls, h, a, h1, h2 => by
    have hl := h l (by simp)
    rw [List.foldl_cons]
    exact lcm_foldl (fun x hx => h x (by simp [hx])) (Nat.lcm_pos (by omega) (by omega)) (Nat.lcm_dvd h2 (small_dvd l hl.1 hl.2))
theorem foldl_take {ls : List Nat} {i l : Nat} (h : ls[i]? = some l) : (ls.take (i + 1)).foldl Nat.lcm 1 = Nat.lcm ((ls.take i).foldl Nat.lcm 1) l := by
  rw [List.take_add_one, h, List.foldl_append]; rfl
theorem lcmR_foldl {w : List Int} (rs : List Int) : (rs.map (per w)).foldl Nat.lcm 1 = lcmR w rs := by
  unfold lcmR
  rw [List.foldl_map]
/-- the least number by which another one becomes a multiple -/
theorem lcm_least {a l : Nat} (ha : 1 ≤ a) (hl : 1 ≤ l) : 1 ≤ l / Nat.gcd a l ∧ l / Nat.gcd a l ≤ l ∧ a * (l / Nat.gcd a l) = Nat.lcm a l ∧ ∀ k, 1 ≤ k → l ∣ a * k → l / Nat.gcd a l ≤ k := by
  have g := Nat.gcd_dvd_right a l
  have g0 : 0 < Nat.gcd a l := Nat.gcd_pos_of_pos_right _ (by omega)
  have e : a * (l / Nat.gcd a l) = Nat.lcm a l := by
    unfold Nat.lcm
    exact (Nat.mul_div_assoc a g).symm
  refine ⟨Nat.div_pos (Nat.le_of_dvd (by omega) g) g0, Nat.div_le_self _ _, e, fun k hk hd => ?_⟩
  have d : Nat.lcm a l ∣ a * k := Nat.lcm_dvd (Nat.dvd_mul_right a k) hd
  have := Nat.le_of_dvd (Nat.mul_pos (by omega) (by omega)) d
  rw [← e] at this
  exact Nat.le_of_mul_le_mul_left this (by omega)
/-- the first of an ascending list -/
theorem first_least {l : List Int} (s : l.Pairwise (· < ·)) {m : Int} (hm : m ∈ l) (h : ∀ x ∈ l, m ≤ x) : ∃ r, l = m :: r := by
  cases l with
  | nil => cases hm
  | cons a r =>
    have a1 := h a (by simp)
    rcases List.mem_cons.mp hm with rfl | z
    · exact ⟨r, rfl⟩
    · have := List.rel_of_pairwise_cons s z
      omega
/-- a window of a list of places with goals: places all, goals of unlike rests -/
theorem win_pairs {n : Nat} (hn : 0 < n) {f : Int → Int} (line goals : List Int) (p : line.Perm (cells n)) (q : goals.Perm (cells n)) (h : line.map (fun x => f x % (n : Int)) = goals) : Win (mk n f) := by
  refine win_mk hn fun a b a0 a1 b0 b1 e => ?_
  have nd : (line.map fun x => f x % (n : Int)).Nodup := by rw [h]; exact q.nodup_iff.mpr (nodup_cells n)
  have ha := p.mem_iff.mpr (mem_cells.mpr ⟨a0, a1⟩)
  have hb := p.mem_iff.mpr (mem_cells.mpr ⟨b0, b1⟩)
  obtain ⟨i, hi, ei⟩ := List.getElem_of_mem ha
  obtain ⟨j, hj, ej⟩ := List.getElem_of_mem hb
  have := (List.getElem_inj (i := i) (j := j) (h₀ := by rw [List.length_map]; exact hi) (h₁ := by rw [List.length_map]; exact hj) nd).mp (by
    rw [List.getElem_map, List.getElem_map, ei, ej]; exact e)
  subst this
  rw [← ei, ← ej]
end M

/-! what the defs of kinds and orders promise -/
namespace W
open PySem PySem.Spec PyProof.Rows L2 Dw M
theorem leP_iff {p q : Int × Int} : leP p q ↔ p.1 < q.1 ∨ p.1 = q.1 ∧ p.2 ≤ q.2 := Iff.rfl
instance : DecidableRel leP := fun p q => by unfold leP; exact inferInstance
def kindsS (w : List Int) : List (Int × Int) := (kinds w).mergeSort fun p q => decide (leP p q)
theorem srtP {l : List (Int × Int)} : (l.mergeSort fun p q => decide (leP p q)).Pairwise leP := by
  have := List.pairwise_mergeSort (le := fun p q : Int × Int => decide (leP p q)) (fun a b c h1 h2 => by
    have h1 := leP_iff.mp (of_decide_eq_true h1)
    have h2 := leP_iff.mp (of_decide_eq_true h2)
    exact decide_eq_true (leP_iff.mpr (by omega))) (fun a b => by
    by_cases z : a.1 < b.1 ∨ a.1 = b.1 ∧ a.2 ≤ b.2
    · rw [decide_eq_true (leP_iff.mpr z)]; rfl
    · rw [decide_eq_true (leP_iff.mpr (show b.1 < a.1 ∨ b.1 = a.1 ∧ b.2 ≤ a.2 by omega)), Bool.or_true]) l
  exact this.imp fun h => of_decide_eq_true h
theorem srtP_uniq {a b : List (Int × Int)} (p : a.Perm b) (ha : a.Pairwise leP) (hb : b.Pairwise leP) : a = b :=
  p.eq_of_pairwise (fun x y _ _ h1 h2 => by
    unfold leP at h1 h2
    exact Prod.ext (by omega) (by omega)) ha hb
theorem kindsS_of {w : List Int} {ms : List (Int × Int)} (p : ms.Perm (kinds w)) (s : ms.Pairwise leP) : ms = kindsS w :=
  srtP_uniq (p.trans (List.mergeSort_perm _ _).symm) s srtP
theorem kindsS_eq {u v : List Int} : kindsS u = kindsS v ↔ (kinds u).Perm (kinds v) := by
  constructor
  · intro h
    have a : (kindsS u).Perm (kinds u) := List.mergeSort_perm _ _
    have b : (kindsS v).Perm (kinds v) := List.mergeSort_perm _ _
    rw [h] at a
    exact a.symm.trans b
  · intro h
    exact kindsS_of ((List.mergeSort_perm _ _).trans h) srtP
theorem kindsS_len {w : List Int} : (kindsS w).length ≤ w.length := by
  unfold kindsS kinds
  rw [List.length_mergeSort, List.length_map]
  exact rounds_len w _
def ordD (w : List Int) : D := match ordr w with | some m => .int (m : Nat) | none => .non
def fsOrder : FS := fun _ ds R => ∃ w : List Int, ds = [.tup (w.map .int)] ∧ Win w ∧ w.length ≤ 8 ∧ R (ordD w)
def fsAlike : FS := fun _ ds R => ∃ u v : List Int, ds = [.tup (u.map .int), .tup (v.map .int)] ∧ Win u ∧ Win v ∧ u.length ≤ 64 ∧ v.length ≤ 64 ∧ R (.bl (decide (kindsS u = kindsS v)))
def fsKinds : FS := fun _ ds R => ∃ w : List Int, ds = [.tup (w.map .int)] ∧ Win w ∧ w.length ≤ 64 ∧ R (.lst ((kindsS w).map prI))
theorem ordD_none {w : List Int} (h : ∃ r ∈ rounds w w.length, drift w r ≠ 0) : ordD w = .non := by
  have : ordr w = none := by
    unfold ordr
    rw [if_neg]
    intro z
    obtain ⟨r, hr, ne⟩ := h
    exact ne (of_decide_eq_true (List.all_eq_true.mp z r hr))
  unfold ordD
  rw [this]
theorem ordD_some {w : List Int} (h : ∀ r ∈ rounds w w.length, drift w r = 0) : ordD w = .int (lcmL w : Nat) := by
  have : ordr w = some (lcmL w) := by
    unfold ordr
    rw [if_pos]
    exact List.all_eq_true.mpr fun r hr => decide_eq_true (h r hr)
  unfold ordD
  rw [this]
theorem kinds_enc {w : List Int} : (rounds w w.length).map (fun r => D.tup [.int (per w r : Nat), .int (drift w r)]) = (kinds w).map prI := by
  unfold kinds
  rw [List.map_map]
  rfl
theorem eqD_prI {u v : List (Int × Int)} : eqD (.lst (u.map prI)) (.lst (v.map prI)) = decide (u = v) := eqD_prs
theorem flat_prI {u : List (Int × Int)} : flat 60 (.lst (u.map prI)) = true := by
  simp only [flat]
  exact flat_prs u 58
end W
namespace W
open PySem PySem.Spec PyProof.Rows L2 Dw M
/-- least common numbers by trying -/
def fsLcmAll : FS := fun _ ds R => ∃ ls : List Nat, ds = [.lst (ls.map fun l : Nat => .int (l : Int))] ∧ ls.length ≤ 64 ∧ (∀ l ∈ ls, 1 ≤ l ∧ l ≤ 8) ∧ R (.int (ls.foldl Nat.lcm 1 : Nat))
/-- a window drawn round by round -/
def fsStill : FS := fun S ds R => ∃ (a c : Addr) (n : Int), S = some (a, c) ∧ ds = [.ref a, .int n] ∧ 1 ≤ n ∧ n ≤ 8 ∧ ∀ w : List Int, Win w → (w.length : Int) = n → (∀ x ∈ w, x.natAbs ≤ 1000) → R (.tup (w.map .int))
theorem try_first {a l : Nat} (ha : 1 ≤ a) (hl : 1 ≤ l) : ∃ r, (rg 1 ((l : Int) + 1)).filter (fun x => decide ((a : Int) * x % (l : Int) = 0)) = ((l / Nat.gcd a l : Nat) : Int) :: r := by
  have h := lcm_least ha hl
  refine first_least ?_ ?_ ?_
  · refine List.Pairwise.filter _ ?_
    unfold rg
    rw [List.pairwise_map]
    exact List.Pairwise.imp (fun h => by omega) List.pairwise_lt_range
  · refine List.mem_filter.mpr ⟨mem_rg.mpr ⟨by omega, by omega⟩, decide_eq_true ?_⟩
    have : (a : Int) * ((l / Nat.gcd a l : Nat) : Int) = ((Nat.lcm a l : Nat) : Int) := by rw [← h.2.2.1]; push_cast; rfl
    rw [this]
    exact Int.emod_eq_zero_of_dvd (Int.natCast_dvd_natCast.mpr (Nat.dvd_lcm_right a l))
  · intro x hx
    obtain ⟨hx1, hx2⟩ := List.mem_filter.mp hx
    have hx1 := mem_rg.mp hx1
    have hx2 := of_decide_eq_true hx2
    obtain ⟨k, rfl⟩ : ∃ k : Nat, x = k := ⟨x.toNat, by omega⟩
    have d : l ∣ a * k := by
      have := Int.dvd_of_emod_eq_zero hx2
      rw [← Int.natCast_mul] at this
      exact Int.natCast_dvd_natCast.mp this
    have := h.2.2.2 k (by omega) d
    omega
end W

/-! windows drawn round by round -/
namespace W
open PySem PySem.Spec PyProof.Rows L2 Dw M
/-- the first m places of zs have goals, of the rests gs -/
def Gone (n : Nat) (zs gs : List Int) (es : List (Key × D)) (m : Nat) : Prop := es.length ≤ m ∧ ∀ j, j < m → ∃ v : Int, dValD es (.inl (zs.getD j 0)) = some (.int v) ∧ v % (n : Int) = gs.getD j 0 ∧ v.natAbs ≤ 1000
theorem Gone.put {n : Nat} {zs gs : List Int} {es : List (Key × D)} {m : Nat} (g : Gone n zs gs es m) (nd : zs.Nodup) (hm : m < zs.length) {v : Int} (hv : v % (n : Int) = gs.getD m 0) (hb : v.natAbs ≤ 1000) : Gone n zs gs (putD es (.inl (zs.getD m 0)) (.int v)) (m + 1) := by
  refine ⟨Nat.le_trans put_len (by have := g.1; omega), fun j hj => ?_⟩
  rw [dval_put]
  by_cases e : j = m
  · subst e
    exact ⟨v, by rw [if_pos rfl], hv, hb⟩
  · obtain ⟨u, h1, h2, h3⟩ := g.2 j (by omega)
    refine ⟨u, ?_, h2, h3⟩
    rw [if_neg, h1]
    intro z
    have z2 : zs.getD m 0 = zs.getD j 0 := by injection z
    rw [List.getD_eq_getElem?_getD, List.getD_eq_getElem?_getD, List.getElem?_eq_getElem hm, List.getElem?_eq_getElem (show j < zs.length by omega)] at z2
    exact e ((List.getElem_inj nd).mp z2).symm
theorem getD_app {a b : List Int} {j : Nat} (h : j < a.length) : (a ++ b).getD j 0 = a.getD j 0 := by
  rw [List.getD_eq_getElem?_getD, List.getD_eq_getElem?_getD, List.getElem?_append_left h]
theorem getD_app2 {a b : List Int} {j : Nat} : (a ++ b).getD (a.length + j) 0 = b.getD j 0 := by
  rw [List.getD_eq_getElem?_getD, List.getD_eq_getElem?_getD, List.getElem?_append_right (by omega)]
  congr 2
  omega
theorem Gone.more {n : Nat} {zs gs r : List Int} {es : List (Key × D)} {m : Nat} (g : Gone n zs gs es m) (h : m ≤ gs.length) : Gone n zs (gs ++ r) es m := ⟨g.1, fun j hj => by
  obtain ⟨v, h1, h2, h3⟩ := g.2 j hj
  exact ⟨v, h1, by rw [getD_app (by omega)]; exact h2, h3⟩⟩
theorem placed_len {ds : List D} : (Dw.placed ds).length = ds.length := by unfold Dw.placed; rw [List.length_mapIdx]
def rotL : List Int → List Int
  | [] => []
  | a :: l => l ++ [a]
theorem rotL_perm : ∀ l : List Int, (rotL l).Perm l
  | [] => .refl _
  | a :: l => by
    show (l ++ [a]).Perm ([a] ++ l)
    exact List.perm_append_comm
theorem rotL_len (l : List Int) : (rotL l).length = l.length := (rotL_perm l).length_eq
theorem rotL_get {l : List Int} {k : Nat} (h : k < l.length) : (rotL l).getD k 0 = if k + 1 = l.length then l.getD 0 0 else l.getD (k + 1) 0 := by
  cases l with
  | nil => cases h
  | cons a l =>
    rw [List.length_cons] at h ⊢
    show (l ++ [a]).getD k 0 = _
    split
    · rename_i e
      have : k = l.length + 0 := by omega
      rw [this, getD_app2]
      rfl
    · rw [getD_app (by omega)]
      simp [List.getD_eq_getElem?_getD]
theorem cut_mid {ds : List D} {b e : Nat} (hb : b ≤ e) (he : e ≤ ds.length) : Dw.cutD ds (some (b : Int)) (some (e : Int)) = (ds.drop b).take (e - b) := by
  unfold Dw.cutD
  rw [HT.sIx_nat, HT.sIx_nat, Nat.min_eq_left he, Nat.min_eq_left (show b ≤ ds.length by omega)]
theorem All2.right {α β : Type} {P : β → Prop} {xs : List α} {ys : List β} (h : All2 (fun _ y => P y) xs ys) : ∀ y ∈ ys, P y := by
  induction h with
  | nil => intro y hy; cases hy
  | cons a _ ih =>
    intro y hy
    rcases List.mem_cons.mp hy with rfl | hy
    · exact a
    · exact ih y hy
theorem getD_mem {l : List Int} {i : Nat} (h : i < l.length) : l.getD i 0 ∈ l := by
  rw [List.getD_eq_getElem?_getD, List.getElem?_eq_getElem h]
  exact List.getElem_mem h
theorem getD_take {l : List Int} {m i : Nat} (h : i < m) : (l.take m).getD i 0 = l.getD i 0 := by
  rw [List.getD_eq_getElem?_getD, List.getD_eq_getElem?_getD, List.getElem?_take_of_lt h]
theorem getD_drop {l : List Int} {b i : Nat} : (l.drop b).getD i 0 = l.getD (b + i) 0 := by
  rw [List.getD_eq_getElem?_getD, List.getD_eq_getElem?_getD, List.getElem?_drop]
/-- what the dict of goals makes -/
def goesF (es : List (Key × D)) (x : Int) : Int := match dValD es (.inl x) with
  | some (.int v) => v
  | _ => 0
theorem Gone.win {n : Nat} {zs gs : List Int} {es : List (Key × D)} (hn : 0 < n) (g : Gone n zs gs es n) (hz : zs.Perm (cells n)) (hg : gs.Perm (cells n)) : Win (mk n (goesF es)) ∧ (∀ x ∈ mk n (goesF es), x.natAbs ≤ 1000) ∧ ∀ x ∈ cells n, dValD es (.inl x) = some (.int (goesF es x)) := by
  have zl : zs.length = n := by rw [hz.length_eq]; simp [cells]
  have gl : gs.length = n := by rw [hg.length_eq]; simp [cells]
  have at_ : ∀ x ∈ cells n, ∃ j, j < n ∧ zs.getD j 0 = x := fun x hx => by
    obtain ⟨j, hj, e⟩ := List.getElem_of_mem (hz.mem_iff.mpr hx)
    exact ⟨j, by omega, by rw [List.getD_eq_getElem?_getD, List.getElem?_eq_getElem hj, e]; rfl⟩
  have val : ∀ j, j < n → ∃ v : Int, dValD es (.inl (zs.getD j 0)) = some (.int v) ∧ goesF es (zs.getD j 0) = v ∧ v % (n : Int) = gs.getD j 0 ∧ v.natAbs ≤ 1000 := fun j hj => by
    obtain ⟨v, h1, h2, h3⟩ := g.2 j hj
    exact ⟨v, h1, by unfold goesF; rw [h1], h2, h3⟩
  refine ⟨win_pairs hn zs gs hz hg ?_, fun x hx => ?_, fun x hx => ?_⟩
  · refine List.ext_getElem (by rw [List.length_map]; omega) fun j h1 h2 => ?_
    rw [List.length_map] at h1
    obtain ⟨v, _, e, e2, _⟩ := val j (by omega)
    rw [List.getElem_map]
    rw [List.getD_eq_getElem?_getD, List.getElem?_eq_getElem h1] at e
    rw [List.getD_eq_getElem?_getD, List.getElem?_eq_getElem h2] at e2
    have e' : goesF es zs[j] = v := e
    rw [e']
    exact e2
  · obtain ⟨y, hy, rfl⟩ := List.mem_map.mp hx
    obtain ⟨j, hj, rfl⟩ := at_ y hy
    obtain ⟨v, _, e, _, e3⟩ := val j hj
    rw [e]; exact e3
  · obtain ⟨j, hj, rfl⟩ := at_ x hx
    obtain ⟨v, e1, e, _, _⟩ := val j hj
    rw [e1, e]
end W
namespace W
open PySem PySem.Spec PyProof.Rows L2 Dw M
/-- a window drawn, far: its numbers by how far -/
def fsWinF : FS := fun S ds R => ∃ (a c : Addr) (n far : Int), S = some (a, c) ∧ ds = [.ref a, .int n, .int far] ∧ 1 ≤ n ∧ n ≤ 8 ∧ 0 ≤ far ∧ far ≤ 10 ^ 300 ∧ ∀ w : List Int, Win w → (w.length : Int) = n → (∀ x ∈ w, x.natAbs ≤ 16 * far.natAbs + 8) → R (.tup (w.map .int))
theorem rok_rounds {w : List Int} (W : Win w) (w8 : w.length ≤ 8) (hb : ∀ x ∈ w, x.natAbs ≤ 10 ^ 300) : Rok 60 400 (.tup ((rounds w w.length).map (encR w))) := by
  have rl := rounds_len w w.length
  refine Rok.tup' (n := 59) (k := 18) (fun x hx => ?_) (by rw [List.length_map]; omega)
  obtain ⟨r, hr, rfl⟩ := List.mem_map.mp hx
  have hr' := (rounds_ok W w.length (Nat.le_refl _)).rng r hr
  have p := per_ok W hr'.1 hr'.2
  have d := drift_ok W hr'.1 hr'.2
  have ib := it_big (w := w) hb W r (per w r)
  have big : per w r * (10 ^ 300 + w.length) + 16 < 10 ^ 305 := by
    have : per w r * (10 ^ 300 + w.length) ≤ 8 * (10 ^ 300 + 8) := Nat.mul_le_mul (by omega) (by omega)
    exact Nat.lt_of_le_of_lt (Nat.add_le_add_right this 16) (by decide +kernel)
  have db : (drift w r).natAbs < 2 ^ 1900 := by
    have e : (w.length : Int) * drift w r = it w (per w r) r - r := by omega
    have h1 : 1 ≤ w.length := by omega
    have h2 : (drift w r).natAbs ≤ ((w.length : Int) * drift w r).natAbs := by
      rw [Int.natAbs_mul, Int.natAbs_natCast]
      exact Nat.le_mul_of_pos_left _ h1
    rw [e] at h2
    have h3 : (it w (per w r) r - r).natAbs < 10 ^ 305 := by
      generalize per w r * (10 ^ 300 + w.length) = u at ib big
      generalize 10 ^ 305 = v at big ⊢
      omega
    exact Nat.lt_of_le_of_lt h2 (Nat.lt_trans h3 (by decide +kernel))
  refine Rok.tup' (n := 58) (k := 8) (fun y hy => ?_) (by simp)
  simp only [List.mem_cons, List.not_mem_nil, or_false] at hy
  rcases hy with rfl | rfl
  · refine Rok.tup' (n := 57) (k := 0) (fun z hz => ?_) (by rw [List.length_map]; have := orb_len W hr'.1 hr'.2; omega)
    obtain ⟨c, hc, rfl⟩ := List.mem_map.mp hz
    have := orb_range W hc
    exact Rok.int (Nat.lt_of_le_of_lt (show c.natAbs ≤ 8 by omega) (by decide +kernel))
  · exact (Rok.int db).mono (by decide)
end W

/-! what the law of orders looks at -/
namespace W
open PySem PySem.Spec PyProof.Rows L2 Dw M
theorem winF_few {far : Int} {w : List Int} (f0 : 0 ≤ far) (f1 : far ≤ 10 ^ 100) (b : ∀ x ∈ w, x.natAbs ≤ 16 * far.natAbs + 8) : ∀ x ∈ w, x.natAbs ≤ 10 ^ 102 := fun x hx => by
  have h := b x hx
  have h2 : far.natAbs ≤ 10 ^ 100 := by omega
  have e : 16 * 10 ^ 100 + 8 ≤ 10 ^ 102 := by decide +kernel
  generalize 10 ^ 102 = q at e ⊢
  generalize 10 ^ 100 = p at e h2
  omega
theorem cut_from {ds : List D} {k : Nat} : Dw.cutD ds (some ((k : Int) + 1)) none = ds.drop (k + 1) := by
  unfold Dw.cutD
  have e : ((k : Int) + 1) = ((k + 1 : Nat) : Int) := by push_cast; rfl
  rw [e, HT.sIx_none, HT.sIx_nat]
  by_cases h : k + 1 ≤ ds.length
  · rw [Nat.min_eq_left h, List.take_of_length_le (by rw [List.length_drop]; omega)]
  · rw [Nat.min_eq_right (by omega), List.drop_of_length_le (by omega), List.drop_of_length_le (by omega), List.take_nil]
theorem cut_set {u : List Int} {k : Nat} (h : k < u.length) (v : Int) : (u.take k).map D.int ++ [D.int v] ++ (u.drop (k + 1)).map D.int = (u.set k v).map D.int := by
  rw [List.set_eq_take_append_cons_drop, if_pos h]
  simp
theorem win_set {u : List Int} (U : Win u) {k : Nat} (h : k < u.length) {v : Int} (hv : v % (u.length : Int) = u.getD k 0 % (u.length : Int)) : Win (u.set k v) := by
  have e : (u.set k v).map (fun x => x % ((u.set k v).length : Int)) = u.map fun x => x % (u.length : Int) := by
    rw [List.length_set]
    refine List.ext_getElem (by simp) fun i h1 h2 => ?_
    rw [List.getElem_map, List.getElem_map, List.getElem_set]
    split
    · rename_i ei
      subst ei
      rw [hv, List.getD_eq_getElem?_getD, List.getElem?_eq_getElem h]
      rfl
    · rfl
  refine ⟨by rw [List.length_set]; exact U.pos, ?_⟩
  rw [e, List.length_set]
  exact U.perm
theorem flat_tup {n : Nat} {l : List Int} : flat (n + 1) (.tup (l.map .int)) = true := by
  simp only [flat]
  exact flat_ints
theorem rok_ord {n : Nat} {w : List Int} (w8 : w.length ≤ 8) (W : Win w) : Rok n 0 (ordD w) := by
  unfold ordD
  cases e : ordr w with
  | none => exact Rok.non
  | some m =>
    have hL := lcmL_ok W w8
    obtain ⟨rfl, _⟩ := ordr_some W e
    exact Rok.int (Nat.lt_of_le_of_lt (show _ ≤ 840 by omega) (by decide +kernel))
theorem due_ord {w : List Int} : (if eqD (.lst (((rounds w w.length).filter fun r => !decide (drift w r = 0)).map fun r => D.int (drift w r))) (.lst []) = true then D.int (lcmL w : Nat) else D.non) = ordD w := by
  rw [eqD_nil]
  by_cases h : ∀ r ∈ rounds w w.length, drift w r = 0
  · rw [ordD_some h, if_pos]
    have : ((rounds w w.length).filter fun r => !decide (drift w r = 0)) = [] := List.filter_eq_nil_iff.mpr fun r hr => by simp [h r hr]
    rw [this]; rfl
  · have h2 : ∃ r ∈ rounds w w.length, drift w r ≠ 0 := by
      simpa using h
    rw [ordD_none h2, if_neg]
    obtain ⟨r, hr, ne⟩ := h2
    intro z
    have : r ∈ (rounds w w.length).filter fun r => !decide (drift w r = 0) := List.mem_filter.mpr ⟨hr, by simp [ne]⟩
    rw [List.isEmpty_iff, List.map_eq_nil_iff] at z
    rw [z] at this
    cases this
theorem isD_ord {w : List Int} {Q : Bool → Prop} (q : Q (ordr w).isNone) : isD (ordD w) .non Q := by
  unfold ordD
  cases e : ordr w with
  | none => rw [e] at q; exact q
  | some m => rw [e] at q; exact q
theorem times_told {w : List Int} (W : Win w) (w8 : w.length ≤ 8) {t : Nat} (t1 : 1 ≤ t) (tL : t ≤ lcmL w) : eqD (.tup ((mk w.length (itz w t)).map .int)) (.tup ((cells w.length).map .int)) = eqD (.int t) (ordD w) := by
  rw [eqD_tints]
  by_cases s : still w t
  · have a := still_inv W t1 s
    have : t = lcmL w := Nat.le_antisymm tL (Nat.le_of_dvd t1 a.2)
    rw [ordD_some a.1, eqD_int, decide_eq_true ((straight_iff W t).mpr s), this]
    simp
  · rw [decide_eq_false fun z => s ((straight_iff W t).mp z)]
    by_cases h : ∀ r ∈ rounds w w.length, drift w r = 0
    · rw [ordD_some h, eqD_int]
      symm
      refine decide_eq_false fun z => s ?_
      have : t = lcmL w := by omega
      rw [this]
      exact still_all W h (Nat.dvd_refl _)
    · rw [ordD_none (by simpa using h)]
      rfl
theorem pow24 {w : List Int} (W : Win w) (h8 : w.length ≤ 8) (hb : ∀ x ∈ w, x.natAbs ≤ 10 ^ 103) {N : Int} (hN : N.natAbs ≤ 10 ^ 24) : ∀ x ∈ cells w.length, (itz w N x).natAbs < 10 ^ 300 := fun x hx => by
  have hx' := mem_cells.mp hx
  have a := itz_far W hb N x
  have b : N.natAbs * (10 ^ 103 + w.length) ≤ 10 ^ 24 * (10 ^ 103 + 8) := Nat.mul_le_mul hN (by omega)
  have c : 10 ^ 24 * (10 ^ 103 + 8) + 8 < 10 ^ 300 := by decide +kernel
  generalize 10 ^ 24 * (10 ^ 103 + 8) = u at b c
  generalize 10 ^ 300 = t at c ⊢
  omega
theorem cut4 {a b c d e : D} : Dw.cutD [a, b, c, d, e] none (some 4) = [a, b, c, d] := (cut_first (k := 4)).trans rfl
theorem straight_q {w : List Int} (W : Win w) {L : Nat} (h : still w L) (q : Int) : mk w.length (itz w (q * (L : Int))) = cells w.length := by
  unfold mk
  have : itz w (q * (L : Int)) = id := funext fun x => by rw [Int.mul_comm]; exact itz_still W h q x
  rw [this, List.map_id]
end W

/-! what the law's own defs of k21 promise -/
namespace W
open PySem PySem.Spec PyProof.Rows L2 Dw M
def fsStraight : FS := fun _ ds R => ∃ n : Nat, ds = [.int (n : Nat)] ∧ n ≤ 1000 ∧ R (.tup ((cells n).map .int))
/-- a window drawn: some windows on, at most so far -/
def fsWinG : FS := fun S ds R => ∃ (a c : Addr) (n far : Int), S = some (a, c) ∧ ds = [.ref a, .int n, .int far] ∧ 1 ≤ n ∧ n ≤ 8 ∧ 0 ≤ far ∧ far ≤ 10 ^ 200 ∧ ∀ w : List Int, Win w → (w.length : Int) = n → (∀ x ∈ w, x.natAbs ≤ 8 * far.natAbs + 24) → R (.tup (w.map .int))
def fsCommon : FS := fun _ ds R => ∃ a b : Nat, ds = [.int (a : Nat), .int (b : Nat)] ∧ 1 ≤ a ∧ a ≤ 1000 ∧ 1 ≤ b ∧ b ≤ 1000 ∧ R (.int (Nat.lcm a b : Nat))
theorem zip_ints {xs ys : List Int} : Dw.zipD (xs.map .int) (ys.map .int) = (xs.zip ys).map fun p => D.tup [.int p.1, .int p.2] := by
  unfold Dw.zipD
  rw [List.zipWith_map, List.zip, List.map_zipWith]
theorem winG_of {n far : Int} {zs ys : List Int} (h1 : 1 ≤ n) (h8 : n ≤ 8) (f0 : 0 ≤ far) (hz : zs.Perm (rg 0 n)) (hl : ys.length = zs.length) (hy : ∀ y ∈ ys, y.natAbs ≤ far.natAbs + 2) :
    Win ((zs.zip ys).map fun p => p.1 + n * p.2) ∧ ((((zs.zip ys).map fun p => p.1 + n * p.2).length : Nat) : Int) = n ∧ ∀ x ∈ (zs.zip ys).map fun p => p.1 + n * p.2, x.natAbs ≤ 8 * far.natAbs + 24 := by
  have zl : (zs.length : Int) = n := by rw [hz.length_eq, rg_length]; omega
  have wl : (((zs.zip ys).map fun p => p.1 + n * p.2).length : Int) = n := by
    rw [List.length_map, List.length_zip, hl, Nat.min_self]; exact zl
  have hm : ∀ x ∈ zs, 0 ≤ x ∧ x < n := fun x hx => mem_rg.mp (hz.mem_iff.mp hx)
  refine ⟨⟨by omega, ?_⟩, wl, fun x hx => ?_⟩
  · rw [wl, List.map_map]
    have e : (zs.zip ys).map ((fun x => x % n) ∘ fun p => p.1 + n * p.2) = zs := by
      have : (zs.zip ys).map ((fun x => x % n) ∘ fun p => p.1 + n * p.2) = (zs.zip ys).map Prod.fst := List.map_congr_left fun p hp => by
        have := hm p.1 (List.of_mem_zip hp).1
        show (p.1 + n * p.2) % n = p.1
        rw [Int.add_mul_emod_self_left, Int.emod_eq_of_lt this.1 this.2]
      rw [this, List.map_fst_zip (by omega)]
    rw [e, ← rg_cells, wl]
    exact hz
  · obtain ⟨p, hp, rfl⟩ := List.mem_map.mp hx
    obtain ⟨h2, h3⟩ := List.of_mem_zip hp
    have a := hm _ h2
    have b := hy _ h3
    have c : (n * p.2).natAbs ≤ 8 * (far.natAbs + 2) := by
      rw [Int.natAbs_mul]
      exact Nat.mul_le_mul (by omega) b
    generalize n * p.2 = q at c ⊢
    omega
theorem zeros {n : Nat} : (List.replicate ((n : Nat) : Int).toNat [D.int 0]).flatten = (List.replicate n (0 : Int)).map D.int := by
  rw [Int.toNat_natCast]
  induction n with
  | zero => rfl
  | succ n ih => rw [List.replicate_succ, List.flatten_cons, ih, List.replicate_succ]; rfl
/-- places led back, rest by rest -/
def Backs (u fs : List Int) (i : Nat) : Prop := fs.length = u.length ∧ ∀ y ∈ u.take i, fs.getD (y % u.length).toNat 0 = bk u (y % u.length)
theorem Backs.all {u fs : List Int} (U : Win u) (b : Backs u fs u.length) : fs = mk u.length (bk u) := by
  refine List.ext_getElem (by rw [mk_length]; exact b.1) fun i h1 h2 => ?_
  have hi : i < u.length := by rw [← b.1]; exact h1
  have m : (i : Int) ∈ (u.map fun x => x % (u.length : Int)) := U.perm.mem_iff.mpr (mem_cells.mpr ⟨by omega, by omega⟩)
  obtain ⟨y, hy, ey⟩ := List.mem_map.mp m
  have := b.2 y (by rw [List.take_length]; exact hy)
  rw [ey, Int.toNat_natCast, List.getD_eq_getElem?_getD, List.getElem?_eq_getElem h1] at this
  have e2 := mk_getD (n := u.length) (f := bk u) (x := i) (by omega) (by omega)
  rw [Int.toNat_natCast, List.getD_eq_getElem?_getD, List.getElem?_eq_getElem h2] at e2
  have a : fs[i] = bk u i := this
  have c : (mk u.length (bk u))[i] = bk u i := e2
  rw [a, c]
theorem Backs.put {u fs : List Int} {i : Nat} {y : Int} (U : Win u) (b : Backs u fs i) (hy : u[i]? = some y) : Backs u (fs.set (y % u.length).toNat (bk u (y % u.length))) (i + 1) := by
  have hn : (0 : Int) < u.length := by have := U.pos; omega
  have hi := (List.getElem?_eq_some_iff.mp hy).1
  refine ⟨by rw [List.length_set]; exact b.1, fun z hz => ?_⟩
  have m0 := Int.emod_nonneg y (show (u.length : Int) ≠ 0 by omega)
  have m1 := Int.emod_lt_of_pos y hn
  have z0 := Int.emod_nonneg z (show (u.length : Int) ≠ 0 by omega)
  have z1 := Int.emod_lt_of_pos z hn
  have b1 := b.1
  rw [List.getD_eq_getElem?_getD, List.getElem?_set]
  by_cases e : z % u.length = y % u.length
  · rw [e, if_pos rfl, if_pos (by omega)]; rfl
  · rw [if_neg (by omega)]
    rw [List.take_add_one, hy] at hz
    rcases List.mem_append.mp hz with q | q
    · have := b.2 z q
      rwa [List.getD_eq_getElem?_getD] at this
    · simp at q
      subst q
      exact absurd rfl e
theorem back_val {u : List Int} (U : Win u) {i : Nat} {y : Int} (hy : u[i]? = some y) : (i : Int) + y % u.length - y = bk u (y % u.length) := by
  have hi := (List.getElem?_eq_some_iff.mp hy).1
  have e := Int.mul_ediv_add_emod y u.length
  have im : (i : Int) % u.length = i := Int.emod_eq_of_lt (by omega) (by omega)
  have ni : nx u i = y := by
    unfold nx
    rw [im, Int.toNat_natCast, List.getD_eq_getElem?_getD, hy]
    show y + (i : Int) - i = y
    omega
  have e2 : (i : Int) + y % u.length - y = (i : Int) + u.length * (-(y / u.length)) := by rw [Int.mul_neg]; omega
  refine (bk_eq U ?_).symm
  rw [e2, nx_add, ni, Int.mul_neg]
  omega
theorem gcd_step {a b : Nat} (hb : 0 < b) : Nat.gcd b (a % b) = Nat.gcd a b := by
  rw [Nat.gcd_comm b (a % b), ← Nat.gcd_rec, Nat.gcd_comm]
end W
namespace W
open PySem PySem.Spec PyProof.Rows L2 Dw M
/-- a round's rests as they are met, so many -/
def lineI (w : List Int) (r : Int) (m : Nat) : List Int := (List.range m).map fun k => it w k r % w.length
theorem lineI_succ {w : List Int} {r : Int} {m : Nat} : lineI w r (m + 1) = lineI w r m ++ [it w m r % w.length] := by
  unfold lineI
  rw [List.range_succ, List.map_append]; rfl
theorem lineI_orb {w : List Int} {r : Int} : lineI w r (per w r) = orb w r := rfl
theorem lineI_mem {w : List Int} {r x : Int} {m : Nat} : x ∈ lineI w r m ↔ ∃ k, k < m ∧ it w k r % w.length = x := by
  unfold lineI
  rw [List.mem_map]
  constructor
  · rintro ⟨k, hk, e⟩; exact ⟨k, List.mem_range.mp hk, e⟩
  · rintro ⟨k, hk, e⟩; exact ⟨k, List.mem_range.mpr hk, e⟩
/-- what stands marked while a round is walked: its next rest is new but at its end -/
theorem mark_at {w : List Int} (W : Win w) {i : Nat} (hi : i < w.length) {P P' : Int → Bool} {m : Nat} (hm : m ≤ per w i) (hP : ∀ x, P x = (rounds w i).any (fun r => decide (x ∈ orb w r))) (hn : (rounds w i).any (fun r => decide ((i : Int) ∈ orb w r)) = false)
    (hP' : ∀ x, P' x = (P x || decide (x ∈ lineI w i m))) : P' (it w m i % w.length) = decide (m = per w i) := by
  have h0 : (0 : Int) ≤ i := by omega
  have h1 : (i : Int) < w.length := by omega
  have p := per_ok W h0 h1
  have I := rounds_ok W i (by omega)
  have f : P (it w m i % w.length) = false := by
    rw [hP, Bool.eq_false_iff]
    intro z
    obtain ⟨r, hr, e⟩ := List.any_eq_true.mp z
    have e := of_decide_eq_true e
    have hr' := I.rng r hr
    have a : it w m i % w.length ∈ orb w i := (mem_orb W h0 h1).mpr ⟨m, rfl⟩
    have b := orb_trans W hr'.1 (by omega) e (orb_symm W h0 h1 a)
    have : (rounds w i).any (fun r => decide ((i : Int) ∈ orb w r)) = true := List.any_eq_true.mpr ⟨r, hr, decide_eq_true b⟩
    rw [hn] at this
    cases this
  rw [hP', f, Bool.false_or, Bool.eq_iff_iff, decide_eq_true_iff, decide_eq_true_iff, lineI_mem]
  constructor
  · rintro ⟨k, hk, e⟩
    rcases Nat.lt_or_ge m (per w i) with z | z
    · exfalso
      have nd := orb_nodup W h0 h1
      unfold orb at nd
      have := (List.getElem_inj (i := k) (j := m) (h₀ := by rw [List.length_map, List.length_range]; omega) (h₁ := by rw [List.length_map, List.length_range]; exact z) nd).mp (by
        rw [List.getElem_map, List.getElem_map, List.getElem_range, List.getElem_range]; exact e)
      omega
    · omega
  · intro e
    refine ⟨0, by omega, ?_⟩
    rw [e, p.2.2.1]
    exact Int.emod_eq_of_lt h0 h1
theorem rounds_more {w : List Int} {i : Nat} (h : (rounds w i).any (fun r => decide ((i : Int) ∈ orb w r)) = false) : rounds w (i + 1) = rounds w i ++ [(i : Int)] := by
  show (if _ then _ else _) = _
  rw [h, if_neg (by decide)]
theorem rounds_same {w : List Int} {i : Nat} (h : (rounds w i).any (fun r => decide ((i : Int) ∈ orb w r)) = true) : rounds w (i + 1) = rounds w i := by
  show (if _ then _ else _) = _
  rw [h, if_pos rfl]
/-- lines of the times by a number and a rest, as two walks tell them -/
def fsLLines : FS := fun _ ds R => ∃ (w : List Int) (d e : Nat), ds = [.tup (w.map .int), .int (d : Nat), .int (e : Nat)] ∧ Win w ∧ w.length ≤ 1000 ∧ d + e ≤ 900 ∧ R (.tup ((cells w.length).map fun x => prD (itz w ((d + e : Nat) : Int) x - itz w (e : Nat) x, itz w (e : Nat) x)))
/-- the same, of the whole number of cells: whether lines by a lesser number tell all -/
def lineC (w : List Int) (e x : Int) : Int × Int := (itz w (lcmL w : Nat) x - x, itz w e x)
def fsTold : FS := fun _ ds R => ∃ (w : List Int) (d : Nat), ds = [.lst ((cells (lcmL w)).map fun e => .tup ((cells w.length).map fun x => prD (lineC w e x))), .int (lcmL w : Nat), .int (d : Nat)] ∧ Win w ∧ w.length ≤ 8 ∧ (∀ x ∈ w, x.natAbs ≤ 10 ^ 300) ∧ 1 ≤ d ∧ d ∣ lcmL w ∧ ∀ b : Bool, (b = true ↔ Tells w d) → R (.bl b)
end W
namespace W
open PySem PySem.Spec PyProof.Rows L2 Dw M
theorem mark_snoc {b : Bool} {x y : Int} {l : List Int} : ((b || decide (x ∈ l)) || decide ((Sum.inl y : Key) = .inl x)) = (b || decide (x ∈ l ++ [y])) := by
  have e : ((Sum.inl y : Key) = .inl x) ↔ x = y := ⟨fun h => by injection h with h; exact h.symm, fun h => by rw [h]⟩
  rw [Bool.eq_iff_iff]
  simp only [Bool.or_eq_true, decide_eq_true_eq, List.mem_append, List.mem_singleton, e, or_assoc]
end W
namespace W
open PySem PySem.Spec PyProof.Rows L2 Dw M
def OkC (w : List Int) (d few : Nat) (x : Int) (lap : Nat) : Prop := (itz w ((few + lap * d : Nat) : Int) x - itz w (few : Nat) x) * (lcmL w : Nat) = (itz w (lcmL w : Nat) x - x) * (lap : Nat) * (d : Nat)
theorem told_iff {w : List Int} {d : Nat} (d1 : 1 ≤ d) (dv : d ∣ lcmL w) : Tells w d ↔ ∀ few, few < d → ∀ x ∈ cells w.length, ∀ lap, lap < lcmL w / d → OkC w d few x lap := by
  have key : ∀ (few lap : Nat) (x : Int), few < d → (lineW w ((few + lap * d : Nat) : Int) x = lineW w (((few + lap * d : Nat) : Int) % (d : Int)) x ↔ OkC w d few x lap) := fun few lap x hf => by
    have em : ((few + lap * d : Nat) : Int) % (d : Int) = (few : Nat) := by
      push_cast
      rw [Int.add_mul_emod_self_right, Int.emod_eq_of_lt (by omega) (by omega)]
    rw [em]
    unfold lineW OkC
    rw [Prod.mk.injEq]
    obtain ⟨c, ec⟩ : ∃ c, c = itz w (lcmL w : Nat) x - x := ⟨_, rfl⟩
    obtain ⟨a, ea⟩ : ∃ a, a = itz w ((few + lap * d : Nat) : Int) x := ⟨_, rfl⟩
    obtain ⟨b, eb⟩ : ∃ b, b = itz w (few : Nat) x := ⟨_, rfl⟩
    rw [← ec, ← ea, ← eb]
    have e1 : (a - b) * ((lcmL w : Nat) : Int) = a * (lcmL w : Nat) - b * (lcmL w : Nat) := Int.sub_mul ..
    have e2 : -c * ((few + lap * d : Nat) : Int) = -(c * (few : Nat)) - c * (lap : Nat) * (d : Nat) := by
      push_cast
      rw [Int.neg_mul, Int.mul_add, Int.mul_assoc]
      omega
    have e3 : -c * ((few : Nat) : Int) = -(c * (few : Nat)) := Int.neg_mul ..
    rw [e1, e2, e3]
    constructor
    · rintro ⟨_, h⟩; omega
    · intro h; exact ⟨rfl, by omega⟩
  constructor
  · intro h few hf x hx lap hl
    refine (key few lap x hf).mp (h _ ?_ x hx)
    have : (lap + 1) * d ≤ lcmL w / d * d := Nat.mul_le_mul_right d hl
    rw [Nat.div_mul_cancel dv, Nat.add_mul] at this
    omega
  · intro h e he x hx
    have e0 : e = e % d + e / d * d := by have := Nat.div_add_mod e d; rw [Nat.mul_comm] at this; omega
    have hl : e / d < lcmL w / d := by
      rw [Nat.div_lt_iff_lt_mul (by omega), Nat.div_mul_cancel dv]; exact he
    have := (key (e % d) (e / d) x (Nat.mod_lt _ d1)).mpr (h _ (Nat.mod_lt _ d1) x hx _ hl)
    rw [← e0] at this
    exact this
theorem itz_306 {w : List Int} (W : Win w) (w8 : w.length ≤ 8) (wb : ∀ x ∈ w, x.natAbs ≤ 10 ^ 300) {k : Nat} (hk : k ≤ 900) {x : Int} (hx : x ∈ cells w.length) : (itz w (k : Nat) x).natAbs ≤ 10 ^ 306 := by
  have hx' := mem_cells.mp hx
  have b := it_big wb W x k
  rw [itz_nat]
  have b2 : k * (10 ^ 300 + w.length) ≤ 900 * (10 ^ 300 + 8) := Nat.mul_le_mul hk (by omega)
  have b3 : 900 * (10 ^ 300 + 8) + 8 ≤ 10 ^ 306 := by decide +kernel
  generalize 900 * (10 ^ 300 + 8) = u at b2 b3
  generalize 10 ^ 306 = q at b3 ⊢
  omega
end W

/-! Dw36: how many keys a dict has -/
namespace Dw
open PySem PySem.Spec PyProof.Rows L2
def lenK (n : Nat) : List D → Prop
  | [.dic es] => es.length = n
  | _ => False
theorem RpKv.len_ {K : PySem.W.Frag} {O : List Addr} {H : Hp} : ∀ {kvs : List (Key × V)} {es : List (Key × D)}, RpKv K O H kvs es → kvs.length = es.length
  | _, _, .nil => rfl
  | _, _, .cons _ r => by rw [List.length_cons, List.length_cons, RpKv.len_ r]
section
variable {X : Cx} {G : Gx} {ρ : List Sl} {e : Expr} {pos p : Pos} {c : Bool} {Q : D → Prop}
theorem de_lenK (n : Nat) (hm : X.mg "len" = none) (h : DA X G ρ false [e] fun ds => lenK n ds ∧ Q (.int n)) (hg : Gl X "len" := by rfl)
    (he : starEach [e] X.env = (false, eval e X.env) :: starEach [] X.env := by rfl) (hpl : (backTo pos (starEach [] X.env)).any (·.1) = false := by rfl) : DE X G ρ c (.Call (.Name "len" p) [e] [] pos) Q :=
  de_callB call_lenD hm boot_len (R := fun ds Q => lenK n ds ∧ Q (.int n)) (fun vs σ H ds Q' I r U q => by
    obtain ⟨q1, q2⟩ := q
    unfold lenK at q1
    split at q1
    · obtain ⟨v, rfl, r1⟩ := r.oneI
      cases r1 with
      | dic ha n2 r => exact ⟨_, _, rfl, ha, by rw [r.len_, q1]; exact U.int I.src q2⟩
    · exact q1.elim) h hg (by decide) (by decide) he hpl
end
/-! keys that differ -/
open Classical in
theorem put_keys (es : List (Key × D)) (k : Key) (d : D) : (putD es k d).map (·.1) = if k ∈ es.map (·.1) then es.map (·.1) else es.map (·.1) ++ [k] := by
  unfold putD
  have e : (es.any fun p => decide (p.1 = k)) = true ↔ k ∈ es.map (·.1) := by
    rw [List.any_eq_true, List.mem_map]
    exact ⟨fun ⟨p, hp, h⟩ => ⟨p, hp, of_decide_eq_true h⟩, fun ⟨p, hp, h⟩ => ⟨p, hp, decide_eq_true h⟩⟩
  by_cases h : k ∈ es.map (·.1)
  · rw [if_pos (e.mpr h), if_pos h, List.map_map]
    refine List.map_congr_left fun p _ => ?_
    show (if p.1 = k then (p.1, d) else p).1 = p.1
    split <;> rfl
  · rw [if_neg (fun z => h (e.mp z)), if_neg h, List.map_append]
    rfl
open Classical in
theorem merge_len_le (ps : List (Key × D)) : ∀ es : List (Key × D), (mergeD es ps).length ≤ es.length + ps.length := by
  induction ps with
  | nil => intro es; exact Nat.le_refl _
  | cons p ps ih =>
    intro es
    show (mergeD (putD es p.1 p.2) ps).length ≤ _
    have h := ih (putD es p.1 p.2)
    have h2 : (putD es p.1 p.2).length ≤ es.length + 1 := by
      rw [← List.length_map (f := (·.1)), put_keys]
      split
      · rw [List.length_map]; omega
      · rw [List.length_append, List.length_map]; exact Nat.le_refl _
    rw [List.length_cons]; omega
open Classical in
theorem merge_len2 (ps : List (Key × D)) : ∀ es : List (Key × D), (mergeD es ps).length = es.length + ps.length ↔ (ps.map (·.1)).Nodup ∧ ∀ p ∈ ps, p.1 ∉ es.map (·.1) := by
  induction ps with
  | nil => intro es; exact ⟨fun _ => ⟨List.nodup_nil, fun p hp => nomatch hp⟩, fun _ => rfl⟩
  | cons p ps ih =>
    intro es
    have le := merge_len_le ps (putD es p.1 p.2)
    show (mergeD (putD es p.1 p.2) ps).length = _ ↔ _
    have hl : (putD es p.1 p.2).length = if p.1 ∈ es.map (·.1) then es.length else es.length + 1 := by
      rw [← List.length_map (f := (·.1)), put_keys]
      split
      · rw [List.length_map]
      · rw [List.length_append, List.length_map]; rfl
    have ih := ih (putD es p.1 p.2)
    rw [put_keys] at ih
    rw [List.map_cons, List.nodup_cons, List.length_cons]
    by_cases h : p.1 ∈ es.map (·.1)
    · rw [if_pos h] at hl
      constructor
      · intro e; omega
      · rintro ⟨_, a⟩; exact absurd h (a p (List.mem_cons_self ..))
    · rw [if_neg h] at hl ih
      rw [hl] at ih
      constructor
      · intro e
        obtain ⟨n1, n2⟩ := ih.mp (by omega)
        refine ⟨⟨fun m => ?_, n1⟩, fun q hq => ?_⟩
        · obtain ⟨q, hq, eq⟩ := List.mem_map.mp m
          exact n2 q hq (List.mem_append_right _ (by rw [eq]; exact List.mem_singleton.mpr rfl))
        · rcases List.mem_cons.mp hq with rfl | hq
          · exact h
          · exact fun m => n2 q hq (List.mem_append_left _ m)
      · rintro ⟨⟨n0, n1⟩, n2⟩
        have := ih.mpr ⟨n1, fun q hq m => ?_⟩
        · omega
        · rcases List.mem_append.mp m with m | m
          · exact n2 q (List.mem_cons_of_mem _ hq) m
          · exact n0 (List.mem_map.mpr ⟨q, hq, List.mem_singleton.mp m⟩)
/-- dict of pairs: as many keys as pairs exactly if the keys differ -/
theorem merge_ints {α : Type} (f : α → Int) (v : α → D) (l : List α) : (mergeD [] (l.map fun x => ((Sum.inl (f x) : Key), v x))).length = l.length ↔ (l.map f).Nodup := by
  have h := merge_len2 (l.map fun x => ((Sum.inl (f x) : Key), v x)) []
  rw [List.length_map, List.map_map, show ([] : List (Key × D)).length + l.length = l.length from Nat.zero_add _] at h
  rw [h]
  have e : (l.map ((fun x : Key × D => x.1) ∘ fun x => ((Sum.inl (f x) : Key), v x))) = (l.map f).map Sum.inl := by rw [List.map_map]; rfl
  rw [e]
  constructor
  · rintro ⟨n, _⟩
    exact (List.pairwise_map.mp n).imp fun h e => h (congrArg Sum.inl e)
  · intro n
    refine ⟨List.pairwise_map.mpr (n.imp fun h e => h (Sum.inl.inj e)), fun p _ m => nomatch m⟩
end Dw

/-! S15: whether numbers are a window -/
namespace W
open PySem PySem.Spec PyProof.Rows L2 Dw M
/-- rests unlike, one at least -/
def unl (xs : List Int) : Bool := decide (xs ≠ [] ∧ (xs.map fun x => x % (xs.length : Int)).Nodup)
def fsIsWin : FS := fun _ ds R => ∃ (d : D) (xs : List Int), ds = [d] ∧ (d = .tup (xs.map .int) ∨ d = .lst (xs.map .int)) ∧ xs.length ≤ 1000 ∧ R (.bl (unl xs))
def fsFar10 : FS := fun S ds R => ∃ (a c : Addr), S = some (a, c) ∧ ds = [.ref a] ∧ ∀ x : Int, x.natAbs ≤ 10 ^ 200 → R (.int x)
def fsWin10 : FS := fun S ds R => ∃ (a c : Addr) (n : Int), S = some (a, c) ∧ ds = [.ref a, .int n] ∧ 1 ≤ n ∧ n ≤ 8 ∧ ∀ w : List Int, Win w → (w.length : Int) = n → (∀ x ∈ w, x.natAbs ≤ 8 * 10 ^ 200 + 8) → R (.tup (w.map .int))
theorem unl_win {w : List Int} (W : Win w) : unl w = true := by
  refine decide_eq_true ⟨fun z => ?_, W.perm.nodup_iff.mpr (nodup_cells _)⟩
  have := W.pos
  rw [z] at this
  exact absurd this (by decide)
/-- sorted rests are the cells exactly if they are unlike -/
theorem unl_sorted {xs s : List Int} (hp : s.Perm (xs.map fun x => x % (xs.length : Int))) (hs : s.Pairwise (· ≤ ·)) (h0 : xs ≠ []) : decide (s = cells xs.length) = unl xs := by
  have pos : 0 < xs.length := List.length_pos_iff.mpr h0
  unfold unl
  rw [decide_eq_decide]
  constructor
  · intro e
    exact ⟨h0, hp.nodup_iff.mp (e ▸ nodup_cells _)⟩
  · rintro ⟨_, nd⟩
    refine sorted_eq ?_ hs (cells_sorted _)
    refine hp.trans ?_
    rw [List.perm_ext_iff_of_nodup nd (nodup_cells _)]
    have sub : ∀ x ∈ xs.map fun x => x % (xs.length : Int), x ∈ cells xs.length := fun x hx => by
      obtain ⟨y, _, rfl⟩ := List.mem_map.mp hx
      exact mem_cells.mpr ⟨Int.emod_nonneg _ (by omega), Int.emod_lt_of_pos _ (by omega)⟩
    intro x
    refine ⟨sub x, fun hx => ?_⟩
    have hsub := all_cells nd (fun x hx => mem_cells.mp (sub x hx)) (by rw [List.length_map])
    exact hsub.mem_iff.mpr hx
theorem seq2 {d : D} {xs : List D} {Q : List D → Prop} (h : d = .tup xs ∨ d = .lst xs) (q : Q xs) : seqD d Q := by
  rcases h with rfl | rfl <;> exact q
theorem len2 {d : D} {xs : List D} {n : Nat} (h : d = .tup xs ∨ d = .lst xs) (e : xs.length = n) : lenN n [d] := by
  rcases h with rfl | rfl <;> exact e
theorem unl_nil : unl [] = false := decide_eq_false fun h => h.1 rfl
theorem unl_merge {xs : List Int} (h : xs ≠ []) : decide (((mergeD [] (xs.map fun x => ((Sum.inl (x % (xs.length : Int)) : Key), D.bl true))).length : Int) = (xs.length : Int)) = unl xs := by
  unfold unl
  rw [decide_eq_decide]
  have e := merge_ints (fun x : Int => x % (xs.length : Int)) (fun _ => D.bl true) xs
  constructor
  · intro z
    exact ⟨h, e.mp (by omega)⟩
  · rintro ⟨_, z⟩
    have := e.mpr z
    omega
end W

/-! S16: the law of windows by rests -/
namespace W
open PySem PySem.Spec PyProof.Rows L2 Dw M
theorem ints_cells (u : List Int) : u.map D.int = (cells u.length).map fun c => D.int (u.getD c.toNat 0) := by
  conv => lhs; rw [← getD_all u]
  rw [List.map_map]
  rfl
theorem moves_sum {u : List Int} (U : Win u) : ((cells u.length).map fun c => u.getD c.toNat 0 - c).sum = u.length * push u := by
  rw [sum_sub, getD_all, push_sum U, List.map_id']
theorem push_cells (n : Nat) : push (cells n) = 0 := by
  unfold push
  rw [cells_len]
  have h : (cells n).map (fun x => x / (n : Int)) = (cells n).map fun _ => 0 := List.map_congr_left fun x hx => by
    obtain ⟨h0, h1⟩ := mem_cells.mp hx
    exact Int.ediv_eq_zero_of_lt h0 h1
  rw [h]
  generalize cells n = l
  induction l with
  | nil => rfl
  | cons a l ih => rw [List.map_cons, List.sum_cons, ih]; rfl
/-- the places that are looked at -/
def looks (n : Nat) (r s : Int) : List Int := rg (0 - (n : Int)) (2 * (n : Int)) ++ [10 ^ 40 + r, 0 - 10 ^ 290 - s]
theorem nodup_rg (a b : Int) : (rg a b).Nodup := by
  unfold rg
  refine List.pairwise_map.mpr (List.nodup_range.imp fun h e => h (by omega))
theorem looks_nodup {n : Nat} {r s : Int} (hn : n ≤ 1000) (r0 : 0 ≤ r) (s0 : 0 ≤ s) : (looks n r s).Nodup := by
  have big : (10 : Int) ^ 40 > 100000 := by decide +kernel
  have low : (10 : Int) ^ 290 > 100000 := by decide +kernel
  unfold looks
  generalize (10 : Int) ^ 40 = p at *
  generalize (10 : Int) ^ 290 = q at *
  rw [List.nodup_append]
  refine ⟨nodup_rg _ _, ?_, fun x hx y hy => ?_⟩
  · rw [List.nodup_cons]
    refine ⟨fun m => ?_, List.nodup_cons.mpr ⟨List.not_mem_nil, List.nodup_nil⟩⟩
    have := List.mem_singleton.mp m
    omega
  · obtain ⟨h0, h1⟩ := mem_rg.mp hx
    simp only [List.mem_cons, List.not_mem_nil, or_false] at hy
    rcases hy with rfl | rfl <;> omega
theorem looks_few {n : Nat} {r s x : Int} (hn : n ≤ 1000) (r0 : 0 ≤ r) (r1 : r < 1000) (s0 : 0 ≤ s) (s1 : s < 1000) (h : x ∈ looks n r s) : x.natAbs ≤ 10 ^ 291 := by
  unfold looks at h
  have e1 : 10 ^ 40 + 1000 ≤ 10 ^ 291 := by decide +kernel
  have e2 : 10 ^ 290 + 1000 ≤ 10 ^ 291 := by decide +kernel
  have e3 : ((10 : Int) ^ 40) = ((10 ^ 40 : Nat) : Int) := by decide +kernel
  have e4 : ((10 : Int) ^ 290) = ((10 ^ 290 : Nat) : Int) := by decide +kernel
  rw [e3, e4] at h
  generalize (10 : Nat) ^ 40 = p at *
  generalize (10 : Nat) ^ 290 = q at *
  generalize (10 : Nat) ^ 291 = z at *
  rcases List.mem_append.mp h with h | h
  · obtain ⟨h0, h1⟩ := mem_rg.mp h
    omega
  · simp only [List.mem_cons, List.not_mem_nil, or_false] at h
    rcases h with rfl | rfl <;> omega
theorem nx_few {u : List Int} (U : Win u) (n8 : u.length ≤ 8) (ub : ∀ x ∈ u, x.natAbs ≤ 8 * 10 ^ 200 + 8) {x : Int} (hx : x.natAbs ≤ 10 ^ 291) : (nx u x).natAbs ≤ 10 ^ 300 := by
  unfold nx
  obtain ⟨h0, h1⟩ := md U x
  have h := ub _ (getD_mem (l := u) (i := (x % (u.length : Int)).toNat) (by omega))
  have e : 8 * 10 ^ 200 + 8 + 10 ^ 291 + 8 ≤ 10 ^ 300 := by decide +kernel
  generalize (10 : Nat) ^ 200 = p at *
  generalize (10 : Nat) ^ 291 = q at *
  generalize (10 : Nat) ^ 300 = z at *
  generalize u.getD (x % (u.length : Int)).toNat 0 = y at *
  omega
/-- what is told of far ones -/
def val10 (z : Int) (j : Int) : D := if j = 1 then .tup [.str "told", .tup [.int z]] else .tup [.str "great", .int 0]
theorem flat_val {k : Nat} {z j : Int} : flat (k + 2) (val10 z j) = true := by
  unfold val10
  split
  · show flatAll (k + 1) [.str "told", .tup [.int z]] = true
    rw [flatAll_cons, flatAll_cons, flatAll_nil]
    show (flat (k + 1) (.str "told") && (flatAll k [.int z] && true)) = true
    rw [flatAll_cons, flatAll_nil, flat_int, show flat (k + 1) (.str "told") = true from by show PyData.strOk _ = true; decide +kernel]
    rfl
  · show flatAll (k + 1) [.str "great", .int 0] = true
    rw [flatAll_cons, flatAll_cons, flatAll_nil, flat_int, show flat (k + 1) (.str "great") = true from by show PyData.strOk _ = true; decide +kernel]
    rfl
theorem flat_vals {z j : Int} : flat 60 (.lst [val10 z j, val10 z j]) = true := by
  show flatAll 59 [val10 z j, val10 z j] = true
  rw [flatAll_cons, flatAll_cons, flatAll_nil, flat_val (k := 57)]
  rfl
theorem val_join {z j : Int} : (if decide (j = 1) = true then D.tup [.str "told", .tup [.int z]] else .tup [.str "great", .int 0]) = val10 z j := by
  unfold val10
  simp only [decide_eq_true_eq]
theorem cut_one {ds : List D} : Dw.cutD ds (some 1) none = ds.drop 1 := cut_from (k := 0)
theorem goals_dict {u : List Int} (U : Win u) {l : List Int} (h : l.Nodup) : (mergeD [] ((l.map (nx u)).map fun x => ((Sum.inl x : Key), D.int 0))).length = l.length := by
  have e := (merge_ints (fun x : Int => x) (fun _ => D.int 0) (l.map (nx u))).mpr (by
    rw [List.map_id']
    exact List.pairwise_map.mpr (h.imp fun h e => h (nx_inj0 U e)))
  rw [List.length_map] at e
  exact e
end W

namespace W
open PySem PySem.Spec PyProof.Rows L2 Dw M
local macro_rules | `(tactic| walk_at "le") => `(tactic| (repeat (refine And.intro ?_ ?_; · first | rfl | (simp [List.range_succ]; done))); exact trivial)
def topS (i : Nat) : Stmt := PySem.Challenge.pw_movedalike_k10_windows_right_by_rests.main.body.getD i (.Pass ⟨0, 0, 0, 0⟩)
section
variable {P : Program} {w : World} {K : PySem.W.Frag} {mg : Str → Option Value} {base : Heap}
abbrev sPick : Stmt := topS 19
theorem sc_pick : FnScope ["source", "many", "left", "mixed"] ["source", "many"] (defScope sPick) := ⟨rfl, rfl, rfl, by decide +kernel, rfl, by decide +kernel, by decide +kernel⟩
theorem mod_lt' (i : Int) {j : Int} (h : 0 < j) : 0 ≤ i % j ∧ i % j < j := ⟨Int.emod_nonneg _ (by omega), Int.emod_lt_of_pos _ h⟩
theorem ok_pick {f : Addr} {fd : FuncData} {k : Nat} (F : Fun K "_law_pick" "_law_pick" sPick f fd) (mlen : mg "len" = none) (mmax : mg "max" = none) (mint : mg "int" = none) : FnOk P w K mg base CX0 (k + 1) f fd ["source", "many"] (spD K fsPick) := by
  refine F.ok sc_pick (fun vs H Q E h => ?_) (fun cdv A outer s H vs Q E hr h => ?_)
  · obtain ⟨S, O, ds, R, r, _, _, _, ⟨a, c, many, _, rfl, _⟩, _⟩ := h
    exact r.length
  · obtain ⟨S, O, ds, R, r, hs, hS, ht, ⟨a, c, many, rfl, rfl, hm, q⟩, Θ, fin⟩ := h
    obtain ⟨v, u, rfl, r1, r2⟩ := r.twoI
    cases r1; cases r2
    obtain ⟨ha, hc, ne⟩ := hS a c rfl
    obtain ⟨cells, l, m, t, hat⟩ := hs.at
    have hu := hu_of hr
    have done : ∀ {H' : Hp} {cells l m t r}, SrcAt H' a c cells l m t → Off a c H H' → 0 ≤ r → r < max 1 many → Q (.int r) H' := fun hat f h0 h1 => fin _ _ (.int _) (f.kp hs hat.ok) hat.ok (.int _) (q _ h0 h1)
    have dg : ∀ {H' : Hp} {cells l m t} {k : Str} {v : V}, SrcAt H' a c cells l m t → valV (srcL c (.int l) (.int m) (.int t)) (.inr k) = some v → DGet H' a (.str k) (some v) := fun hat e => e ▸ DGet.k (k := Sum.inr _) hat.1
    have dp : ∀ {H' : Hp} {cells l m t} {k : Str} {v : V} {es : List (Key × V)}, SrcAt H' a c cells l m t → putK (srcL c (.int l) (.int m) (.int t)) (.inr k) v = es → DPut H' a (.str k) v (upd H' a (.dK es)) := fun hat e => e ▸ DPut.k (k := Sum.inr _) hat.1 (by show 4 < sizeLine; decide)
    refine ⟨_, pss_cons (ps_while PassesOwn.never (PW.pt (pw_and (pt_cmpR op_gt (pv 1) pe_int (nomark _)) (pw_and (pt_cmpR op_lt (pe_dget hu (pv 0) pe_str (fun _ _ => rfl)) pe_int (nomark _)) (pw_and1 (pt_cmpR op_gt (pe_callB call_len (by rfl) mlen PySem.boot_len (pa_cons (pe_dget hu (pv 0) pe_str (fun _ _ => rfl)) pa_nil)) pe_int (nomark _))))))
        (pss_one (ps_dput hu (pv 0) pe_str (pe_bm0 PySem.F.plainAttrs_list PySem.F.slot_list_pop PySem.F.type_list_pop mt_pop (pe_dget hu (pv 0) pe_str (fun _ _ => rfl))) rfl)))
      (u := fun D σ H' => D.rt = Q ∧ ∃ cells l m t, σ = [some (.ref a), some (.int many), none, none] ∧ SrcAt H' a c cells l m t ∧ Off a c H H') ?rest, ?main⟩
    case rest =>
      refine ⟨fun pins s σ H' D I h => ?_⟩
      obtain ⟨eQ, cells, l, m, t, rfl, hat, off⟩ := h
      refine (pss_cons (ps_set (i := 2) sc_pick.nd rfl (.inl rfl) (pe_dget hu (pv 0) pe_str (fun _ _ => rfl)))
      (pss_cons (ps_if (PW.pt (pw_or (pt_cmpR op_lt (pv 1) pe_int (nomark _)) (pw_or1 (pt_cmpR op_gt (pv 2) pe_int (nomark _)))))
        (pss_cons (ps_dput hu (pv 0) pe_str (pe_op op_fdiv (pv 2) (pe_callB (call_max2 rfl) (by rfl) mmax PyProof.Rows.boot_max (pa_cons pe_int (pa_cons (pv 1) pa_nil)))) rfl)
          (pss_one (ps_ret (pe_op op_mod (L2.pe_callTy call_int1 (by rfl) mint PyProof.Rows.boot_int (pa_cons (pv 2) pa_nil)) (pe_callB (call_max2 rfl) (by rfl) mmax PyProof.Rows.boot_max (pa_cons pe_int (pa_cons (pv 1) pa_nil)))))))
        pss_nil)
      (pss_cons (ps_dput hu (pv 0) pe_str (pe_op op_add (pe_dget hu (pv 0) pe_str (fun _ _ => rfl)) pe_int) rfl)
      (pss_cons (ps_set (i := 3) sc_pick.nd rfl (.inl rfl) (pe_op op_mod (L2.pe_callTy call_int1 (by rfl) mint PyProof.Rows.boot_int (pa_cons (pe_op op_add (pe_dget hu (pv 0) pe_str (fun _ _ => rfl)) (pe_op op_mul (pe_dget hu (pv 0) pe_str (fun _ _ => rfl)) pe_int)) pa_nil)) pe_int))
      (pss_cons (ps_set (i := 3) sc_pick.nd rfl (.inl rfl) (pe_op op_mod (L2.pe_callTy call_int1 (by rfl) mint PyProof.Rows.boot_int (pa_cons (pe_op op_add (pe_op op_mul (pv 3) (pv 3)) (pe_op op_mul (pe_dget hu (pv 0) pe_str (fun _ _ => rfl)) pe_int)) pa_nil)) pe_int))
      (pss_cons (ps_dput hu (pv 0) pe_str (pv 3) rfl)
      (pss_one (ps_ret (pe_op op_mod (L2.pe_callTy call_int1 (by rfl) mint PyProof.Rows.boot_int (pa_cons (pe_op op_fdiv (pv 3) pe_int) pa_nil)) (pv 1)))))))))).run pins s _ H' D I ?_
      refine ⟨_, rfl, a, _, rfl, dg hat src_left, ?_⟩
      have em : 0 < (if many > 1 then many else 1) := by split <;> omega
      have em2 : (if many > 1 then many else 1) = max 1 many := by split <;> omega
      have fine : ∀ {H2 : Hp} {cells l m t r}, SrcAt H2 a c cells l m t → Off a c H H2 → 0 ≤ r → r < max 1 many → D.rt (.int r) H2 := fun hat f h0 h1 => by rw [eQ]; exact done hat f h0 h1
      have em3 : (if many > 1 then many else 1) < 1073741824 := by split <;> omega
      have bd : ∀ i : Int, 0 ≤ i % (if many > 1 then many else 1) ∧ i % (if many > 1 then many else 1) < max 1 many := fun i => em2 ▸ mod_lt' i em
      refine ⟨_, rfl, _, _, rfl, rfl, _, rfl, ?_⟩
      refine ite2 (fun h1 => ?_) (fun h1 => ?_)
      · refine iteT ?_
        refine ⟨_, rfl, _, rfl, _, _, rfl, _, _, rfl, rfl, ⟨em, em3⟩, _, rfl, a, _, rfl, dp hat put_left, ?_⟩
        exact ⟨_, rfl, .inl ⟨_, rfl, _, rfl, _, _, rfl, _, _, rfl, rfl, em, fine (hat.dput ne) off.upd (bd l).1 (bd l).2⟩⟩
      · refine ⟨_, rfl, _, _, rfl, rfl, _, rfl, ?_⟩
        refine ite2 (fun h2 => ?_) (fun h2 => ?_)
        · refine ⟨_, rfl, _, rfl, _, _, rfl, _, _, rfl, rfl, ⟨em, em3⟩, _, rfl, a, _, rfl, dp hat put_left, ?_⟩
          exact ⟨_, rfl, .inl ⟨_, rfl, _, rfl, _, _, rfl, _, _, rfl, rfl, em, fine (hat.dput ne) off.upd (bd l).1 (bd l).2⟩⟩
        · have hmany : 0 < many := by
            have : ¬ many < 2 := fun z => h1 (decide_eq_true z)
            omega
          have hx : max 1 many = many := by omega
          refine ⟨_, rfl, a, _, rfl, dg hat src_turn, _, _, rfl, rfl, _, rfl, a, _, rfl, dp hat put_turn, ?_⟩
          have hat2 := hat.dput ne (l' := l) (m' := m) (t' := t + 1)
          refine ⟨_, rfl, a, _, rfl, dg hat2 src_mixed, _, rfl, a, _, rfl, dg hat2 src_turn, _, _, rfl, rfl, .inr (by decide), _, _, rfl, rfl, .inl ⟨_, rfl, _, _, rfl, rfl, (by show (0 : Int) < 998244353; decide), ?_⟩⟩
          have z1 := mod_lt' (m + (t + 1) * 104729) (j := 998244353) (by decide)
          generalize (m + (t + 1) * 104729) % 998244353 = y at z1 ⊢
          refine ⟨_, rfl, _, rfl, _, _, rfl, rfl, .inl (by omega), _, rfl, a, _, rfl, dg hat2 src_turn, _, _, rfl, rfl, .inr (by decide), _, _, rfl, rfl, .inl ⟨_, rfl, _, _, rfl, rfl, (by show (0 : Int) < 2147483647; decide), ?_⟩⟩
          have z2 := mod_lt' (y * y + (t + 1) * 17) (j := 2147483647) (by decide)
          generalize (y * y + (t + 1) * 17) % 2147483647 = x at z2 ⊢
          refine ⟨_, rfl, _, rfl, a, _, rfl, dp hat2 put_mixed, ?_⟩
          have bx : ∀ i : Int, 0 ≤ i % many ∧ i % many < max 1 many := fun i => by rw [hx]; exact mod_lt' i hmany
          exact ⟨_, rfl, _, _, rfl, rfl, ⟨by decide, by decide⟩, .inl ⟨_, rfl, _, rfl, _, _, rfl, rfl, hmany, fine (hat2.dput ne) off.upd.upd (bx _).1 (bx _).2⟩⟩
    case main =>
      refine ⟨fun n σ H' => ∃ cells l m t, n = cells.length ∧ σ = [some (.ref a), some (.int many), none, none] ∧ SrcAt H' a c cells l m t ∧ Off a c H H', ⟨_, cells, l, m, t, rfl, rfl, hat, Off.refl⟩, ?_⟩
      rintro n σ H' ⟨cells, l, m, t, rfl, rfl, hat, off⟩
      refine ⟨_, rfl, _, _, rfl, rfl, _, rfl, ?_⟩
      refine ite2 (fun h1 => ?_) (fun h1 => ?_)
      · refine ⟨_, rfl, a, _, rfl, dg hat src_left, _, _, rfl, rfl, _, rfl, ?_⟩
        refine ite2 (fun h2 => ?_) (fun h2 => ?_)
        · refine ⟨_, rfl, a, _, rfl, dg hat src_cells, _, cells.length, rfl, .inl ⟨_, .of hat.2.1, by rw [List.length_map]⟩, _, _, rfl, rfl, _, rfl, ?_⟩
          refine ite2 (fun h3 => ?_) (fun h3 => ?_)
          · have hn : cells ≠ [] := fun e => by subst e; simp at h3
            obtain ⟨z, hz⟩ : ∃ z, cells[cells.length - 1]? = some z := ⟨cells[cells.length - 1]'(by have := List.length_pos_iff.mpr hn; omega), by simp⟩
            refine ⟨fun σ H' => ∃ cs l m t, cs.length < cells.length ∧ σ = [some (.ref a), some (.int many), none, none] ∧ SrcAt H' a c cs l m t ∧ Off a c H H', fun σ' H2 ⟨cs, l, m, t, h1, h2, h3, h4⟩ => ⟨cs.length, h1, cs, l, m, t, rfl, h2, h3, h4⟩, ?_⟩
            refine ⟨_, rfl, a, _, rfl, dg hat src_cells, .inl ⟨rfl, _, .of hat.2.1⟩, c, _, .int z, rfl, rfl, hat.2.1, by rw [List.length_map, List.getElem?_map, hz]; rfl, ?_⟩
            have hat2 : SrcAt (upd H' c (.lst ((cells.map V.int).dropLast))) a c cells.dropLast l m t := ⟨by rw [upd_ne ne]; exact hat.1, by rw [upd_same, List.map_dropLast], by rw [List.length_dropLast]; have := hat.2.2; omega⟩
            refine ⟨_, rfl, a, _, rfl, dp hat2 put_left, ?_⟩
            exact ⟨_, z, m, t, by rw [List.length_dropLast]; have := List.length_pos_iff.mpr hn; omega, rfl, hat2.dput ne, off.updc.upd⟩
          · exact ⟨rfl, cells, l, m, t, rfl, hat, off⟩
        · exact ⟨rfl, cells, l, m, t, rfl, hat, off⟩
      · exact ⟨rfl, cells, l, m, t, rfl, hat, off⟩

abbrev sSource : Stmt := topS 18
theorem sc_source : FnScope ["script", "mixed", "cell"] ["script"] (defScope sSource) := ⟨rfl, rfl, rfl, by decide +kernel, rfl, by decide +kernel, by decide +kernel⟩
theorem ok_source {f : Addr} {fd : FuncData} {k : Nat} (F : Fun K "_law_source" "_law_source" sSource f fd) (mabs : mg "abs" = none) (mint : mg "int" = none) : FnOk P w K mg base CX0 (k + 1) f fd ["script"] (spSrc K) := by
  refine F.ok sc_source (fun vs H Q E h => ?_) (fun cdv A outer s H vs Q E hr h => ?_)
  · obtain ⟨a, ns, rfl, _⟩ := h
    rfl
  · obtain ⟨o, ns, rfl, hS, hlen, fin⟩ := h
    have hu := hu_of hr
    refine ⟨_, pss_cons (ps_set (i := 1) sc_source.nd rfl (.inl rfl) pe_int)
      (pss_cons (ps_for PassesOwn.never rfl (pi_list (pv 0)) (pg_name (i := 2) sc_source.nd rfl (.inl rfl))
        (pss_one (ps_set (i := 1) sc_source.nd rfl (.inl rfl) (pe_op op_mod (L2.pe_callTy call_int1 (by rfl) mint PyProof.Rows.boot_int (pa_cons (pe_op op_add (pe_op op_add (pe_op op_mul (pv 1) pe_int) (pe_op op_mul (pv 2) pe_int)) pe_int) pa_nil)) pe_int))))
      (pss_one (ps_ret (pe_disp (pps_cons pe_str (pe_revL (pe_lc (own := [("cell", 2)]) (g := gName 2) (tt := tYes) rfl sc_source.nd (pi_list (pv 0)) (blkOk_by (N := ["script", "mixed", "cell"]) (sc := defScope sSource) (by decide +kernel)) (fun _ _ _ _ _ => pg_name (i := 2) sc_source.nd rfl (Or.inl rfl)) (fun _ _ _ _ _ => pts_nil)
        (fun _ _ _ _ _ => pe_callB call_abs (by rfl) mabs boot_abs (pa_cons (pv 2) pa_nil)))) (pps_cons pe_str pe_int (pps_cons pe_str (pv 1) (pps_cons pe_str pe_int pps_nil)))) (by rfl) (by rfl) (fun z => by cases z) (by decide))))), ?_⟩
    refine ⟨_, rfl, o, rfl, ⟨_, hS⟩, for_list (K := K) (a := o) (xs := ns.map V.int) (fun i σ H' => H' = H ∧ ∃ m v, σ = [some (.ref o), some (.int m), v]) ⟨rfl, 11, none, rfl⟩ (fun i σ H' _ e => e.1 ▸ hS) ?_ ?_⟩
    · rintro i y σ H' hy ⟨rfl, m, v, rfl⟩
      rw [List.getElem?_map] at hy
      cases e : ns[i]? with
      | none => rw [e] at hy; cases hy
      | some z =>
        rw [e] at hy
        cases hy
        exact ⟨_, rfl, _, _, rfl, rfl, .inr (by decide), _, rfl, _, _, rfl, rfl, .inr (by decide), _, _, rfl, rfl, _, _, rfl, rfl, .inl ⟨_, rfl, _, _, rfl, rfl, (by show (0 : Int) < 2147483629; decide), rfl, _, _, rfl⟩⟩
    · rintro σ H' ⟨rfl, m, v, rfl⟩
      refine fun a ha => ?_
      have k1 : ∀ {b u}, H' b = some u → upd H' a (.dK []) b = some u := fun e => by rw [upd_ne (ne_of_none e ha)]; exact e
      have hS1 : SqL K (upd H' a (.dK [])) o (ns.map V.int) := (show Same H' (upd H' a (.dK [])) from fun b u e => k1 e).seq hS
      refine ⟨_, rfl, o, rfl, ⟨_, hS1⟩, fun D hD => ?_⟩
      let ab : Int → Int := fun i => if i < 0 then -i else i
      have nDa : D ≠ a := fun e => by rw [e, upd_same] at hD; cases hD
      have hD0 : H' D = none := by rw [upd_ne nDa] at hD; exact hD
      refine lc_list (K := K) (a := o) (xs := ns.map V.int) (fun i H2 => H2 D = some (.lst (((ns.take i).map ab).map V.int)) ∧ H2 a = some (.dK []) ∧ (∀ b u, H' b = some u → H2 b = some u)) ⟨upd_same, by rw [upd_ne nDa.symm, upd_same], fun b u e => by rw [upd_ne (ne_of_none e hD0)]; exact k1 e⟩
        (fun i H2 _ e => (show Same H' H2 from e.2.2).seq hS) ?_ ?_
      · rintro i x H2 hx ⟨e1, e2, e3⟩
        rw [List.getElem?_map] at hx
        cases e : ns[i]? with
        | none => rw [e] at hx; cases hx
        | some z =>
          rw [e] at hx
          cases hx
          refine ⟨rfl, ?_⟩
          refine ⟨_, rfl, z, rfl, _, e1, ?_, ?_, ?_, ?_⟩
          · rw [List.length_map, List.length_map, List.length_take]
            exact Nat.lt_of_le_of_lt (Nat.min_le_right _ _) (Nat.lt_of_le_of_lt hlen (by decide))
          · rw [upd_same, List.take_add_one, e]
            simp [ab]
          · rw [upd_ne nDa.symm]; exact e2
          · intro b u q
            rw [upd_ne (ne_of_none q hD0)]
            exact e3 b u q
      · rintro H2 ⟨e1, e2, e3⟩
        rw [List.length_map, List.take_length] at e1
        refine ⟨D, _, rfl, .of e1, fun c hc => ?_⟩
        have nca : c ≠ a := fun e => by rw [e, e2] at hc; cases hc
        have hc0 : H' c = none := by
          cases q : H' c with
          | none => rfl
          | some u => rw [e3 c u q] at hc; cases hc
        refine ⟨_, rfl, by rw [upd_ne nca.symm]; exact e2, [(.inr "cells", .ref c), (.inr "left", .int 1), (.inr "mixed", .int m), (.inr "turn", .int 0)], rfl, by show 4 ≤ 15; decide, ?_⟩
        have em : mergeK [] [((Sum.inr "cells" : Key), V.ref c), (.inr "left", .int 1), (.inr "mixed", .int m), (.inr "turn", .int 0)] = srcL c (.int 1) (.int m) (.int 0) := by
          simp [mergeK, putK, srcL, kne1, kne2, kne3, kne4, kne5, kne6]
        rw [em]
        refine fin a c _ ha hc0 nca.symm (fun b u q => ?_) (SrcAt.ok (cells := ((ns.map ab).reverse)) (l := 1) (m := m) (t := 0) ⟨upd_same, ?_, ?_⟩)
        · rw [upd_ne (ne_of_none q ha), upd_ne (ne_of_none q hc0)]
          exact e3 b u q
        · rw [upd_ne nca, upd_same, List.map_reverse]
        · rw [List.length_reverse, List.length_map]; omega

abbrev sOf : Stmt := topS 20
theorem sc_law_of : FnScope ["source", "some"] ["source", "some"] (defScope sOf) := ⟨rfl, rfl, rfl, by decide +kernel, rfl, by decide +kernel, by decide +kernel⟩
theorem ok__law_of (A : At K mg "_law_of" sOf ["source", "some"]) (T : Bl mg) (Dpick : Df P w K mg base "_law_pick" 1 ["source", "many"] fsPick) : Df P w K mg base "_law_of" 2 ["source", "some"] fsOf := by
  refine A.df sc_law_of (fun S ds R h => ?_) fun f cdv A outer s H E S O ds R hr h => ?_
  · obtain ⟨a, c, d, xs, _, rfl, _⟩ := h; rfl
  obtain ⟨a, c, d, xs, rfl, rfl, hd, hne, hl, q⟩ := h
  have hp : 0 < xs.length := List.length_pos_iff.mpr hne
  have key : ∀ r : Int, 0 ≤ r → r < max 1 (xs.length : Int) → ∃ d, atI xs r = some d ∧ R d := fun r h0 h1 => by
    obtain ⟨z, h2, h3⟩ := atI_mem (xs := xs) (i := r) h0 (by omega)
    exact ⟨z, h2, q z h3⟩
  rcases hd with rfl | rfl
  · refine dss_cons ?_
    refine ds_ret ?_
    refine de_ix rfl ?_
    refine de_var 1 rfl ?_
    refine de_f Dpick (hr.mono (by decide)) ?_
    refine da_cons ?_
    refine de_var 0 rfl ?_
    refine da_cons ?_
    refine de_lenN xs.length rfl T.len ?_
    refine da_cons ?_
    refine de_var 1 rfl ?_
    refine da_nil ?_
    refine ⟨rfl, ?_⟩
    refine da_nil ?_
    refine ⟨_, _, _, rfl, rfl, by omega, fun r h0 h1 => key r h0 h1⟩
  · refine dss_cons ?_
    refine ds_ret ?_
    refine de_ix rfl ?_
    refine de_var 1 rfl ?_
    refine de_f Dpick (hr.mono (by decide)) ?_
    refine da_cons ?_
    refine de_var 0 rfl ?_
    refine da_cons ?_
    refine de_lenN xs.length rfl T.len ?_
    refine da_cons ?_
    refine de_var 1 rfl ?_
    refine da_nil ?_
    refine ⟨rfl, ?_⟩
    refine da_nil ?_
    refine ⟨_, _, _, rfl, rfl, by omega, fun r h0 h1 => key r h0 h1⟩

abbrev sMixed : Stmt := topS 21
theorem sc_law_mixed : FnScope ["source", "things", "rest", "lap"] ["source", "things"] (defScope sMixed) := ⟨rfl, rfl, rfl, by decide +kernel, rfl, by decide +kernel, by decide +kernel⟩
theorem ok__law_mixed (A : At K mg "_law_mixed" sMixed ["source", "things"]) (T : Bl mg) (Dpick : Df P w K mg base "_law_pick" 1 ["source", "many"] fsPick) : Df P w K mg base "_law_mixed" 2 ["source", "things"] fsMixed := by
  refine A.df sc_law_mixed (fun S ds R h => ?_) fun f cdv A outer s H E S O ds R hr h => ?_
  · obtain ⟨a, c, d, xs, _, rfl, _⟩ := h; rfl
  obtain ⟨a, c, d, xs, rfl, rfl, hd, hl, q⟩ := h
  refine dss_cons ?_
  refine ds_setF 2 sc_law_mixed.nd ?_
  refine df_list rfl T.list ?_
  refine da_cons ?_
  refine de_var 1 rfl ?_
  refine da_nil ?_
  rename_i Θ
  have key : ∀ o : Addr, DSs (cxOf CX0 P w K mg base ["source", "things", "rest", "lap"] "_law_mixed" (defScope sMixed) f cdv A outer s H E).nox ⟨K, some (a, c), H, O, [], Θ⟩ [.dat (.ref a), .dat d, .own o xs, .any] ((defBody sMixed).drop 1) { nx := fun _ => R .non, rt := R } := fun o => by
    refine dss_cons ?_
    refine ds_retPop (y := "lap") (o := o) (ds0 := xs) 2 3 ?hc ?nd ?hb ?hg ?ho ?hj ?hij ?hl ?_ ?_ ?hq ?hm
    case hc => rfl
    case nd => exact sc_law_mixed.nd
    case hb => exact (show blkC ["source", "things", "rest", "lap"] (defScope sMixed) _ _ = true by decide +kernel)
    case hg => exact (fun _ _ _ _ _ => pg_name (i := 3) sc_law_mixed.nd rfl (Or.inl rfl))
    case ho => rfl
    case hj => rfl
    case hij => decide
    case hl => exact hl
    case hq => exact q
    case hm => exact (fun s H C cl fp t pe => pe_bm PySem.F.plainAttrs_list PySem.F.slot_list_pop PySem.F.type_list_pop mt_popAt (L2.pe_var rfl (Or.inr (Or.inl rfl)) (by decide) (by decide)) (pa_cons pe pa_nil))
    · refine di_rng1 T.range ?_
      refine da_cons ?_
      refine de_lenN xs.length rfl T.len ?_
      refine da_cons ?_
      refine de_own 2 rfl ?_
      refine da_nil ?_
      refine ⟨rfl, ?_⟩
      refine da_nil ?_
      refine ⟨⟨by omega, by omega, by omega, by omega⟩, ?_⟩
      show ((rg 0 (xs.length : Int)).map D.int).length = _
      rw [List.length_map, rg_length]; omega
    · intro q P ds d h0 h1 s0 H0 C0 cl0 fp0
      refine de_f Dpick (hr.mono (by decide)) ?_
      refine da_cons ?_
      refine de_var 0 rfl ?_
      refine da_cons ?_
      refine de_lenN ds.length rfl T.len ?_
      refine da_cons ?_
      refine de_own 2 rfl ?_
      refine da_nil ?_
      refine ⟨rfl, ?_⟩
      refine da_nil ?_
      refine ⟨_, _, _, rfl, rfl, by omega, fun r h0 h1 => ⟨r.toNat, by congr 1; omega, by omega⟩⟩
  rcases hd with rfl | rfl
  · exact key
  · exact key

abbrev sTG : Stmt := clsInit (topS 2)
theorem nsc_TG : NdefX.NScope ["self", "number", "__class__"] ["self", "number"] ["__class__"] (defScope sTG) := NdefX.nscope_by (by decide +kernel)
theorem ok_TG {CX : CXT} {k : Nat} {C fI cc cda : Addr} {dV kV doc pm ct oc : Value} {an od : Option Addr} {osl : Array (Option Value)} {ccl cl : Value} {cdd cld : Option Addr} {ccs csl : Array (Option Value)} {cdD : ClassData} {vs0 : Array Value} {file : Str} {tf : Tok} (T : OexC K C)
    (hf : K.lookup fI = some ⟨oc, od, .func (PySem.W.fnX "__init__" "TooGreat.__init__" (defArgs sTG) (defBody sTG) (defScope sTG) [("__class__", cc)] dV kV doc pm an (.ref cda) ct), osl⟩)
    (hcd : PySem.W.codeIn K (.ref cda) "TooGreat.__init__" = true)
    (hcell : K.lookup cc = some ⟨cl, cld, .cell (some (.ref C)), csl⟩) (hD : PySem.W.clsIn K C = some cdD) (hsub : PySem.W.mroIn K C (.ref C) = some true) (hsuper : PySem.W.nsIn K mainGlobals "super" = some none)
    (hcode : K.lookup cda = some ⟨ccl, cdd, .fields vs0, ccs⟩) (hvs : vs0[2]? = some (.str file tf)) (hfile : ((P.main.file : Str) == file) = true) (htop : (P.main.scope.names.lookup ("super" : Str)).isSome = false)
    (hini : PySem.W.alongIn K "__init__" ((cdD.mro.dropWhile (· != .ref C)).drop 1) = some (some (.builtin "ValueError.__init__")))
    (hVE : PySem.W.subIn K (.ref C) (.type "ValueError") = some true) (hop : PySem.W.nsIn K cStatics "thirdparty.any" = some none) (hno : PySem.W.findIn K (.ref C) "number" = some none) :
    FnOk P w K mg base CX (k + 1) fI (PySem.W.fnX "__init__" "TooGreat.__init__" (defArgs sTG) (defBody sTG) (defScope sTG) [("__class__", cc)] dV kV doc pm an (.ref cda) ct) ["self", "number"] (spInit C) := by
  refine ok_init T hf hcd nsc_TG rfl rfl rfl hcell hD hsub hsuper hcode hvs hfile htop rfl hini hVE hop ?len ?body (fun _ => rfl) (fun _ => rfl) (fun _ => rfl) (fun _ => rfl)
  case len =>
    rintro vs H Q E ⟨a, v, rfl, _⟩
    rfl
  case body =>
    rintro A outer s H vs Q E hr ⟨a, v, rfl, ha, h⟩
    refine ⟨a, _, _, rfl, ha, pa_cons (pe_var (i := 1) rfl (.inl rfl) (by decide) (by decide)) pa_nil rfl, pss_one (ps_ost (pe_var (i := 0) rfl (.inl rfl) (by decide) (by decide)) (pe_var (i := 1) rfl (.inl rfl) (by decide) (by decide)) rfl), ?_⟩
    exact ⟨v, rfl, by simp, ha, v, rfl, .ref a, rfl, a, C, rfl, T, hno, .inl ⟨ha, fun dx n ne => h dx n ne⟩⟩
theorem tg_mk {C fI cc cda : Addr} {kV doc pm ct oc : Value} {an od : Option Addr} {osl : Array (Option Value)} {ccl cl : Value} {cdd cld : Option Addr} {ccs csl : Array (Option Value)} {cdD : ClassData} {vs0 : Array Value} {tf : Tok}
    {nm q : Str} {N : Addr} {bs bm : List Value} {sn : List Str} {sub : List Value} {ab : Bool} {col : Option Bool} {dd : Option Addr} {k0 k1 k2 k3 k5 : Option Value}
    {h : Heap} (X : K.In h) (G : h.Ns mainGlobals mg) (hm : PySem.W.nsIn K mainGlobals "TooGreat" = some (some (.ref C)))
    (hC : K.lookup C = some (excClassObj nm q C N bs bm true sn sub ab col dd k0 k1 k2 k3 k5 "ValueError.__new__")) (hbm : PySem.HandSPX.refsVE bm = true)
    (hsa : PySem.W.findIn K (.ref C) "__setattr__" = some (some (.builtin "object.__setattr__"))) (hex : PySem.W.subIn K (.ref C) (.type "BaseException") = some true) (hty : PySem.W.typeIn K (.ref C) = some (.type "type")) (hkC : PySem.W.keepIn K (.ref C) = true)
    (hin : PySem.W.findIn K (.ref C) "__init__" = some (some (.ref fI))) (htI : PySem.W.typeIn K (.ref fI) = some (.type "function"))
    (hga : PySem.W.findIn K (.ref C) "__getattribute__" = some (some (.builtin "BaseException.__getattribute__"))) (hgg : PySem.W.findIn K (.ref C) "__getattr__" = some none) (hhd : PySem.W.hasDictIn K C = true) (hexm : PySem.W.exmOne K (.ref C) (.ref C) = some true)
    (hf : K.lookup fI = some ⟨oc, od, .func (PySem.W.fnX "__init__" "TooGreat.__init__" (defArgs sTG) (defBody sTG) (defScope sTG) [("__class__", cc)] .none kV doc pm an (.ref cda) ct), osl⟩)
    (hcd : PySem.W.codeIn K (.ref cda) "TooGreat.__init__" = true)
    (hcell : K.lookup cc = some ⟨cl, cld, .cell (some (.ref C)), csl⟩) (hD : PySem.W.clsIn K C = some cdD) (hsub : PySem.W.mroIn K C (.ref C) = some true) (hsuper : PySem.W.nsIn K mainGlobals "super" = some none)
    (hcode : K.lookup cda = some ⟨ccl, cdd, .fields vs0, ccs⟩) (hvs : vs0[2]? = some (.str P.main.file tf)) (htop : (P.main.scope.names.lookup ("super" : Str)).isSome = false)
    (hini : PySem.W.alongIn K "__init__" ((cdD.mro.dropWhile (· != .ref C)).drop 1) = some (some (.builtin "ValueError.__init__")))
    (hVE : PySem.W.subIn K (.ref C) (.type "ValueError") = some true) (hop : PySem.W.nsIn K cStatics "thirdparty.any" = some none) (hno : PySem.W.findIn K (.ref C) "number" = some none) : TG P w K mg base "TooGreat" C := by
  have T : OexC K C := ⟨⟨nm, q, N, bs, bm, sn, sub, ab, col, dd, k0, k1, k2, k3, k5, hC, hbm⟩, hsa, hex, hty, hkC⟩
  exact ⟨PySem.W.mg_of X G hm, T, ⟨fI, _, hin, htI, ok_TG T hf hcd hcell hD hsub hsuper hcode hvs (by simp) htop hini hVE hop hno, .all fun us hl => match us, hl with | [_, _], _ => rfl⟩, ⟨hga, hgg, hex, hhd⟩, hno, hexm⟩

abbrev sTold : Stmt := topS 24
theorem gives_told {X : Cx} {C : Addr} {q : Str} {g : Addr} {cdg : Value} (T : TG X.prog X.w X.K X.mg X.base "TooGreat" C) :
    LamX.GivesTo X ["call", "found", "error"] "_law_told" (defScope sTold) g cdg (defBody sTold) "call" q (TTw C "told" "great") := by
  intro f c' s H Q tl act hc h
  have nd : (["call", "found", "error"] : List Str).Nodup := by decide +kernel
  refine ⟨_, pss_cons (ps_try_as (X := (cxOf C8.CX0 X.prog X.w X.K X.mg X.base ["call", "found", "error"] "_law_told" (defScope sTold) g cdg X.A X.stack s H C8.E0).nox) (i := 2) (c := .ref C) (Wout := fun _ _ _ _ => False)
    (tb := fun W D σ H => ∃ Ech : XK, (∀ cls d σ' H', Ech cls d H' → σ'.length = 3 → W cls d σ' H') ∧ σ = [some (.ref f), none, none] ∧ H c' = some (LamX.CodeO c' q) ∧ tl Ech H fun v H' => D.nx [some (.ref f), some v, none] H')
    rfl rfl nd rfl rfl ⟨rfl, by decide, .inl T.at_⟩ L2.takes0 (fun W pn xe tk _ => ?_) (fun a oe cls d pn hz hf => pss_one (ps_ret (pe_tup (pa_cons pe_str (pa_cons (pe_xf T.xf T.num hz hf (pe_var (i := 2) rfl (.inl rfl) (by decide) (by decide))) pa_nil rfl) rfl))))) (pss_one (ps_ret (pe_tup (pa_cons pe_str (pa_cons (pe_var (i := 1) rfl (.inl rfl) (by decide) (by decide)) pa_nil rfl) rfl)))), ?_⟩
  · refine ⟨fun pins s' σ H' D I ⟨Ech, hW, h1, h2, h3⟩ => ?_⟩
    subst h1
    exact (pss_one (ps_set (i := 1) nd rfl (.inl rfl) (act _ pn xe Ech _ _ (takes_len tk) fun cls d σ' H' z hl => hW cls d σ' H' z hl))).run pins s' _ H' D I ⟨rfl, h2, h3⟩
  · refine ⟨fun cls d H' => ∃ dd n, cls = .ref C ∧ d = some dd ∧ H' dd = some (.xd [("number", .int n)]) ∧ ∀ p, H' p = none → Q (.ref p) (upd H' p (.tup [.str "great", .int n])), ?_, rfl, hc, cast (congrArg (tl _ H) (funext fun v => funext fun H' => propext (Iff.intro ?_ ?_))) h⟩
    · rintro cls d σ' H' ⟨dd, n, rfl, rfl, hx, hq⟩ hl
      refine ⟨true, T.exm, fun _ a na => ?_, fun z => nomatch z⟩
      refine ⟨.ref a, by rw [List.getElem?_set_self (by omega)], rfl, rfl, dd, _, .int n, rfl, hx, rfl, by show 2 ≤ sizeLine; rw [sizeLine_eq]; decide, fun p hp => hq p hp⟩
    · intro z
      exact ⟨v, rfl, by show 2 ≤ sizeLine; rw [sizeLine_eq]; decide, fun p hp => z p hp⟩
    · rintro ⟨v', e, _, z⟩
      cases e
      exact z
theorem told_of {C : Addr} (A : At K mg "_law_told" sTold ["call"]) (T : TG P w K mg base "TooGreat" C) : Told P w K mg base "_law_told" "call" C "told" "great" := by
  obtain ⟨g, fd, F, m, b⟩ := A.ex
  obtain ⟨⟨oc, od, kV, doc, pm, an, cdv, ct, osl, rfl, lk, hcd⟩, kp⟩ := F
  exact ⟨g, sTold, ["call", "found", "error"], oc, od, an, kV, doc, pm, cdv, ct, osl, m, kp, lk, hcd, b, ⟨rfl, rfl, rfl, by decide +kernel, rfl, by decide +kernel, by decide +kernel⟩, rfl, .inl rfl, fun X q h1 h2 h3 h4 h5 => by subst h1 h2 h3 h4 h5; exact gives_told T⟩

abbrev s_place_at : Stmt := topS 12
theorem sc_place_at : FnScope ["window", "place", "many"] ["window", "place"] (defScope s_place_at) := ⟨rfl, rfl, rfl, by decide +kernel, rfl, by decide +kernel, by decide +kernel⟩
theorem ok_place_at (A : At K mg "place_at" s_place_at ["window", "place"]) (T : Bl mg) : Df P w K mg base "place_at" 1 ["window", "place"] fsAt := by
  refine A.df sc_place_at (fun S ds R h => ?_) fun f cdv A outer s H E S O ds R hr h => ?_
  · obtain ⟨w, x, rfl, _⟩ := h; rfl
  obtain ⟨w, x, rfl, W, q⟩ := h
  have h0 : (0 : Int) < w.length := by have := W.pos; omega
  refine dss_cons ?_
  refine ds_set 2 sc_place_at.nd ?_
  refine de_lenN w.length rfl T.len ?_
  refine da_cons ?_
  refine de_var 0 rfl ?_
  refine da_nil ?_
  refine ⟨by simp [lenN], ?_⟩
  refine dss_cons ?_
  refine ds_ret ?_
  refine de_sub ?_
  refine de_add rfl ?_
  refine de_ix rfl ?_
  refine de_var 0 rfl ?_
  refine de_mod ?_
  refine de_var 1 rfl ?_
  refine de_var 2 rfl ?_
  refine ⟨h0, ?_⟩
  apply mk_ix
  · exact atI_ints (md W x).1 (md W x).2
  refine de_var 1 rfl ?_
  refine ⟨trivial, ?_⟩
  refine de_mod ?_
  refine de_var 1 rfl ?_
  refine de_var 2 rfl ?_
  refine ⟨h0, ?_⟩
  refine ⟨trivial, ?_⟩
  exact q

/-! place_back -/
abbrev s_place_back : Stmt := topS 13
theorem sc_place_back : FnScope ["window", "place", "many", "rest", "number"] ["window", "place"] (defScope s_place_back) := ⟨rfl, rfl, rfl, by decide +kernel, rfl, by decide +kernel, by decide +kernel⟩
theorem ok_place_back (A : At K mg "place_back" s_place_back ["window", "place"]) (T : Bl mg) : Df P w K mg base "place_back" 1 ["window", "place"] fsBack := by
  refine A.df sc_place_back (fun S ds R h => ?_) fun f cdv A outer s H E S O ds R hr h => ?_
  · obtain ⟨w, y, rfl, _⟩ := h; rfl
  obtain ⟨w, y, rfl, W, hl, q⟩ := h
  have hn : (0 : Int) < w.length := by have := W.pos; omega
  refine dss_cons ?_
  refine ds_set 2 sc_place_back.nd ?_
  refine de_lenN w.length rfl T.len ?_
  refine da_cons ?_
  refine de_var 0 rfl ?_
  refine da_nil ?_
  refine ⟨by simp [lenN], ?_⟩
  refine dss_cons ?_
  refine ds_set 3 sc_place_back.nd ?_
  refine de_ix rfl ?_
  refine de_lc (own := [("number", 4)]) (g := gName 4) rfl sc_place_back.nd (show blkC ["window", "place", "many", "rest", "number"] (defScope s_place_back) _ _ = true by decide +kernel) (fun _ _ _ _ _ => pg_name (i := 4) sc_place_back.nd rfl (Or.inl rfl)) ?_ (fun a h => walk_own h)
  refine dlc_filter (α := Nat) (fun i => D.int i) (fun i => decide ((w.getD i 0 - y) % w.length = 0)) (fun i => D.int i) ?_
  refine di_rng1 T.range ?_
  refine da_cons ?_
  refine de_var 2 rfl ?_
  refine da_nil ?_
  refine ⟨smallRg (by omega) (by omega) (by omega) (by omega), ?_⟩
  refine ⟨List.range w.length, by rw [rg_cells]; unfold cells; rw [List.map_map]; rfl, by rw [List.length_range]; omega, fun q P i hi => ?_, ?_⟩
  · rw [List.mem_range] at hi
    refine dgw_name 4 ?_
    intro s0 H0 C0 cl0 fp0
    refine dt_eqS ?_
    refine de_mod ?_
    refine de_sub ?_
    refine de_ix rfl ?_
    refine de_var 0 rfl ?_
    refine de_var 4 rfl ?_
    refine mk_ix (atI_ints (by omega) (by omega)) ?_
    refine de_var 1 rfl ?_
    refine ⟨trivial, ?_⟩
    refine de_var 2 rfl ?_
    refine ⟨hn, ?_⟩
    refine de_int ?_
    refine ⟨_, rfl, ?_⟩
    refine ⟨rfl, fun hp => ?_⟩
    intro s1 H1 C1 cl1 fp1
    refine de_var 4 rfl ?_
    rfl
  refine de_int ?_
  obtain ⟨i, hi, _, ei⟩ := bk_list W y
  have er : bkr w y = i := by unfold bkr; rw [ei]; rfl
  rw [ei]
  refine mk_ix (d := .int i) rfl ?_
  refine dss_cons ?_
  refine ds_ret ?_
  refine de_sub ?_
  refine de_add rfl ?_
  refine de_var 3 rfl ?_
  refine de_var 1 rfl ?_
  refine ⟨trivial, ?_⟩
  refine de_ix rfl ?_
  refine de_var 0 rfl ?_
  refine de_var 3 rfl ?_
  refine mk_ix (atI_ints (by omega) (by omega)) ?_
  refine ⟨trivial, ?_⟩
  have eb : bk w y = (i : Int) + y - w.getD ((i : Int)).toNat 0 := by unfold bk; rw [er]
  rw [eb] at q
  exact q

/-! push_told -/
abbrev s_push_told : Stmt := topS 15
theorem sc_push_told : FnScope ["window", "number"] ["window"] (defScope s_push_told) := ⟨rfl, rfl, rfl, by decide +kernel, rfl, by decide +kernel, by decide +kernel⟩
theorem ok_push_told (A : At K mg "push_told" s_push_told ["window"]) (T : Bl mg) : Df P w K mg base "push_told" 1 ["window"] fsPush := by
  refine A.df sc_push_told (fun S ds R h => ?_) fun f cdv A outer s H E S O ds R hr h => ?_
  · obtain ⟨w, rfl, _⟩ := h; rfl
  obtain ⟨w, rfl, h0, hl, q⟩ := h
  refine dss_cons ?_
  refine ds_ret ?_
  refine de_sum rfl rfl T.sum ?_
  refine da_cons ?_
  refine de_lc (own := [("number", 1)]) (g := gName 1) rfl sc_push_told.nd (show blkC ["window", "number"] (defScope s_push_told) _ _ = true by decide +kernel) (fun _ _ _ _ _ => pg_name (i := 1) sc_push_told.nd rfl (Or.inl rfl)) ?_ (fun a h => walk_own h)
  refine dlc_map (α := Int) D.int (fun x => D.int (x / w.length)) ?_
  refine di_seq rfl ?_
  refine de_var 0 rfl ?_
  refine ⟨w, rfl, by omega, fun q P x hx => ?_, ?_⟩
  · refine dgw_name 1 ?_
    intro s0 H0 C0 cl0 fp0
    refine de_div ?_
    refine de_var 1 rfl ?_
    refine de_lenN w.length rfl T.len ?_
    refine da_cons ?_
    refine de_var 0 rfl ?_
    refine da_nil ?_
    refine ⟨by simp [lenN], ?_⟩
    refine ⟨small_div (by omega) (by omega), ?_⟩
    rfl
  refine da_nil ?_
  refine ⟨w.map (· / (w.length : Int)), by rw [List.map_map]; rfl, ?_⟩
  exact q

/-! is_long -/
abbrev s_is_long : Stmt := topS 7
theorem sc_is_long : FnScope ["number"] ["number"] (defScope s_is_long) := ⟨rfl, rfl, rfl, by decide +kernel, rfl, by decide +kernel, by decide +kernel⟩
theorem ok_is_long (A : At K mg "is_long" s_is_long ["number"]) (T : Bl mg) (C : Lines mg) : Df P w K mg base "is_long" 1 ["number"] fsLong := by
  refine A.df sc_is_long (fun S ds R h => ?_) fun f cdv A outer s H E S O ds R hr h => ?_
  · obtain ⟨x, rfl, _⟩ := h; rfl
  obtain ⟨x, rfl, hx, q⟩ := h
  obtain ⟨t1, c1⟩ := C.bits
  obtain ⟨t2, c2⟩ := C.figs
  refine dss_cons ?_
  refine ds_ret ?_
  refine de_or ?_
  refine de_gt ?_
  refine de_bits ?_
  refine de_var 0 rfl ?_
  refine ⟨_, rfl, ?_⟩
  refine de_globI c1 ?_
  refine ⟨false, fun hb => ?_, ?_⟩
  · refine de_one ?_
    refine de_gt ?_
    refine de_len rfl T.len ?_
    refine da_cons ?_
    refine de_strI T.str ?_
    refine da_cons ?_
    refine de_abs T.abs ?_
    refine da_cons ?_
    refine de_var 0 rfl ?_
    refine da_nil ?_
    refine da_nil ?_
    refine ⟨log_few hx, ?_⟩
    refine da_nil ?_
    have h3 := figs_few hx
    refine ⟨Nat.le_trans h3 (by decide), ?_⟩
    refine de_globI c2 ?_
    have e : decide ((300 : Int) < ((Str.ofString (toString (if x < 0 then -x else x))).length : Nat)) = false := decide_eq_false (by omega)
    exact congrArg D.bl e
  have h4 := bits_few hx
  have e : decide ((997 : Int) < (Builtin.Int.intBits x : Nat)) = false := decide_eq_false (by omega)
  show R (.bl (decide ((997 : Int) < (Builtin.Int.intBits x : Nat)) || false))
  rw [e]
  exact q

/-! not_long -/
abbrev s_not_long : Stmt := topS 8
theorem sc_not_long : FnScope ["numbers", "number"] ["numbers"] (defScope s_not_long) := ⟨rfl, rfl, rfl, by decide +kernel, rfl, by decide +kernel, by decide +kernel⟩
theorem ok_not_long (A : At K mg "not_long" s_not_long ["numbers"]) (T : Bl mg) (Dis_long : Df P w K mg base "is_long" 1 ["number"] fsLong) : Df P w K mg base "not_long" 2 ["numbers"] fsNotLong := by
  refine A.df sc_not_long (fun S ds R h => ?_) fun f cdv A outer s H E S O ds R hr h => ?_
  · obtain ⟨d, xs, rfl, _⟩ := h; rfl
  obtain ⟨d, xs, rfl, hd, hl, hx, q⟩ := h
  refine dss_cons ?_
  refine ds_if ?_
  refine dt_of rfl ?_
  refine de_any rfl T.any ?_
  refine da_cons ?_
  refine de_lc (own := [("number", 1)]) (g := gName 1) rfl sc_not_long.nd (show blkC ["numbers", "number"] (defScope s_not_long) _ _ = true by decide +kernel) (fun _ _ _ _ _ => pg_name (i := 1) sc_not_long.nd rfl (Or.inl rfl)) ?_ (fun a h => walk_own h)
  refine dlc_map (α := Int) D.int (fun x => D.bl false) ?_
  refine di_seq rfl ?_
  refine de_var 0 rfl ?_
  rcases hd with rfl | rfl
  · refine ⟨xs, rfl, by omega, fun q P x hm => ?_, ?_⟩
    · refine dgw_name 1 ?_
      intro s0 H0 C0 cl0 fp0
      refine de_f Dis_long (hr.mono (by decide)) ?_
      refine da_cons ?_
      refine de_var 1 rfl ?_
      refine da_nil ?_
      exact ⟨_, rfl, hx x hm, rfl⟩
    refine da_nil ?_
    refine ⟨xs.map fun _ => false, by rw [List.map_map]; rfl, ?_⟩
    refine iteFf (by simp) ?_
    refine dss_nil ?_
    refine dss_cons ?_
    refine ds_ret ?_
    refine de_var 0 rfl ?_
    exact q
  · refine ⟨xs, rfl, by omega, fun q P x hm => ?_, ?_⟩
    · refine dgw_name 1 ?_
      intro s0 H0 C0 cl0 fp0
      refine de_f Dis_long (hr.mono (by decide)) ?_
      refine da_cons ?_
      refine de_var 1 rfl ?_
      refine da_nil ?_
      exact ⟨_, rfl, hx x hm, rfl⟩
    refine da_nil ?_
    refine ⟨xs.map fun _ => false, by rw [List.map_map]; rfl, ?_⟩
    refine iteFf (by simp) ?_
    refine dss_nil ?_
    refine dss_cons ?_
    refine ds_ret ?_
    refine de_var 0 rfl ?_
    exact q

/-! window_made -/
abbrev s_window_made : Stmt := topS 10
theorem sc_window_made : FnScope ["window"] ["window"] (defScope s_window_made) := ⟨rfl, rfl, rfl, by decide +kernel, rfl, by decide +kernel, by decide +kernel⟩
theorem ok_window_made (A : At K mg "window_made" s_window_made ["window"]) (T : Bl mg) (Dnot_long : Df P w K mg base "not_long" 2 ["numbers"] fsNotLong) : Df P w K mg base "window_made" 3 ["window"] fsNotLong := by
  refine A.df sc_window_made (fun S ds R h => ?_) fun f cdv A outer s H E S O ds R hr h => ?_
  · obtain ⟨d, xs, rfl, _⟩ := h; rfl
  obtain ⟨d, xs, rfl, hd, hl, hx, q⟩ := h
  refine dss_cons ?_
  refine ds_ret ?_
  refine de_f Dnot_long (hr.mono (by decide)) ?_
  refine da_cons ?_
  refine de_var 0 rfl ?_
  refine da_nil ?_
  exact ⟨d, xs, rfl, hd, hl, hx, q⟩

/-! window_pushed -/
abbrev s_window_pushed : Stmt := topS 16
theorem sc_window_pushed : FnScope ["window", "much", "number"] ["window", "much"] (defScope s_window_pushed) := ⟨rfl, rfl, rfl, by decide +kernel, rfl, by decide +kernel, by decide +kernel⟩
theorem ok_window_pushed (A : At K mg "window_pushed" s_window_pushed ["window", "much"]) (T : Bl mg) (Dwindow_made : Df P w K mg base "window_made" 3 ["window"] fsNotLong) : Df P w K mg base "window_pushed" 4 ["window", "much"] fsPushed := by
  refine A.df sc_window_pushed (fun S ds R h => ?_) fun f cdv A outer s H E S O ds R hr h => ?_
  · obtain ⟨w, m, rfl, _⟩ := h; rfl
  obtain ⟨w, m, rfl, hl, hb, q⟩ := h
  refine dss_cons ?_
  refine ds_ret ?_
  refine de_f Dwindow_made (hr.mono (by decide)) ?_
  refine da_cons ?_
  refine de_tuple (c1 := false) rfl T.tuple (.inl rfl) ?_
  refine da_cons ?_
  refine de_lc (own := [("number", 2)]) (g := gName 2) rfl sc_window_pushed.nd (show blkC ["window", "much", "number"] (defScope s_window_pushed) _ _ = true by decide +kernel) (fun _ _ _ _ _ => pg_name (i := 2) sc_window_pushed.nd rfl (Or.inl rfl)) ?_ (fun a h => walk_own h)
  refine dlc_map (α := Int) D.int (fun x => D.int (x + m)) ?_
  refine di_seq rfl ?_
  refine de_var 0 rfl ?_
  refine ⟨w, rfl, by omega, fun q P x hx => ?_, ?_⟩
  · refine dgw_name 2 ?_
    intro s0 H0 C0 cl0 fp0
    refine de_add rfl ?_
    refine de_var 2 rfl ?_
    refine de_var 1 rfl ?_
    refine ⟨trivial, ?_⟩
    rfl
  refine da_nil ?_
  refine da_nil ?_
  exact ⟨_, w.map (· + m), rfl, .inl (by rw [List.map_map]; rfl), by rw [List.length_map]; exact hl, fun x hx => by
    obtain ⟨y, hy, rfl⟩ := List.mem_map.mp hx
    exact hb y hy, (by rw [List.map_map] at q; exact q)⟩

/-! is_long, of great ones too -/
theorem okx_is_long (A : At K mg "is_long" s_is_long ["number"]) (T : Bl mg) (C : Lines mg) : Dx P w K mg base "is_long" 1 ["number"] fsLong2 := by
  refine A.df sc_is_long (fun S ds R h => ?_) fun f cdv A outer s H E S O ds R hr h => ?_
  · obtain ⟨x, rfl, _⟩ := h; rfl
  obtain ⟨x, rfl, hx, q⟩ := h
  obtain ⟨t1, c1⟩ := C.bits
  obtain ⟨t2, c2⟩ := C.figs
  refine dss_cons ?_
  refine ds_ret ?_
  refine de_or ?_
  refine de_gt ?_
  refine de_bits ?_
  refine de_var 0 rfl ?_
  refine ⟨_, rfl, ?_⟩
  refine de_globI c1 ?_
  refine ⟨decide (10 ^ 300 ≤ x.natAbs), fun hb => ?_, ?_⟩
  · have hb' : decide ((997 : Int) < (Builtin.Int.intBits x : Nat)) = false := hb
    have few : x.natAbs < 2 ^ 997 := bits_iff.mp (by have := of_decide_eq_false hb'; omega)
    refine de_one ?_
    refine de_gt ?_
    refine de_len rfl T.len ?_
    refine da_cons ?_
    refine de_strI T.str ?_
    refine da_cons ?_
    refine de_abs T.abs ?_
    refine da_cons ?_
    refine de_var 0 rfl ?_
    refine da_nil ?_
    refine da_nil ?_
    refine ⟨log_997 few, ?_⟩
    refine da_nil ?_
    have h3 := figs_301 few
    refine ⟨Nat.le_trans h3 (by decide), ?_⟩
    refine de_globI c2 ?_
    exact congrArg D.bl long_figs
  show R (.bl (decide ((997 : Int) < (Builtin.Int.intBits x : Nat)) || decide (10 ^ 300 ≤ x.natAbs)))
  by_cases h : (997 : Int) < (Builtin.Int.intBits x : Nat)
  · rw [decide_eq_true h, Bool.true_or]
    rw [decide_eq_true (long_bits h)] at q
    exact q
  · rw [decide_eq_false h, Bool.false_or]
    exact q

/-! not_long raises -/
theorem oke_not_long {C : Addr} (A : At K mg "not_long" s_not_long ["numbers"]) (T : Bl mg) (TGr : TG P w K mg base "TooGreat" C) (N : LongN mg) (Dis_long : Dx P w K mg base "is_long" 1 ["number"] fsLong2) : De P w K mg base C "not_long" 3 ["numbers"] feNotLong := by
  refine A.de sc_not_long (fun S ds n h => ?_) fun f cdv A outer s H E S O ds n hr h L => ?_
  · obtain ⟨_, d, xs, rfl, _⟩ := h; rfl
  obtain ⟨rfl, d, xs, rfl, hd, hl, hx, big⟩ := h
  obtain ⟨t0, c0⟩ := N.num
  have hany : (xs.map fun x => decide (10 ^ 300 ≤ x.natAbs)).any id = true := by
    obtain ⟨x, hm, h⟩ := big
    rw [List.any_eq_true]
    exact ⟨_, List.mem_map.mpr ⟨x, hm, rfl⟩, by simpa using h⟩
  refine dss_cons ?_
  refine ds_if ?_
  refine dt_of rfl ?_
  refine de_any rfl T.any ?_
  refine da_cons ?_
  refine de_lc (own := [("number", 1)]) (g := gName 1) rfl sc_not_long.nd (show blkC ["numbers", "number"] (defScope s_not_long) _ _ = true by decide +kernel) (fun _ _ _ _ _ => pg_name (i := 1) sc_not_long.nd rfl (Or.inl rfl)) ?_ (fun a h => walk_own h)
  refine dlc_map (α := Int) D.int (fun x => D.bl (decide (10 ^ 300 ≤ x.natAbs))) ?_
  refine di_seq rfl ?_
  refine de_var 0 rfl ?_
  rcases hd with rfl | rfl
  · refine ⟨xs, rfl, by omega, fun q P x hm => ?_, ?_⟩
    · refine dgw_name 1 ?_
      intro s0 H0 C0 cl0 fp0
      refine de_f Dis_long (hr.mono (by decide)) ?_
      refine da_cons ?_
      refine de_var 1 rfl ?_
      refine da_nil ?_
      exact ⟨_, rfl, hx x hm, rfl⟩
    refine da_nil ?_
    refine ⟨xs.map fun x => decide (10 ^ 300 ≤ x.natAbs), by rw [List.map_map]; rfl, ?_⟩
    refine iteTt hany ?_
    refine dss_cons ?_
    refine ds_raise (c := true) TGr L rfl (hr.mono (by decide)) pass0 ?_
    refine de_globI c0 ?_
    rfl
  · refine ⟨xs, rfl, by omega, fun q P x hm => ?_, ?_⟩
    · refine dgw_name 1 ?_
      intro s0 H0 C0 cl0 fp0
      refine de_f Dis_long (hr.mono (by decide)) ?_
      refine da_cons ?_
      refine de_var 1 rfl ?_
      refine da_nil ?_
      exact ⟨_, rfl, hx x hm, rfl⟩
    refine da_nil ?_
    refine ⟨xs.map fun x => decide (10 ^ 300 ≤ x.natAbs), by rw [List.map_map]; rfl, ?_⟩
    refine iteTt hany ?_
    refine dss_cons ?_
    refine ds_raise (c := true) TGr L rfl (hr.mono (by decide)) pass0 ?_
    refine de_globI c0 ?_
    rfl

/-! window_made raises -/
theorem oke_window_made {C : Addr} (A : At K mg "window_made" s_window_made ["window"]) (T : Bl mg) (Dnot_long : De P w K mg base C "not_long" 3 ["numbers"] feNotLong) : De P w K mg base C "window_made" 4 ["window"] feNotLong := by
  refine A.de sc_window_made (fun S ds n h => ?_) fun f cdv A outer s H E S O ds n hr h L => ?_
  · obtain ⟨_, d, xs, rfl, _⟩ := h; rfl
  obtain ⟨rfl, d, xs, rfl, hd, hl, hx, big⟩ := h
  refine dss_cons ?_
  refine ds_ret ?_
  refine de_e Dnot_long L (hr.mono (by decide)) ?_
  refine da_cons ?_
  refine de_var 0 rfl ?_
  refine da_nil ?_
  exact ⟨rfl, d, xs, rfl, hd, hl, hx, big⟩

/-! window_pushed raises -/
theorem oke_window_pushed {C : Addr} (A : At K mg "window_pushed" s_window_pushed ["window", "much"]) (T : Bl mg) (Dwindow_made : De P w K mg base C "window_made" 4 ["window"] feNotLong) : De P w K mg base C "window_pushed" 5 ["window", "much"] fePushed := by
  refine A.de sc_window_pushed (fun S ds n h => ?_) fun f cdv A outer s H E S O ds n hr h L => ?_
  · obtain ⟨_, w, m, rfl, _⟩ := h; rfl
  obtain ⟨rfl, w, m, rfl, hl, hb, big⟩ := h
  refine dss_cons ?_
  refine ds_ret ?_
  refine de_e Dwindow_made L (hr.mono (by decide)) ?_
  refine da_cons ?_
  refine de_tuple (c1 := false) rfl T.tuple (.inl rfl) ?_
  refine da_cons ?_
  refine de_lc (own := [("number", 2)]) (g := gName 2) rfl sc_window_pushed.nd (show blkC ["window", "much", "number"] (defScope s_window_pushed) _ _ = true by decide +kernel) (fun _ _ _ _ _ => pg_name (i := 2) sc_window_pushed.nd rfl (Or.inl rfl)) ?_ (fun a h => walk_own h)
  refine dlc_map (α := Int) D.int (fun x => D.int (x + m)) ?_
  refine di_seq rfl ?_
  refine de_var 0 rfl ?_
  refine ⟨w, rfl, by omega, fun q P x hx => ?_, ?_⟩
  · refine dgw_name 2 ?_
    intro s0 H0 C0 cl0 fp0
    refine de_add rfl ?_
    refine de_var 2 rfl ?_
    refine de_var 1 rfl ?_
    refine ⟨trivial, ?_⟩
    rfl
  refine da_nil ?_
  refine da_nil ?_
  refine ⟨rfl, _, w.map (· + m), rfl, .inl (by rw [List.map_map]; rfl), by rw [List.length_map]; exact hl, fun x hx => ?_, ?_⟩
  · obtain ⟨y, hy, rfl⟩ := List.mem_map.mp hx
    exact hb y hy
  · obtain ⟨y, hy, h⟩ := big
    exact ⟨_, List.mem_map.mpr ⟨y, hy, rfl⟩, h⟩

end
end W

namespace W
open PySem PySem.Spec PyProof.Rows L2 Dw M
local macro_rules | `(tactic| walk_at "le") => `(tactic| (repeat (refine And.intro ?_ ?_; · first | rfl | (simp [List.range_succ]; done))); exact trivial)
section
variable {P : Program} {w : World} {K : PySem.W.Frag} {mg : Str → Option Value} {base : Heap}
/-! straight_told -/
abbrev s_straight_told : Stmt := topS 14
theorem sc_straight_told : FnScope ["many"] ["many"] (defScope s_straight_told) := ⟨rfl, rfl, rfl, by decide +kernel, rfl, by decide +kernel, by decide +kernel⟩
theorem ok_straight_told (A : At K mg "straight_told" s_straight_told ["many"]) (T : Bl mg)  : Df P w K mg base "straight_told" 1 ["many"] fsStraight := by
  refine A.df sc_straight_told (fun S ds R h => ?_) fun f cdv A outer s H E S O ds R hr h => ?_
  · obtain ⟨n, rfl, _⟩ := h; rfl
  obtain ⟨n, rfl, hn, q⟩ := h
  refine dss_cons ?_
  refine ds_ret ?_
  refine de_tupleRg rfl T.tuple ?_
  refine drg_1 T.range ?_
  refine de_var 0 rfl ?_
  refine ⟨smallRg (by omega) (by omega) (by omega) (by omega), ?_⟩  --[1]
  rw [rg_cells]
  exact q

/-! is_window -/
abbrev s_is_window : Stmt := topS 11
theorem sc_is_window : FnScope ["numbers", "many", "number"] ["numbers"] (defScope s_is_window) := ⟨rfl, rfl, rfl, by decide +kernel, rfl, by decide +kernel, by decide +kernel⟩
theorem ok_is_window (A : At K mg "is_window" s_is_window ["numbers"]) (T : Bl mg)  : Df P w K mg base "is_window" 1 ["numbers"] fsIsWin := by
  refine A.df sc_is_window (fun S ds R h => ?_) fun f cdv A outer s H E S O ds R hr h => ?_
  · obtain ⟨d, xs, rfl, _⟩ := h; rfl
  obtain ⟨d, xs, rfl, hd, hl, q⟩ := h
  refine dss_cons ?_
  refine ds_set 1 sc_is_window.nd ?_
  refine de_lenN xs.length rfl T.len ?_
  refine da_cons ?_
  refine de_var 0 rfl ?_
  refine da_nil ?_
  refine ⟨len2 hd (by rw [List.length_map]), ?_⟩
  refine dss_cons ?_
  refine ds_ret ?_
  refine de_and ?_
  refine de_gt ?_
  refine de_var 1 rfl ?_
  refine de_int ?_
  refine ⟨unl xs, fun hb => ?_, ?_⟩
  rotate_left
  · by_cases h : xs = []
    · subst h
      exact q
    · have e : decide ((0 : Int) < (xs.length : Int)) = true := decide_eq_true (by have := List.length_pos_iff.mpr h; omega)
      show R (.bl (decide ((0 : Int) < (xs.length : Int)) && unl xs))
      rw [e]
      exact q
  · have hp : (0 : Int) < (xs.length : Int) := of_decide_eq_true hb
    have hne : xs ≠ [] := fun z => by rw [z] at hp; exact absurd hp (by decide)
    refine de_one ?_
    refine de_eqS ?_
    refine de_lenK (mergeD [] (xs.map fun x => ((Sum.inl (x % (xs.length : Int)) : Key), D.bl true))).length T.len ?_  -- len(dict([(number % many, True) for number in numb  --[3]
    refine da_cons ?_
    refine de_dict rfl rfl T.dict ?_
    refine da_cons ?_
    refine de_lc (own := [("number", 2)]) (g := gName 2) rfl sc_is_window.nd (show blkC ["numbers", "many", "number"] (defScope s_is_window) _ _ = true by decide +kernel) (fun _ _ _ _ _ => pg_name (i := 2) sc_is_window.nd rfl (Or.inl rfl)) ?_ (fun a h => walk_own h)
    refine dlc_map (α := Int) D.int (fun x => D.tup [D.int (x % (xs.length : Int)), D.bl true]) ?_
    refine di_seq rfl ?_
    refine de_var 0 rfl ?_
    refine seq2 hd ?_
    refine ⟨xs, rfl, by omega, fun q P x hx => ?_, ?_⟩  -- lc 0: [(number % many, True) for number in numbers]  --[5]
    · refine dgw_name 2 ?_
      intro s0 H0 C0 cl0 fp0
      refine de_tup ?_
      refine da_cons ?_
      refine de_modR ?_
      refine de_var 2 rfl ?_
      refine de_var 1 rfl ?_
      refine ⟨by omega, ?_⟩  -- number % many  --[6]
      refine da_cons ?_
      refine de_bl ?_
      refine da_nil ?_
      refine ⟨by simp, ?_⟩
      rfl  -- elt  --[e1]
    refine da_nil ?_
    refine ⟨xs.map fun x => ((Sum.inl (x % (xs.length : Int)) : Key), D.bl true), by rw [List.map_map]; rfl, ?_⟩  --[7]
    refine da_nil ?_
    refine ⟨rfl, ?_⟩
    refine de_var 1 rfl ?_
    exact congrArg D.bl (unl_merge hne)

/-! _law_is_unlike -/
abbrev s__law_is_unlike : Stmt := topS 25
theorem sc_law_is_unlike : FnScope ["numbers", "many", "rests", "number"] ["numbers"] (defScope s__law_is_unlike) := ⟨rfl, rfl, rfl, by decide +kernel, rfl, by decide +kernel, by decide +kernel⟩
theorem ok__law_is_unlike (A : At K mg "_law_is_unlike" s__law_is_unlike ["numbers"]) (T : Bl mg)  : Df P w K mg base "_law_is_unlike" 1 ["numbers"] fsIsWin := by
  refine A.df sc_law_is_unlike (fun S ds R h => ?_) fun f cdv A outer s H E S O ds R hr h => ?_
  · obtain ⟨d, xs, rfl, _⟩ := h; rfl
  obtain ⟨d, xs, rfl, hd, hl, q⟩ := h
  refine dss_cons ?_
  refine ds_set 1 sc_law_is_unlike.nd ?_
  refine de_lenN xs.length rfl T.len ?_
  refine da_cons ?_
  refine de_var 0 rfl ?_
  refine da_nil ?_
  refine ⟨len2 hd (by rw [List.length_map]), ?_⟩
  refine dss_cons ?_
  refine ds_setLc (own := [("number", 3)]) (g := gName 3) 2 rfl sc_law_is_unlike.nd (show blkC ["numbers", "many", "rests", "number"] (defScope s__law_is_unlike) _ _ = true by decide +kernel) (fun _ _ _ _ _ => pg_name (i := 3) sc_law_is_unlike.nd rfl (Or.inl rfl)) ?_ (fun a h => walk_own h) (sw_true rfl rfl rfl (by decide +kernel))
  refine dlc_map (α := Int) D.int (fun x => D.int (x % (xs.length : Int))) ?_
  refine di_seq rfl ?_
  refine de_var 0 rfl ?_
  refine seq2 hd ?_
  refine ⟨xs, rfl, by omega, fun q P x hx => ?_, ?_⟩  -- lc 0: [int(number) % max(1, many) for number in numbers]  --[3]
  · refine dgw_name 3 ?_
    intro s0 H0 C0 cl0 fp0
    refine de_modR ?_
    refine de_int1 T.int ?_
    refine da_cons ?_
    refine de_var 3 rfl ?_
    refine da_nil ?_
    refine de_max2 rfl T.max ?_
    refine da_cons ?_
    refine de_int ?_
    refine da_cons ?_
    refine de_var 1 rfl ?_
    refine da_nil ?_
    refine ⟨by have := Int.le_max_left 1 (xs.length : Int); omega, ?_⟩  -- int(number) % max(1, many)  --[4]
    have : 0 < xs.length := List.length_pos_of_mem hx
    have e : (if (xs.length : Int) > 1 then (xs.length : Int) else 1) = xs.length := by split <;> omega
    exact congrArg (fun k => D.int (x % k)) e
  refine dss_cons ?_
  refine ds_ret ?_
  refine de_and ?_
  refine de_gt ?_
  refine de_var 1 rfl ?_
  refine de_int ?_
  refine ⟨unl xs, fun hb => ?_, ?_⟩
  · have hp : (0 : Int) < (xs.length : Int) := of_decide_eq_true hb
    have hne : xs ≠ [] := fun z => by rw [z] at hp; exact absurd hp (by decide)
    refine de_one ?_
    refine de_eq hr.units rfl ?_
    refine de_sorted T.sorted ?_  --[6]
    refine da_cons ?_
    refine de_var 2 rfl ?_
    refine da_nil ?_
    refine ⟨xs.map fun x => x % (xs.length : Int), by rw [List.map_map]; rfl, fun ms mp msrt => ?_⟩  --[7]
    refine de_listRg rfl T.list ?_
    refine drg_1 T.range ?_
    refine de_var 1 rfl ?_
    refine ⟨smallRg (by omega) (by omega) (by omega) (by omega), ?_⟩  --[8]
    refine ⟨⟨flat_ints, flat_ints⟩, ?_⟩  -- sorted(rests) == list(range(many))  --[9]
    rw [rg_cells, eqD_lints, unl_sorted mp msrt hne]
  · by_cases h : xs = []
    · subst h
      exact q
    · have e : decide ((0 : Int) < (xs.length : Int)) = true := decide_eq_true (by have := List.length_pos_iff.mpr h; omega)
      show R (.bl (decide ((0 : Int) < (xs.length : Int)) && unl xs))
      rw [e]
      exact q

/-! _law_far -/
abbrev s__law_far : Stmt := topS 22
theorem sc_law_far : FnScope ["source"] ["source"] (defScope s__law_far) := ⟨rfl, rfl, rfl, by decide +kernel, rfl, by decide +kernel, by decide +kernel⟩
theorem ok__law_far (A : At K mg "_law_far" s__law_far ["source"]) (T : Bl mg) (D_law_of : Df P w K mg base "_law_of" 2 ["source", "some"] fsOf) : Df P w K mg base "_law_far" 3 ["source"] fsFar10 := by
  refine A.df sc_law_far (fun S ds R h => ?_) fun f cdv A outer s H E S O ds R hr h => ?_
  · obtain ⟨a, c, rfl, rfl, _⟩ := h; rfl
  obtain ⟨a, c, rfl, rfl, q⟩ := h
  refine dss_cons ?_
  refine ds_ret ?_
  refine de_f D_law_of (hr.mono (by decide)) ?_
  refine da_cons ?_
  refine de_var 0 rfl ?_
  refine da_cons ?_
  refine de_lst ?_
  refine da_cons ?_
  refine de_int ?_
  refine da_cons ?_
  refine de_int ?_
  refine da_cons ?_
  refine de_int ?_
  refine da_cons ?_
  refine de_int ?_
  refine da_cons ?_
  refine de_neg ?_
  refine de_int ?_
  refine da_cons ?_
  refine de_int ?_
  refine da_cons ?_
  refine de_neg ?_
  refine de_int ?_
  refine da_cons ?_
  refine de_pow ?_
  refine de_int ?_
  refine de_int ?_
  refine ⟨by unfold CPow; decide +kernel, ?_⟩  -- 10 ** 9  --[1]
  refine da_cons ?_
  refine de_neg ?_
  refine de_pow ?_
  refine de_int ?_
  refine de_int ?_
  refine ⟨by unfold CPow; decide +kernel, ?_⟩  -- 10 ** 20  --[2]
  refine da_cons ?_
  refine de_intS T.int ?_
  refine da_cons ?_
  refine de_add rfl ?_
  refine de_str ?_
  refine de_strRep ?_
  refine de_str ?_
  refine de_int ?_
  refine ⟨⟨by decide, by decide, by decide +kernel, by decide +kernel, by decide +kernel, by decide +kernel⟩, ?_⟩
  refine ⟨by decide +kernel, ?_⟩
  refine da_nil ?_
  refine ⟨(10 : Int) ^ 200, by decide +kernel, by decide +kernel, ?_⟩
  refine da_nil ?_
  refine ⟨by simp, ?_⟩
  refine da_nil ?_
  refine ⟨_, _, _, _, rfl, rfl, .inl rfl, by simp, by simp, fun z hz => ?_⟩
  simp only [List.mem_cons, List.not_mem_nil, or_false] at hz
  rcases hz with rfl | rfl | rfl | rfl | rfl | rfl | rfl | rfl | rfl | rfl <;> exact q _ (by decide +kernel)

/-! _law_window -/
abbrev s__law_window : Stmt := topS 23
theorem sc_law_window : FnScope ["source", "many", "rest"] ["source", "many"] (defScope s__law_window) := ⟨rfl, rfl, rfl, by decide +kernel, rfl, by decide +kernel, by decide +kernel⟩
theorem ok__law_window (A : At K mg "_law_window" s__law_window ["source", "many"]) (T : Bl mg) (D_law_mixed : Df P w K mg base "_law_mixed" 2 ["source", "things"] fsMixed) (D_law_far : Df P w K mg base "_law_far" 3 ["source"] fsFar10) : Df P w K mg base "_law_window" 4 ["source", "many"] fsWin10 := by
  refine A.df sc_law_window (fun S ds R h => ?_) fun f cdv A outer s H E S O ds R hr h => ?_
  · obtain ⟨a, c, n, rfl, rfl, _⟩ := h; rfl
  obtain ⟨a, c, n, rfl, rfl, n1, n8, q⟩ := h
  refine dss_cons ?_
  refine ds_ret ?_
  refine de_tuple (c1 := false) rfl T.tuple (.inl rfl) ?_
  refine da_cons ?_
  refine de_lc (own := [("rest", 2)]) (g := gName 2) rfl sc_law_window.nd (show blkC ["source", "many", "rest"] (defScope s__law_window) _ _ = true by decide +kernel) (fun _ _ _ _ _ => pg_name (i := 2) sc_law_window.nd rfl (Or.inl rfl)) ?_ (fun a h => walk_own h)
  refine dlc_rel (α := Int) (β := Int) D.int D.int (fun x y => ∃ j : Int, -(10 ^ 200) ≤ j ∧ j ≤ 10 ^ 200 ∧ y = x + n * j) ?_
  refine di_seq rfl ?_
  refine de_f D_law_mixed (hr.mono (by decide)) ?_
  refine da_cons ?_
  refine de_var 0 rfl ?_
  refine da_cons ?_
  refine de_listRg rfl T.list ?_
  refine drg_1 T.range ?_
  refine de_var 1 rfl ?_
  refine ⟨smallRg (by omega) (by omega) (by omega) (by omega), ?_⟩  --[2]
  refine da_nil ?_
  refine ⟨_, _, _, _, rfl, rfl, .inl rfl, by rw [List.length_map, rg_length]; omega, fun ys hys => ?_⟩
  obtain ⟨zs, hz, rfl⟩ := perm_map_inv hys _ rfl
  have zl : (zs.length : Int) = n := by rw [hz.length_eq, rg_length]; omega
  refine ⟨zs, rfl, by omega, fun q P x hx => ?_, fun ys hys => ?_⟩
  · refine dgw_name 2 ?_
    intro s0 H0 C0 cl0 fp0
    refine de_add rfl ?_
    refine de_var 2 rfl ?_
    refine de_mul ?_
    refine de_var 1 rfl ?_
    refine de_f D_law_far (hr.mono (by decide)) ?_
    refine da_cons ?_
    refine de_var 0 rfl ?_
    refine da_nil ?_
    refine ⟨_, _, rfl, rfl, fun j hj => ?_⟩
    refine ⟨big_mul (small300 (by omega)) (Nat.le_trans hj (by decide +kernel)), ?_⟩
    refine ⟨trivial, ?_⟩  -- rest + many * _law_far(source)
    exact ⟨_, rfl, j, by omega, by omega, rfl⟩
  refine da_nil ?_
  obtain ⟨W, wl, wb⟩ := near_of n1 (by decide +kernel) hz hys
  exact q ys W wl fun x hx => by
    have h1 := wb x hx
    have h2 : n * 10 ^ 200 ≤ 8 * 10 ^ 200 := Int.mul_le_mul_of_nonneg_right n8 (by decide +kernel)
    omega

end
end W

namespace W
open PySem PySem.Spec PyProof.Rows L2 Dw M
local macro_rules | `(tactic| walk_at "le") => `(tactic| (repeat (refine And.intro ?_ ?_; · first | rfl | (simp [List.range_succ]; done))); exact trivial)
section
variable {P : Program} {w : World} {K : PySem.W.Frag} {mg : Str → Option Value} {base : Heap}
/-! law -/
abbrev sLaw : Stmt := topS 26
theorem sc_law : FnScope ["script", "source", "many", "window", "k", "more", "numbers", "late", "low", "looks", "goals", "place", "rest", "due", "goal", "here", "moves", "number", "far", "some"] ["script"] (defScope sLaw) := ⟨rfl, rfl, rfl, by decide +kernel, rfl, by decide +kernel, by decide +kernel⟩
theorem ok_law {f Cg cd Pt : Addr} {fd : FuncData} (F : Fun K "law" "law" sLaw f fd) (Asrc : At K mg "_law_source" sSource ["script"]) (T : Bl mg) (Ctold : Told P w K mg base "_law_told" "call" Cg "told" "great") (Hcd : LawCode K f (.ref cd)) (TB : LamX.TabB base mg cd Pt) (Ewindow_made : De P w K mg base Cg "window_made" 4 ["window"] feNotLong) (Ewindow_pushed : De P w K mg base Cg "window_pushed" 5 ["window", "much"] fePushed) (D_law_pick : Df P w K mg base "_law_pick" 1 ["source", "many"] fsPick) (D_law_window : Df P w K mg base "_law_window" 4 ["source", "many"] fsWin10) (D_law_of : Df P w K mg base "_law_of" 2 ["source", "some"] fsOf) (Dis_window : Df P w K mg base "is_window" 1 ["numbers"] fsIsWin) (D_law_is_unlike : Df P w K mg base "_law_is_unlike" 1 ["numbers"] fsIsWin) (Dplace_at : Df P w K mg base "place_at" 1 ["window", "place"] fsAt) (Dplace_back : Df P w K mg base "place_back" 1 ["window", "place"] fsBack) (Dpush_told : Df P w K mg base "push_told" 1 ["window"] fsPush) (Dwindow_pushed : Df P w K mg base "window_pushed" 4 ["window", "much"] fsPushed) (Dstraight_told : Df P w K mg base "straight_told" 1 ["many"] fsStraight) (Dwindow_made : Df P w K mg base "window_made" 3 ["window"] fsNotLong) :
    FnG P w K mg base 8 f fd ["script"] (spLawT [(cd, Pt)] K) := by
  obtain ⟨oc, od, kV, doc, pm, an, cdv, ct, osl, rfl, lk, hcd⟩ := F.ex
  have ecd := Hcd.eq lk
  subst ecd
  refine bodyG lk hcd sc_law (fun vs H Q E h => ?_) fun A outer s H vs Q hr hgu h => ?_
  · obtain ⟨s, ns, rfl, _⟩ := h; rfl
  obtain ⟨so, ns, rfl, hS, hlen, hPt, fin⟩ := h
  obtain ⟨fs, fds, Fs, ms, bs⟩ := Asrc.ex
  refine ⟨_, pss_cons (ps_set (i := 1) sc_law.nd rfl (.inl rfl) (L2.pe_call (E := E0) (ok_source (k := 0) Fs T.abs T.int) (hr.mono (by decide)) rfl ms Fs.kp bs .nil pass0 (pa_cons (pv 0) pa_nil))) pss_sem, ?_⟩
  refine ⟨_, rfl, ⟨so, ns, rfl, hS, hlen, fun a c H1 ha hc ne kk src => ?_⟩⟩
  refine (?body : DSs (cxOf CX0 P w K mg base ["script", "source", "many", "window", "k", "more", "numbers", "late", "low", "looks", "goals", "place", "rest", "due", "goal", "here", "moves", "number", "far", "some"] "law" (defScope sLaw) f (.ref cd) A outer s H E0).nox ⟨K, some (a, c), H1, [a, c], [], [(Pt, (cxOf CX0 P w K mg base ["script", "source", "many", "window", "k", "more", "numbers", "late", "low", "looks", "goals", "place", "rest", "due", "goal", "here", "moves", "number", "far", "some"] "law" (defScope sLaw) f (.ref cd) A outer s H E0).env.qual ++ "<lambda>")]⟩ (.any :: .dat (.ref a) :: List.replicate 18 .any) ((defBody sLaw).drop 1) { nx := fun _ => False, rt := fun d => d = .bl true }) _ H1 (stOk_src src ne) _ ⟨fun ρ σ H' I w => w.elim, fun v H' d k s r w => ?_, fun _ _ _ _ z => z, fun _ _ _ _ z => z⟩
  rotate_left
  · subst w
    cases r
    exact fin H'
  have hTab : LamX.Tabs [(Pt, (cxOf CX0 P w K mg base ["script", "source", "many", "window", "k", "more", "numbers", "late", "low", "looks", "goals", "place", "rest", "due", "goal", "here", "moves", "number", "far", "some"] "law" (defScope sLaw) f (.ref cd) A outer s H E0).env.qual ++ "<lambda>")] H1 := fun p hp => by
    obtain rfl := List.mem_singleton.mp hp
    exact LamX.TabS.nil (kk _ _ (hPt _ (.head _)))
  have hTu : ∀ p ∈ [(Pt, (cxOf CX0 P w K mg base ["script", "source", "many", "window", "k", "more", "numbers", "late", "low", "looks", "goals", "place", "rest", "due", "goal", "here", "moves", "number", "far", "some"] "law" (defScope sLaw) f (.ref cd) A outer s H E0).env.qual ++ "<lambda>")], p.1 = Pt → p.2 = (cxOf CX0 P w K mg base ["script", "source", "many", "window", "k", "more", "numbers", "late", "low", "looks", "goals", "place", "rest", "due", "goal", "here", "moves", "number", "far", "some"] "law" (defScope sLaw) f (.ref cd) A outer s H E0).env.qual ++ "<lambda>" := fun p hp _ => by
    obtain rfl := List.mem_singleton.mp hp
    rfl
  clear fin hS hlen ms bs Fs
  refine dss_cons ?_
  refine ds_set 2 sc_law.nd ?_
  refine de_add rfl ?_
  refine de_int ?_
  refine de_f D_law_pick (hr.mono (by decide)) ?_
  refine da_cons ?_
  refine de_var 1 rfl ?_
  refine da_cons ?_
  refine de_int ?_
  refine da_nil ?_
  refine ⟨_, _, _, rfl, rfl, by decide, fun j1 j1a j1b => ?_⟩  --[1]
  refine ⟨trivial, ?_⟩  -- 1 + _law_pick(source, 8)
  refine dss_cons ?_
  refine ds_set 3 sc_law.nd ?_
  refine de_f D_law_window (hr.mono (by decide)) ?_
  refine da_cons ?_
  refine de_var 1 rfl ?_
  refine da_cons ?_
  refine de_var 2 rfl ?_
  refine da_nil ?_
  refine ⟨_, _, _, rfl, rfl, by omega, by omega, fun u U ul ub => ?_⟩
  rw [← ul]
  have hn : (0 : Int) < u.length := by have := U.pos; omega
  have n8 : u.length ≤ 8 := by omega
  have ub300 : ∀ x ∈ u, x.natAbs ≤ 10 ^ 300 := fun x hx => Nat.le_trans (ub x hx) (by decide +kernel)
  have few : ∀ x ∈ u, x.natAbs < 10 ^ 300 := fun x hx => Nat.lt_of_le_of_lt (ub x hx) (by decide +kernel)
  have few5 : ∀ x ∈ u, (x + 5).natAbs < 10 ^ 300 := fun x hx => by
    have h := ub x hx
    have e : 8 * 10 ^ 200 + 8 + 5 < 10 ^ 300 := by decide +kernel
    generalize 10 ^ 200 = p at *
    generalize 10 ^ 300 = q at *
    omega
  have ru := (rok_ints ub300 (by omega)).ok (by decide)
  have rc := (rok_ints (l := cells u.length) (fun x hx => by have := mem_cells.mp hx; exact small300 (by omega)) (by rw [cells_len]; omega)).ok (by decide)
  have pb := push_big U (B := 10 ^ 201) (fun x hx => Nat.le_trans (ub x hx) (by decide +kernel))
  have pb2 : (push u).natAbs < 2 ^ 1900 ∧ (push u + 5).natAbs < 2 ^ 1900 := by
    have e : 8 * (10 ^ 201 + 1) + 5 < 2 ^ 1900 := by decide +kernel
    have e2 : u.length * (10 ^ 201 + 1) ≤ 8 * (10 ^ 201 + 1) := Nat.mul_le_mul_right _ n8
    have e3 := pb
    have e4 : (push u + 5).natAbs ≤ (push u).natAbs + 5 := by omega
    exact ⟨Nat.lt_of_le_of_lt (Nat.le_trans e3 (Nat.le_trans e2 (Nat.le_add_right _ 5))) e, Nat.lt_of_le_of_lt (Nat.le_trans e4 (Nat.add_le_add_right (Nat.le_trans e3 e2) 5)) e⟩
  have rp := (Rok.int (n := 60) pb2.1).ok (by decide)
  have rp5 := (Rok.int (n := 60) pb2.2).ok (by decide)
  refine dss_cons ?_
  refine ds_par 4 5 rfl sc_law.nd ?_
  refine da_cons ?_
  refine de_f D_law_pick (hr.mono (by decide)) ?_
  refine da_cons ?_
  refine de_var 1 rfl ?_
  refine da_cons ?_
  refine de_var 2 rfl ?_
  refine da_nil ?_
  refine ⟨_, _, _, rfl, rfl, by omega, fun j3 j3a j3b => ?_⟩
  refine da_cons ?_
  refine de_f D_law_of (hr.mono (by decide)) ?_
  refine da_cons ?_
  refine de_var 1 rfl ?_
  refine da_cons ?_
  refine de_lst ?_
  refine da_cons ?_
  refine de_int ?_
  refine da_cons ?_
  refine de_int ?_
  refine da_cons ?_
  refine de_neg ?_
  refine de_int ?_
  refine da_cons ?_
  refine de_var 2 rfl ?_
  refine da_cons ?_
  refine de_neg ?_
  refine de_var 2 rfl ?_
  refine da_cons ?_
  refine de_int ?_
  refine da_cons ?_
  refine de_pow ?_
  refine de_int ?_
  refine de_int ?_
  refine ⟨by unfold CPow; decide +kernel, ?_⟩  -- 10 ** 30  --[4]
  refine da_nil ?_
  refine ⟨by simp, ?_⟩
  refine da_nil ?_
  obtain ⟨k, rfl⟩ := Int.eq_ofNat_of_zero_le j3a
  refine ⟨_, _, _, _, rfl, rfl, .inl rfl, by simp, by simp, fun z hz => ?_⟩
  have hz2 : ∃ m : Int, z = .int m := by
    simp only [List.mem_cons, List.not_mem_nil, or_false] at hz
    rcases hz with rfl | rfl | rfl | rfl | rfl | rfl | rfl <;> exact ⟨_, rfl⟩
  obtain ⟨m, rfl⟩ := hz2
  clear hz
  have ku : k < u.length := by omega
  refine da_nil ?_
  refine ⟨_, _, rfl, ?_⟩
  refine dss_cons ?_
  refine ds_forE PassesOwn.never rfl (σ := Unit) (fun _ => [.any, .dat (.ref a), .dat (.int (u.length : Nat)), .dat (.tup (u.map .int)), .dat (.int (k : Nat)), .dat (.int m), .any, .any, .any, .any, .any, .any, .any, .any, .any, .any, .any, .any, .any, .any]) () rfl ?_
  refine di_seq rfl ?_
  refine de_tup ?_
  refine da_cons ?_
  refine de_var 3 rfl ?_
  refine da_cons ?_
  refine de_add rfl ?_
  refine de_add rfl ?_
  refine de_slice rfl ?_
  refine de_var 3 rfl ?_
  refine do_none ?_
  refine do_some ?_
  refine de_var 4 rfl ?_
  refine de_tup ?_
  refine da_cons ?_
  refine de_add rfl ?_
  refine de_ix rfl ?_
  refine de_var 3 rfl ?_
  refine de_var 4 rfl ?_
  refine mk_ix (atI_ints (by omega) (by omega)) ?_
  refine de_var 5 rfl ?_
  refine ⟨trivial, ?_⟩  -- window[k] + more
  refine da_nil ?_
  refine ⟨by simp, ?_⟩
  rw [cut_first]
  refine ⟨by simp only [List.length_take, List.length_map, List.length_cons, List.length_nil]; omega, ?_⟩
  refine de_slice rfl ?_
  refine de_var 3 rfl ?_
  refine do_some ?_
  refine de_add rfl ?_
  refine de_var 4 rfl ?_
  refine de_int ?_
  refine ⟨trivial, ?_⟩  -- k + 1
  refine do_none ?_
  rw [cutD']
  rw [cut_from]
  refine ⟨by simp only [List.length_take, List.length_append, List.length_drop, List.length_map, List.length_cons, List.length_nil]; omega, ?_⟩
  refine da_cons ?_
  refine de_add rfl ?_
  refine de_var 3 rfl ?_
  refine de_tup ?_
  refine da_cons ?_
  refine de_int ?_
  refine da_nil ?_
  refine ⟨by simp, ?_⟩
  refine ⟨by simp only [List.length_map, List.length_cons, List.length_nil]; omega, ?_⟩
  refine da_cons ?_
  refine de_slice rfl ?_
  refine de_var 3 rfl ?_
  refine do_some ?_
  refine de_int ?_
  refine do_none ?_
  refine da_cons ?_
  refine de_tup ?_
  refine da_nil ?_
  refine ⟨by simp, ?_⟩
  refine da_nil ?_
  refine ⟨by simp, ?_⟩
  rw [cut_one]
  refine ⟨fun _ _ => True, trivial, fun P i d s hd hI => ?_, fun s hI => ?_⟩
  · have hx : ∃ xs : List Int, d = .tup (xs.map .int) ∧ xs.length ≤ 1000 := by
      have hm := List.mem_of_getElem? hd
      simp only [List.mem_cons, List.not_mem_nil, or_false] at hm
      rcases hm with rfl | rfl | rfl | rfl | rfl
      · exact ⟨u, rfl, by omega⟩
      · exact ⟨u.set k (u.getD (k : Int).toNat 0 + m), by rw [← cut_set ku, List.map_take, List.map_drop], by rw [List.length_set]; omega⟩
      · exact ⟨u ++ [0], by rw [List.map_append]; rfl, by rw [List.length_append]; show u.length + 1 ≤ 1000; omega⟩
      · exact ⟨u.drop 1, by rw [List.map_drop], by rw [List.length_drop]; omega⟩
      · exact ⟨[], rfl, by decide⟩
    obtain ⟨xs, rfl, xl⟩ := hx
    clear hd
    have rb := (Rok.bl (n := 60) (b := unl xs)).ok (by decide)
    refine dg_name 6 sc_law.nd ?_
    refine dss_cons ?_
    refine ds_forE PassesOwn.never rfl (σ := Unit) (fun _ => [.any, .dat (.ref a), .dat (.int (u.length : Nat)), .dat (.tup (u.map .int)), .dat (.int (k : Nat)), .dat (.int m), .dat (.tup (xs.map .int)), .any, .any, .any, .any, .any, .any, .any, .any, .any, .any, .any, .any, .any]) () rfl ?_
    refine di_seq rfl ?_
    refine de_tup ?_
    refine da_cons ?_
    refine de_var 6 rfl ?_
    refine da_cons ?_
    refine de_list rfl T.list ?_
    refine da_cons ?_
    refine de_var 6 rfl ?_
    refine da_nil ?_
    refine da_nil ?_
    refine ⟨by simp, ?_⟩
    refine ⟨fun _ _ => True, trivial, fun P i d s hd hI => ?_, fun s hI => ?_⟩
    · have h2 : d = .tup (xs.map .int) ∨ d = .lst (xs.map .int) := by
        have hm := List.mem_of_getElem? hd
        simp only [List.mem_cons, List.not_mem_nil, or_false] at hm
        exact hm
      refine dg_name 7 sc_law.nd ?_
      refine dss_cons ?_
      refine ds_ifF ?_ ?_
      · refine dt_neS ?_
        refine de_repr hgu hr.units rfl T.repr ?_
        refine da_cons ?_
        refine de_f Dis_window (hr.mono (by decide)) ?_
        refine da_cons ?_
        refine de_var 7 rfl ?_
        refine da_nil ?_
        refine ⟨d, xs, rfl, h2, xl, ?_⟩
        refine da_nil ?_
        refine ⟨rb, ?_⟩
        refine de_repr hgu hr.units rfl T.repr ?_
        refine da_cons ?_
        refine de_f D_law_is_unlike (hr.mono (by decide)) ?_
        refine da_cons ?_
        refine de_var 6 rfl ?_
        refine da_nil ?_
        refine ⟨_, xs, rfl, .inl rfl, xl, ?_⟩
        refine da_nil ?_
        refine ⟨rb, ?_⟩
        refine ⟨_, rfl, ?_⟩
        simp  -- repr(is_window(late)) != repr(_law_is_unlike(numbers))  --[18]
      refine dss_nil ?_
      refine dss_nil ?_
      exact ⟨(), by walk_at "le", trivial⟩
    refine dss_nil ?_
    exact ⟨(), by walk_at "le", trivial⟩
  refine dss_cons ?_
  refine ds_set 8 sc_law.nd ?_
  refine de_subR ?_
  refine de_subR ?_
  refine de_int ?_
  refine de_intS T.int ?_
  refine da_cons ?_
  refine de_add rfl ?_
  refine de_str ?_
  refine de_strRep ?_
  refine de_str ?_
  refine de_int ?_
  refine ⟨⟨by decide, by decide, by decide +kernel, by decide +kernel, by decide +kernel, by decide +kernel⟩, ?_⟩
  refine ⟨by decide +kernel, ?_⟩
  refine da_nil ?_
  refine ⟨(10 : Int) ^ 290, by decide +kernel, by decide +kernel, ?_⟩
  refine ⟨trivial, ?_⟩
  refine de_f D_law_pick (hr.mono (by decide)) ?_
  refine da_cons ?_
  refine de_var 1 rfl ?_
  refine da_cons ?_
  refine de_int ?_
  refine da_nil ?_
  refine ⟨_, _, _, rfl, rfl, by decide, fun j21 j21a j21b => ?_⟩  --[21]
  refine ⟨trivial, ?_⟩
  refine dss_cons ?_
  refine ds_set 9 sc_law.nd ?_
  refine de_add rfl ?_
  refine de_listRg rfl T.list ?_
  refine drg_2 T.range ?_
  refine de_subR ?_
  refine de_int ?_
  refine de_var 2 rfl ?_
  refine ⟨trivial, ?_⟩
  refine de_mul ?_
  refine de_int ?_
  refine de_var 2 rfl ?_
  refine ⟨small_mul (by omega), ?_⟩
  refine ⟨smallRg (by omega) (by omega) (by omega) (by omega), ?_⟩  --[23]
  refine de_lst ?_
  refine da_cons ?_
  refine de_add rfl ?_
  refine de_pow ?_
  refine de_int ?_
  refine de_int ?_
  refine ⟨by unfold CPow; decide +kernel, ?_⟩  -- 10 ** 40  --[24]
  refine de_f D_law_pick (hr.mono (by decide)) ?_
  refine da_cons ?_
  refine de_var 1 rfl ?_
  refine da_cons ?_
  refine de_int ?_
  refine da_nil ?_
  refine ⟨_, _, _, rfl, rfl, by decide, fun j25 j25a j25b => ?_⟩  --[25]
  refine ⟨trivial, ?_⟩  -- 10 ** 40 + _law_pick(source, 99)
  refine da_cons ?_
  refine de_var 8 rfl ?_
  refine da_nil ?_
  refine ⟨by simp, ?_⟩
  refine ⟨by rw [List.length_map, rg_length]; simp only [List.length_cons, List.length_nil]; omega, ?_⟩
  have eL : ((rg (0 - (u.length : Int)) (2 * (u.length : Int))).map D.int ++ [D.int (10 ^ 40 + j25), D.int (0 - 10 ^ 290 - j21)]) = (looks u.length j25 j21).map D.int := by
    unfold looks
    rw [List.map_append]
    rfl
  refine Eq.mpr (congrArg _ (congrArg D.lst eL)) ?_
  have Ln := looks_nodup (n := u.length) (r := j25) (s := j21) (by omega) j25a j21a
  have Lf : ∀ x ∈ looks u.length j25 j21, x.natAbs ≤ 10 ^ 291 := fun x hx => looks_few (by omega) j25a (by omega) j21a (by omega) hx
  have Ll : (looks u.length j25 j21).length ≤ 100 := by
    unfold looks
    rw [List.length_append, rg_length]
    simp only [List.length_cons, List.length_nil]
    omega
  clear eL
  generalize looks u.length j25 j21 = L at *
  refine dss_cons ?_
  refine ds_setF 10 sc_law.nd ?_
  refine df_lst ?_
  refine da_nil ?_
  refine ⟨by simp, ?_⟩
  intro o_goals
  refine dss_cons ?_
  refine ds_forE PassesOwn.never rfl (σ := List Int) (fun gs => [.any, .dat (.ref a), .dat (.int (u.length : Nat)), .dat (.tup (u.map .int)), .dat (.int (k : Nat)), .dat (.int m), .any, .any, .dat (.int (0 - 10 ^ 290 - j21)), .dat (.lst (L.map .int)), .own o_goals (gs.map .int), .any, .any, .any, .any, .any, .any, .any, .any, .any]) [] rfl ?_
  refine di_seq rfl ?_
  refine de_var 9 rfl ?_
  refine ⟨fun i gs => gs = (L.take i).map (nx u), rfl, fun P i d gs hd hI => ?_, fun gs hI => ?_⟩
  · obtain rfl : gs = (L.take i).map (nx u) := hI
    rw [List.getElem?_map] at hd
    obtain ⟨x, hx, rfl⟩ : ∃ x, L[i]? = some x ∧ d = .int x := by
      cases e : L[i]? with
      | none => rw [e] at hd; cases hd
      | some y => rw [e] at hd; exact ⟨y, rfl, (Option.some.inj hd).symm⟩
    have xm := List.mem_of_getElem? hx
    have xf := Lf x xm
    have gf := nx_few U n8 ub xf
    have rk := (Rok.lst (n := 59) (k := 0) (xs := [.int (nx u x), .int x]) (fun y hy => by
      simp only [List.mem_cons, List.not_mem_nil, or_false] at hy
      rcases hy with rfl | rfl
      · exact Rok.int (Nat.lt_of_le_of_lt gf (by decide +kernel))
      · exact Rok.int (Nat.lt_of_le_of_lt xf (by decide +kernel)))).ok (by show 2 ≤ 400; decide)
    refine dg_name 11 sc_law.nd ?_
    refine dss_cons ?_
    refine ds_set 12 sc_law.nd ?_
    refine de_modR ?_
    refine de_int1 T.int ?_
    refine da_cons ?_
    refine de_var 11 rfl ?_
    refine da_nil ?_
    refine de_var 2 rfl ?_
    refine ⟨by omega, ?_⟩
    refine dss_cons ?_
    refine ds_set 13 sc_law.nd ?_
    refine de_subR ?_
    refine de_add rfl ?_
    refine de_ix rfl ?_
    refine de_var 3 rfl ?_
    refine de_var 12 rfl ?_
    refine mk_ix (atI_ints (md U x).1 (md U x).2) ?_
    refine de_var 11 rfl ?_
    refine ⟨trivial, ?_⟩  -- window[rest] + place
    refine de_var 12 rfl ?_
    refine ⟨trivial, ?_⟩
    refine dss_cons ?_
    refine ds_append 10 rfl (by rw [List.length_map, List.length_map, List.length_take]; omega) ?_
    refine de_var 13 rfl ?_
    refine dss_cons ?_
    refine ds_ifF ?_ ?_
    · refine dt_neS ?_
      refine de_repr hgu hr.units rfl T.repr ?_
      refine da_cons ?_
      refine de_lst ?_
      refine da_cons ?_
      refine de_f Dplace_at (hr.mono (by decide)) ?_
      refine da_cons ?_
      refine de_var 3 rfl ?_
      refine da_cons ?_
      refine de_var 11 rfl ?_
      refine da_nil ?_
      refine ⟨u, x, rfl, U, ?_⟩
      refine da_cons ?_
      refine de_f Dplace_back (hr.mono (by decide)) ?_
      refine da_cons ?_
      refine de_var 3 rfl ?_
      refine da_cons ?_
      refine de_var 13 rfl ?_
      refine da_nil ?_
      refine ⟨u, nx u x, rfl, U, by omega, ?_⟩
      rw [bk_nx U]
      refine da_nil ?_
      refine ⟨by simp, ?_⟩
      refine da_nil ?_
      refine ⟨rk, ?_⟩
      refine de_repr hgu hr.units rfl T.repr ?_
      refine da_cons ?_
      refine de_lst ?_
      refine da_cons ?_
      refine de_var 13 rfl ?_
      refine da_cons ?_
      refine de_var 11 rfl ?_
      refine da_nil ?_
      refine ⟨by simp, ?_⟩
      refine da_nil ?_
      refine ⟨rk, ?_⟩
      refine ⟨_, rfl, ?_⟩
      simp [nx]
    refine dss_nil ?_
    refine dss_cons ?_
    refine ds_ifF ?_ ?_
    · refine dt_neS ?_
      refine de_f Dplace_at (hr.mono (by decide)) ?_
      refine da_cons ?_
      refine de_var 3 rfl ?_
      refine da_cons ?_
      refine de_add rfl ?_
      refine de_var 11 rfl ?_
      refine de_mul ?_
      refine de_int ?_
      refine de_var 2 rfl ?_
      refine ⟨small_mul (by omega), ?_⟩
      refine ⟨trivial, ?_⟩  -- place + 7 * many
      refine da_nil ?_
      refine ⟨u, _, rfl, U, ?_⟩
      rw [show nx u (x + 7 * (u.length : Int)) = nx u x + 7 * (u.length : Int) by rw [Int.mul_comm]; exact nx_add]
      refine de_add rfl ?_
      refine de_var 13 rfl ?_
      refine de_mul ?_
      refine de_int ?_
      refine de_var 2 rfl ?_
      refine ⟨small_mul (by omega), ?_⟩
      refine ⟨trivial, ?_⟩  -- due + 7 * many
      refine ⟨_, rfl, ?_⟩
      simp [nx]
    refine dss_nil ?_
    refine dss_nil ?_
    have et : ((L.take (i + 1)).map (nx u)).map D.int = ((L.take i).map (nx u)).map D.int ++ [D.int (nx u x)] := by
      rw [List.take_add_one, hx, Option.toList_some, List.map_append, List.map_append]
      rfl
    exact ⟨(L.take (i + 1)).map (nx u), by simp only [et]; walk_at "le", rfl⟩
  obtain rfl : gs = L.map (nx u) := by
    have z : gs = (L.take (L.map D.int).length).map (nx u) := hI
    rwa [List.length_map, List.take_length] at z
  clear hI
  refine dss_cons ?_
  refine ds_ifF ?_ ?_
  · refine dt_neS ?_
    refine de_freeze 10 rfl ?_
    refine de_lenK L.length T.len ?_
    refine da_cons ?_
    refine de_dict rfl rfl T.dict ?_
    refine da_cons ?_
    refine de_lc (own := [("goal", 14)]) (g := gName 14) rfl sc_law.nd (show blkC ["script", "source", "many", "window", "k", "more", "numbers", "late", "low", "looks", "goals", "place", "rest", "due", "goal", "here", "moves", "number", "far", "some"] (defScope sLaw) _ _ = true by decide +kernel) (fun _ _ _ _ _ => pg_name (i := 14) sc_law.nd rfl (Or.inl rfl)) ?_ (fun a h => walk_own h)
    refine dlc_map (α := Int) D.int (fun x => D.tup [D.int x, D.int 0]) ?_
    refine di_seq rfl ?_
    refine de_var 10 rfl ?_
    refine ⟨L.map (nx u), rfl, by rw [List.length_map]; omega, fun q P x hx => ?_, ?_⟩
    · refine dgw_name 14 ?_
      intro s0 H0 C0 cl0 fp0
      refine de_tup ?_
      refine da_cons ?_
      refine de_var 14 rfl ?_
      refine da_cons ?_
      refine de_int ?_
      refine da_nil ?_
      refine ⟨by simp, ?_⟩
      rfl  -- elt  --[e1]
    refine da_nil ?_
    refine ⟨(L.map (nx u)).map fun x => ((Sum.inl x : Key), D.int 0), by simp only [List.map_map]; rfl, ?_⟩
    refine da_nil ?_
    refine ⟨goals_dict U Ln, ?_⟩
    refine de_lenN L.length rfl T.len ?_
    refine da_cons ?_
    refine de_own 10 rfl ?_
    refine da_nil ?_
    refine ⟨by simp [lenN, orb_len_eq, cells_len, mk_length], ?_⟩
    refine ⟨_, rfl, ?_⟩
    simp  -- len(dict([(goal, 0) for goal in goals])) != len(goals)  --[48]
  refine dss_nil ?_
  refine dss_cons ?_
  refine ds_forE PassesOwn.never rfl (σ := Unit) (fun _ => [.any, .dat (.ref a), .dat (.int (u.length : Nat)), .dat (.tup (u.map .int)), .dat (.int (k : Nat)), .dat (.int m), .any, .any, .dat (.int (0 - 10 ^ 290 - j21)), .dat (.lst (L.map .int)), .own o_goals ((L.map (nx u)).map .int), .any, .any, .any, .any, .any, .any, .any, .any, .any]) () rfl ?_
  refine di_seq rfl ?_
  refine de_add rfl ?_
  refine de_listRg rfl T.list ?_
  refine drg_1 T.range ?_
  refine de_var 2 rfl ?_
  refine ⟨smallRg (by omega) (by omega) (by omega) (by omega), ?_⟩  --[50]
  refine de_lst ?_
  refine da_cons ?_
  refine de_add rfl ?_
  refine de_pow ?_
  refine de_int ?_
  refine de_int ?_
  refine ⟨by unfold CPow; decide +kernel, ?_⟩  -- 10 ** 12  --[51]
  refine de_int ?_
  refine ⟨trivial, ?_⟩  -- 10 ** 12 + 5
  refine da_cons ?_
  refine de_neg ?_
  refine de_int ?_
  refine da_nil ?_
  refine ⟨by simp, ?_⟩
  refine ⟨by rw [List.length_map, rg_length]; simp only [List.length_cons, List.length_nil]; omega, ?_⟩
  refine ⟨fun _ _ => True, trivial, fun P i d s hd hI => ?_, fun s hI => ?_⟩
  · obtain ⟨y, rfl⟩ : ∃ y : Int, d = .int y := by
      rcases List.mem_append.mp (List.mem_of_getElem? hd) with h | h
      · obtain ⟨z, _, rfl⟩ := List.mem_map.mp h
        exact ⟨_, rfl⟩
      · simp only [List.mem_cons, List.not_mem_nil, or_false] at h
        rcases h with rfl | rfl <;> exact ⟨_, rfl⟩
    refine dg_name 11 sc_law.nd ?_
    refine dss_cons ?_
    refine ds_set 15 sc_law.nd ?_
    refine de_f Dplace_back (hr.mono (by decide)) ?_
    refine da_cons ?_
    refine de_var 3 rfl ?_
    refine da_cons ?_
    refine de_var 11 rfl ?_
    refine da_nil ?_
    refine ⟨u, y, rfl, U, by omega, ?_⟩
    refine dss_cons ?_
    refine ds_ifF ?_ ?_
    · refine dt_neS ?_
      refine de_f Dplace_at (hr.mono (by decide)) ?_
      refine da_cons ?_
      refine de_var 3 rfl ?_
      refine da_cons ?_
      refine de_var 15 rfl ?_
      refine da_nil ?_
      refine ⟨u, bk u y, rfl, U, ?_⟩
      rw [nx_bk U]
      refine de_var 11 rfl ?_
      refine ⟨_, rfl, ?_⟩
      simp  -- place_at(window, here) != place  --[56]
    refine dss_nil ?_
    refine dss_nil ?_
    exact ⟨(), by walk_at "le", trivial⟩
  refine dss_cons ?_
  refine ds_set 16 sc_law.nd ?_
  refine de_sum rfl rfl T.sum ?_
  refine da_cons ?_
  refine de_lc (own := [("rest", 12), ("number", 17)]) (g := gTup K 2 (gCons (gName 12) (gCons (gName 17) gNil))) rfl sc_law.nd (show blkC ["script", "source", "many", "window", "k", "more", "numbers", "late", "low", "looks", "goals", "place", "rest", "due", "goal", "here", "moves", "number", "far", "some"] (defScope sLaw) _ _ = true by decide +kernel) (fun _ _ _ _ _ => pg_tup rfl (pgs_cons (pg_name (i := 12) sc_law.nd rfl (Or.inl rfl)) (pgs_cons (pg_name (i := 17) sc_law.nd rfl (Or.inl rfl)) pgs_nil))) ?_ (fun a h => walk_own h)
  refine dlc_map (α := Int) (fun x => D.tup [D.int x, D.int (u.getD x.toNat 0)]) (fun x => D.int (u.getD x.toNat 0 - x)) ?_
  refine di_enum rfl T.enumerate ?_
  refine da_cons ?_
  refine de_var 3 rfl ?_
  refine da_nil ?_
  refine ⟨cells u.length, by rw [ints_cells, placed_cells], by rw [cells_len]; omega, fun q P x hx => ?_, ?_⟩
  · refine dgw_tup2 12 17 rfl ?_
    intro s0 H0 C0 cl0 fp0
    refine de_subR ?_
    refine de_var 17 rfl ?_
    refine de_var 12 rfl ?_
    refine ⟨trivial, ?_⟩
    rfl  -- elt  --[e2]
  refine da_nil ?_
  refine ⟨(cells u.length).map fun c => u.getD c.toNat 0 - c, by rw [List.map_map]; rfl, ?_⟩
  rw [moves_sum U]
  refine dss_cons ?_
  refine ds_ifF ?_ ?_
  · refine dt_w ?_
    refine dw_orS ?_
    refine dt_neS ?_
    refine de_modR ?_
    refine de_int1 T.int ?_
    refine da_cons ?_
    refine de_var 16 rfl ?_
    refine da_nil ?_
    refine de_var 2 rfl ?_
    refine ⟨by omega, ?_⟩
    refine de_int ?_
    refine ⟨_, rfl, ?_⟩
    refine iteFf (by rw [Int.mul_emod_right]; rfl) ?_
    refine dw_or1 ?_
    refine dt_neS ?_
    refine de_repr hgu hr.units rfl T.repr ?_
    refine da_cons ?_
    refine de_f Dpush_told (hr.mono (by decide)) ?_
    refine da_cons ?_
    refine de_var 3 rfl ?_
    refine da_nil ?_
    refine ⟨u, rfl, by omega, by omega, ?_⟩
    refine da_nil ?_
    refine ⟨rp, ?_⟩
    refine de_repr hgu hr.units rfl T.repr ?_
    refine da_cons ?_
    refine de_divR ?_
    refine de_var 16 rfl ?_
    refine de_var 2 rfl ?_
    refine ⟨small_div hn (by omega), ?_⟩
    rw [Int.mul_ediv_cancel_left _ (by omega)]
    refine da_nil ?_
    refine ⟨rp, ?_⟩
    refine ⟨_, rfl, ?_⟩
    simp  -- repr(push_told(window)) != repr(moves // many)  --[67]
  refine dss_nil ?_
  refine dss_cons ?_
  refine ds_ifF ?_ ?_
  · refine dt_w ?_
    refine dw_orS ?_
    refine dt_neS ?_
    refine de_repr hgu hr.units rfl T.repr ?_
    refine da_cons ?_
    refine de_f Dpush_told (hr.mono (by decide)) ?_
    refine da_cons ?_
    refine de_f Dwindow_pushed (hr.mono (by decide)) ?_
    refine da_cons ?_
    refine de_var 3 rfl ?_
    refine da_cons ?_
    refine de_int ?_
    refine da_nil ?_
    refine ⟨u, 5, rfl, by omega, few5, ?_⟩
    refine da_nil ?_
    refine ⟨u.map (· + 5), rfl, by rw [List.length_map]; omega, by rw [List.length_map]; omega, ?_⟩
    rw [push_pushed U]
    refine da_nil ?_
    refine ⟨rp5, ?_⟩
    refine de_repr hgu hr.units rfl T.repr ?_
    refine da_cons ?_
    refine de_add rfl ?_
    refine de_divR ?_
    refine de_var 16 rfl ?_
    refine de_var 2 rfl ?_
    refine ⟨small_div hn (by omega), ?_⟩
    rw [Int.mul_ediv_cancel_left _ (by omega)]
    refine de_int ?_
    refine ⟨trivial, ?_⟩  -- moves // many + 5
    refine da_nil ?_
    refine ⟨rp5, ?_⟩
    refine ⟨_, rfl, ?_⟩
    refine iteFf (by simp) ?_  -- repr(push_told(window_pushed(window, 5))) != repr(moves // many + 5)  --[73]
    refine dw_or1 ?_
    refine dt_neS ?_
    refine de_f Dpush_told (hr.mono (by decide)) ?_
    refine da_cons ?_
    refine de_f Dstraight_told (hr.mono (by decide)) ?_
    refine da_cons ?_
    refine de_var 2 rfl ?_
    refine da_nil ?_
    refine ⟨u.length, rfl, by omega, ?_⟩
    refine da_nil ?_
    refine ⟨cells u.length, rfl, by rw [cells_len]; omega, by rw [cells_len]; omega, ?_⟩
    rw [push_cells]
    refine de_int ?_
    refine ⟨_, rfl, ?_⟩
    simp  -- push_told(straight_told(many)) != 0  --[76]
  refine dss_nil ?_
  refine dss_cons ?_
  refine ds_ifF ?_ ?_
  · refine dt_w ?_
    refine dw_orS ?_
    refine dt_neS ?_
    refine de_repr hgu hr.units rfl T.repr ?_
    refine da_cons ?_
    refine de_f Dstraight_told (hr.mono (by decide)) ?_
    refine da_cons ?_
    refine de_var 2 rfl ?_
    refine da_nil ?_
    refine ⟨u.length, rfl, by omega, ?_⟩
    refine da_nil ?_
    refine ⟨rc, ?_⟩
    refine de_repr hgu hr.units rfl T.repr ?_
    refine da_cons ?_
    refine de_tupleRg rfl T.tuple ?_
    refine drg_1 T.range ?_
    refine de_var 2 rfl ?_
    refine ⟨smallRg (by omega) (by omega) (by omega) (by omega), ?_⟩  --[79]
    refine da_nil ?_
    rw [rg_cells]
    refine ⟨rc, ?_⟩
    refine ⟨_, rfl, ?_⟩
    refine iteFf (by simp) ?_  -- repr(straight_told(many)) != repr(tuple(range(many)))  --[81]
    refine dw_or1 ?_
    refine dt_neS ?_
    refine de_repr hgu hr.units rfl T.repr ?_
    refine da_cons ?_
    refine de_f Dwindow_made (hr.mono (by decide)) ?_
    refine da_cons ?_
    refine de_var 3 rfl ?_
    refine da_nil ?_
    refine ⟨_, u, rfl, .inl rfl, by omega, few, ?_⟩
    refine da_nil ?_
    refine ⟨ru, ?_⟩
    refine de_repr hgu hr.units rfl T.repr ?_
    refine da_cons ?_
    refine de_var 3 rfl ?_
    refine da_nil ?_
    refine ⟨ru, ?_⟩
    refine ⟨_, rfl, ?_⟩
    simp  -- repr(window_made(window)) != repr(window)  --[85]
  refine dss_nil ?_
  refine dss_cons ?_
  refine ds_asg ?_
  refine de_tup ?_
  refine da_cons ?_
  refine de_intS T.int ?_
  refine da_cons ?_
  refine de_add rfl ?_
  refine de_str ?_
  refine de_strRep ?_
  refine de_str ?_
  refine de_int ?_
  refine ⟨⟨by decide, by decide, by decide +kernel, by decide +kernel, by decide +kernel, by decide +kernel⟩, ?_⟩
  refine ⟨by decide +kernel, ?_⟩
  refine da_nil ?_
  refine ⟨(10 : Int) ^ 300, by decide +kernel, by decide +kernel, ?_⟩
  refine da_cons ?_
  refine de_f D_law_of (hr.mono (by decide)) ?_
  refine da_cons ?_
  refine de_var 1 rfl ?_
  refine da_cons ?_
  refine de_lst ?_
  refine da_cons ?_
  refine de_int ?_
  refine da_cons ?_
  refine de_int ?_
  refine da_nil ?_
  refine ⟨by simp, ?_⟩
  refine da_nil ?_
  refine ⟨_, _, _, _, rfl, rfl, .inl rfl, by simp, by simp, fun z hz => ?_⟩
  have hz2 : ∃ j : Int, z = .int j ∧ (j = 1 ∨ j = 0) := by
    simp only [List.mem_cons, List.not_mem_nil, or_false] at hz
    rcases hz with rfl | rfl
    · exact ⟨_, rfl, .inl rfl⟩
    · exact ⟨_, rfl, .inr rfl⟩
  obtain ⟨j, rfl, hj⟩ := hz2
  clear hz
  refine da_nil ?_
  refine ⟨by simp, ?_⟩
  refine dg_tup rfl rfl ?_ rfl
  refine dgs_2 18 7 sc_law.nd ?_
  refine dss_cons ?_
  refine ds_set 13 sc_law.nd ?_
  refine de_ifJ ?_
  refine dt_eqS ?_
  refine de_var 7 rfl ?_
  refine de_int ?_
  refine ⟨_, rfl, ?_⟩
  refine mk_join2 (y := .tup [.str "told", .tup [.int ((10 : Int) ^ 300 - 1)]]) (z := .tup [.str "great", .int 0]) ?_ ?_ ?_
  · intro hc
    refine de_tup ?_
    refine da_cons ?_
    refine de_str ?_
    refine da_cons ?_
    refine de_tup ?_
    refine da_cons ?_
    refine de_subR ?_
    refine de_var 18 rfl ?_
    refine de_int ?_
    refine ⟨trivial, ?_⟩
    refine da_nil ?_
    refine ⟨by simp, ?_⟩
    refine da_nil ?_
    refine ⟨by simp, ?_⟩
    exact rfl  -- join  --[89]
  · intro hc
    refine de_tup ?_
    refine da_cons ?_
    refine de_str ?_
    refine da_cons ?_
    refine de_int ?_
    refine da_nil ?_
    refine ⟨by simp, ?_⟩
    exact rfl  -- join  --[90]
  rw [val_join]
  refine dss_cons ?_
  refine ds_setF 19 sc_law.nd ?_
  refine df_lst ?_
  refine da_cons ?_
  refine de_cut (fun d => d = val10 ((10 : Int) ^ 300 - 1) j) ?_ ?_
  · refine de_told (k := 5) (R := fun d => j = 1 ∧ d = .tup [.int ((10 : Int) ^ 300 - 1)]) (Wn := fun n => j = 0 ∧ n = 0) Ctold rfl (hr.mono (by decide)) TB rfl hTab (.head _) hTu (LamX.lamS_by (sc := defScope sLaw) (by decide +kernel)) (fun A0 o0 s0 H0 HZ0 E0 f0 c0 hr L0 => ?_) (fun d hd => ?_) fun n hn => ?_
    · rcases hj with rfl | rfl
      · refine de_f Dwindow_made (hr.mono (by decide)) ?_
        refine da_cons ?_
        refine de_tup ?_
        refine da_cons ?_
        refine de_subR ?_
        refine de_var 18 rfl ?_
        refine de_var 7 rfl ?_
        refine ⟨trivial, ?_⟩
        refine da_nil ?_
        refine ⟨by simp, ?_⟩
        refine da_nil ?_
        exact ⟨_, [((10 : Int) ^ 300 - 1)], rfl, .inl rfl, by simp, fun x hx => by
          obtain rfl := List.mem_singleton.mp hx
          decide +kernel, rfl, rfl⟩
      · refine de_e Ewindow_made (L0 0 ⟨rfl, rfl⟩) (hr.mono (by decide)) ?_
        refine da_cons ?_
        refine de_tup ?_
        refine da_cons ?_
        refine de_subR ?_
        refine de_var 18 rfl ?_
        refine de_var 7 rfl ?_
        refine ⟨trivial, ?_⟩
        refine da_nil ?_
        refine ⟨by simp, ?_⟩
        refine da_nil ?_
        exact ⟨rfl, _, [(10 : Int) ^ 300 - 0], rfl, .inl rfl, by simp, fun x hx => by
          obtain rfl := List.mem_singleton.mp hx
          decide +kernel, _, .head _, by decide +kernel⟩
    · obtain ⟨rfl, rfl⟩ := hd
      exact (if_pos rfl).symm
    · obtain ⟨rfl, rfl⟩ := hn
      exact (if_neg (by decide)).symm
  rintro _ rfl
  refine da_nil ?_
  refine ⟨by simp, ?_⟩
  intro o_some
  refine dss_cons ?_
  refine ds_append 19 rfl (by simp) ?_
  refine de_cut (fun d => d = val10 ((10 : Int) ^ 300 - 1) j) ?_ ?_
  · refine de_told (k := 5) (R := fun d => j = 1 ∧ d = .tup [.int ((10 : Int) ^ 300 - 1)]) (Wn := fun n => j = 0 ∧ n = 0) Ctold rfl (hr.mono (by decide)) TB rfl hTab (.head _) hTu (LamX.lamS_by (sc := defScope sLaw) (by decide +kernel)) (fun A0 o0 s0 H0 HZ0 E0 f0 c0 hr L0 => ?_) (fun d hd => ?_) fun n hn => ?_
    · rcases hj with rfl | rfl
      · refine de_f Dwindow_pushed (hr.mono (by decide)) ?_
        refine da_cons ?_
        refine de_tup ?_
        refine da_cons ?_
        refine de_subR ?_
        refine de_var 18 rfl ?_
        refine de_int ?_
        refine ⟨trivial, ?_⟩
        refine da_nil ?_
        refine ⟨by simp, ?_⟩
        refine da_cons ?_
        refine de_subR ?_
        refine de_int ?_
        refine de_var 7 rfl ?_
        refine ⟨trivial, ?_⟩
        refine da_nil ?_
        exact ⟨[(10 : Int) ^ 300 - 7], 7 - 1, rfl, by simp, fun x hx => by
          obtain rfl := List.mem_singleton.mp hx
          decide +kernel, rfl, congrArg (fun z : Int => D.tup [D.int z]) (show (10 : Int) ^ 300 - 7 + (7 - 1) = 10 ^ 300 - 1 by decide +kernel)⟩
      · refine de_e Ewindow_pushed (L0 0 ⟨rfl, rfl⟩) (hr.mono (by decide)) ?_
        refine da_cons ?_
        refine de_tup ?_
        refine da_cons ?_
        refine de_subR ?_
        refine de_var 18 rfl ?_
        refine de_int ?_
        refine ⟨trivial, ?_⟩
        refine da_nil ?_
        refine ⟨by simp, ?_⟩
        refine da_cons ?_
        refine de_subR ?_
        refine de_int ?_
        refine de_var 7 rfl ?_
        refine ⟨trivial, ?_⟩
        refine da_nil ?_
        exact ⟨rfl, [(10 : Int) ^ 300 - 7], 7 - 0, rfl, by simp, fun x hx => by
          obtain rfl := List.mem_singleton.mp hx
          decide +kernel, _, .head _, by decide +kernel⟩
    · obtain ⟨rfl, rfl⟩ := hd
      exact (if_pos rfl).symm
    · obtain ⟨rfl, rfl⟩ := hn
      exact (if_neg (by decide)).symm
  rintro _ rfl
  refine dss_cons ?_
  refine ds_set 8 sc_law.nd ?_
  refine de_cut (fun d => d = val10 (1 - (10 : Int) ^ 300) j) ?_ ?_
  · refine de_told (k := 5) (R := fun d => j = 1 ∧ d = .tup [.int (1 - (10 : Int) ^ 300)]) (Wn := fun n => j = 0 ∧ n = 0) Ctold rfl (hr.mono (by decide)) TB rfl hTab (.head _) hTu (LamX.lamS_by (sc := defScope sLaw) (by decide +kernel)) (fun A0 o0 s0 H0 HZ0 E0 f0 c0 hr L0 => ?_) (fun d hd => ?_) fun n hn => ?_
    · rcases hj with rfl | rfl
      · refine de_f Dwindow_made (hr.mono (by decide)) ?_
        refine da_cons ?_
        refine de_tup ?_
        refine da_cons ?_
        refine de_subR ?_
        refine de_var 7 rfl ?_
        refine de_var 18 rfl ?_
        refine ⟨trivial, ?_⟩
        refine da_nil ?_
        refine ⟨by simp, ?_⟩
        refine da_nil ?_
        exact ⟨_, [(1 - (10 : Int) ^ 300)], rfl, .inl rfl, by simp, fun x hx => by
          obtain rfl := List.mem_singleton.mp hx
          decide +kernel, rfl, rfl⟩
      · refine de_e Ewindow_made (L0 0 ⟨rfl, rfl⟩) (hr.mono (by decide)) ?_
        refine da_cons ?_
        refine de_tup ?_
        refine da_cons ?_
        refine de_subR ?_
        refine de_var 7 rfl ?_
        refine de_var 18 rfl ?_
        refine ⟨trivial, ?_⟩
        refine da_nil ?_
        refine ⟨by simp, ?_⟩
        refine da_nil ?_
        exact ⟨rfl, _, [0 - (10 : Int) ^ 300], rfl, .inl rfl, by simp, fun x hx => by
          obtain rfl := List.mem_singleton.mp hx
          decide +kernel, _, .head _, by decide +kernel⟩
    · obtain ⟨rfl, rfl⟩ := hd
      exact (if_pos rfl).symm
    · obtain ⟨rfl, rfl⟩ := hn
      exact (if_neg (by decide)).symm
  rintro _ rfl
  refine dss_cons ?_
  refine ds_ret ?_
  refine de_and ?_
  refine de_eq hr.units rfl ?_
  refine de_own 19 rfl ?_
  refine de_lst ?_
  refine da_cons ?_
  refine de_var 13 rfl ?_
  refine da_cons ?_
  refine de_var 13 rfl ?_
  refine da_nil ?_
  refine ⟨by simp, ?_⟩
  refine ⟨⟨flat_vals, flat_vals⟩, ?_⟩
  apply mk_join  --[111]
  · intro hb
    refine de_one ?_
    refine de_eq hr.units rfl ?_
    refine de_var 8 rfl ?_
    refine de_ifJ ?_  -- ('told', (1 - far,)) if late == 1 else ('great', 0  --[112]
    refine dt_eqS ?_
    refine de_var 7 rfl ?_
    refine de_int ?_
    refine ⟨_, rfl, ?_⟩
    refine mk_join2 (y := .tup [.str "told", .tup [.int (1 - (10 : Int) ^ 300)]]) (z := .tup [.str "great", .int 0]) ?_ ?_ ?_
    · intro hc
      refine de_tup ?_
      refine da_cons ?_
      refine de_str ?_
      refine da_cons ?_
      refine de_tup ?_
      refine da_cons ?_
      refine de_subR ?_
      refine de_int ?_
      refine de_var 18 rfl ?_
      refine ⟨trivial, ?_⟩
      refine da_nil ?_
      refine ⟨by simp, ?_⟩
      refine da_nil ?_
      refine ⟨by simp, ?_⟩
      exact rfl  -- join  --[114]
    · intro hc
      refine de_tup ?_
      refine da_cons ?_
      refine de_str ?_
      refine da_cons ?_
      refine de_int ?_
      refine da_nil ?_
      refine ⟨by simp, ?_⟩
      exact rfl  -- join  --[115]
    rw [val_join]
    refine ⟨⟨flat_val (k := 58), flat_val (k := 58)⟩, ?_⟩
    exact rfl
  show D.bl (eqD (.lst [val10 ((10 : Int) ^ 300 - 1) j, val10 ((10 : Int) ^ 300 - 1) j]) (.lst [val10 ((10 : Int) ^ 300 - 1) j, val10 ((10 : Int) ^ 300 - 1) j]) && eqD (val10 (1 - (10 : Int) ^ 300) j) (val10 (1 - (10 : Int) ^ 300) j)) = _
  rw [eqD_refl flat_vals, eqD_refl (flat_val (k := 58))]
  rfl

end
end W

namespace W
open PySem PySem.Spec PyProof.Rows L2 Dw
theorem all_mk {l : PySem.W.OpenLaw} {w : World} {K : PySem.W.Frag} {h : Heap} {mg : Str → Option Value} {fa f0 f1 f2 f3 f4 f5 f6 f7 f8 f9 f10 f11 f12 f13 f14 f15 f16 f17 cdL PtL : Addr} (X : K.In h) (G : h.Ns mainGlobals mg) (hfa : mg "law" = some (.ref fa))
    {od0 an0 od1 an1 od2 an2 od3 an3 od4 an4 od5 an5 od6 an6 od7 an7 od8 an8 od9 an9 od10 an10 od11 an11 od12 an12 od13 an13 od14 an14 od15 an15 od16 an16 od17 an17 : Option Addr} {sl0 sl1 sl2 sl3 sl4 sl5 sl6 sl7 sl8 sl9 sl10 sl11 sl12 sl13 sl14 sl15 sl16 sl17 : Array (Option Value)} {oc0 kV0 dc0 pm0 cd0 ct0 oc1 kV1 dc1 pm1 cd1 ct1 oc2 kV2 dc2 pm2 cd2 ct2 oc3 kV3 dc3 pm3 cd3 ct3 oc4 kV4 dc4 pm4 cd4 ct4 oc5 kV5 dc5 pm5 cd5 ct5 oc6 kV6 dc6 pm6 cd6 ct6 oc7 kV7 dc7 pm7 cd7 ct7 oc8 kV8 dc8 pm8 cd8 ct8 oc9 kV9 dc9 pm9 cd9 ct9 oc10 kV10 dc10 pm10 cd10 ct10 oc11 kV11 dc11 pm11 cd11 ct11 oc12 kV12 dc12 pm12 cd12 ct12 oc13 kV13 dc13 pm13 cd13 ct13 oc14 kV14 dc14 pm14 cd14 ct14 oc15 kV15 dc15 pm15 cd15 ct15 oc16 kV16 dc16 pm16 cd16 ct16 oc17 kV17 dc17 pm17 ct17 : Value}
    (a0 : PySem.W.nsIn K mainGlobals "is_long" = some (some (.ref f0))) (l0 : K.lookup f0 = some ⟨oc0, od0, .func (PySem.W.fnOf "is_long" "is_long" (defArgs s_is_long) (defBody s_is_long) (defScope s_is_long) .none kV0 dc0 pm0 an0 cd0 ct0), sl0⟩) (c0 : PySem.W.codeIn K cd0 "is_long" = true) (k0 : PySem.W.keepIn K (.ref f0) = true)
    (a1 : PySem.W.nsIn K mainGlobals "not_long" = some (some (.ref f1))) (l1 : K.lookup f1 = some ⟨oc1, od1, .func (PySem.W.fnOf "not_long" "not_long" (defArgs s_not_long) (defBody s_not_long) (defScope s_not_long) .none kV1 dc1 pm1 an1 cd1 ct1), sl1⟩) (c1 : PySem.W.codeIn K cd1 "not_long" = true) (k1 : PySem.W.keepIn K (.ref f1) = true)
    (a2 : PySem.W.nsIn K mainGlobals "window_made" = some (some (.ref f2))) (l2 : K.lookup f2 = some ⟨oc2, od2, .func (PySem.W.fnOf "window_made" "window_made" (defArgs s_window_made) (defBody s_window_made) (defScope s_window_made) .none kV2 dc2 pm2 an2 cd2 ct2), sl2⟩) (c2 : PySem.W.codeIn K cd2 "window_made" = true) (k2 : PySem.W.keepIn K (.ref f2) = true)
    (a3 : PySem.W.nsIn K mainGlobals "is_window" = some (some (.ref f3))) (l3 : K.lookup f3 = some ⟨oc3, od3, .func (PySem.W.fnOf "is_window" "is_window" (defArgs s_is_window) (defBody s_is_window) (defScope s_is_window) .none kV3 dc3 pm3 an3 cd3 ct3), sl3⟩) (c3 : PySem.W.codeIn K cd3 "is_window" = true) (k3 : PySem.W.keepIn K (.ref f3) = true)
    (a4 : PySem.W.nsIn K mainGlobals "place_at" = some (some (.ref f4))) (l4 : K.lookup f4 = some ⟨oc4, od4, .func (PySem.W.fnOf "place_at" "place_at" (defArgs s_place_at) (defBody s_place_at) (defScope s_place_at) .none kV4 dc4 pm4 an4 cd4 ct4), sl4⟩) (c4 : PySem.W.codeIn K cd4 "place_at" = true) (k4 : PySem.W.keepIn K (.ref f4) = true)
    (a5 : PySem.W.nsIn K mainGlobals "place_back" = some (some (.ref f5))) (l5 : K.lookup f5 = some ⟨oc5, od5, .func (PySem.W.fnOf "place_back" "place_back" (defArgs s_place_back) (defBody s_place_back) (defScope s_place_back) .none kV5 dc5 pm5 an5 cd5 ct5), sl5⟩) (c5 : PySem.W.codeIn K cd5 "place_back" = true) (k5 : PySem.W.keepIn K (.ref f5) = true)
    (a6 : PySem.W.nsIn K mainGlobals "straight_told" = some (some (.ref f6))) (l6 : K.lookup f6 = some ⟨oc6, od6, .func (PySem.W.fnOf "straight_told" "straight_told" (defArgs s_straight_told) (defBody s_straight_told) (defScope s_straight_told) .none kV6 dc6 pm6 an6 cd6 ct6), sl6⟩) (c6 : PySem.W.codeIn K cd6 "straight_told" = true) (k6 : PySem.W.keepIn K (.ref f6) = true)
    (a7 : PySem.W.nsIn K mainGlobals "push_told" = some (some (.ref f7))) (l7 : K.lookup f7 = some ⟨oc7, od7, .func (PySem.W.fnOf "push_told" "push_told" (defArgs s_push_told) (defBody s_push_told) (defScope s_push_told) .none kV7 dc7 pm7 an7 cd7 ct7), sl7⟩) (c7 : PySem.W.codeIn K cd7 "push_told" = true) (k7 : PySem.W.keepIn K (.ref f7) = true)
    (a8 : PySem.W.nsIn K mainGlobals "window_pushed" = some (some (.ref f8))) (l8 : K.lookup f8 = some ⟨oc8, od8, .func (PySem.W.fnOf "window_pushed" "window_pushed" (defArgs s_window_pushed) (defBody s_window_pushed) (defScope s_window_pushed) .none kV8 dc8 pm8 an8 cd8 ct8), sl8⟩) (c8 : PySem.W.codeIn K cd8 "window_pushed" = true) (k8 : PySem.W.keepIn K (.ref f8) = true)
    (a9 : PySem.W.nsIn K mainGlobals "_law_source" = some (some (.ref f9))) (l9 : K.lookup f9 = some ⟨oc9, od9, .func (PySem.W.fnOf "_law_source" "_law_source" (defArgs sSource) (defBody sSource) (defScope sSource) .none kV9 dc9 pm9 an9 cd9 ct9), sl9⟩) (c9 : PySem.W.codeIn K cd9 "_law_source" = true) (k9 : PySem.W.keepIn K (.ref f9) = true)
    (a10 : PySem.W.nsIn K mainGlobals "_law_pick" = some (some (.ref f10))) (l10 : K.lookup f10 = some ⟨oc10, od10, .func (PySem.W.fnOf "_law_pick" "_law_pick" (defArgs sPick) (defBody sPick) (defScope sPick) .none kV10 dc10 pm10 an10 cd10 ct10), sl10⟩) (c10 : PySem.W.codeIn K cd10 "_law_pick" = true) (k10 : PySem.W.keepIn K (.ref f10) = true)
    (a11 : PySem.W.nsIn K mainGlobals "_law_of" = some (some (.ref f11))) (l11 : K.lookup f11 = some ⟨oc11, od11, .func (PySem.W.fnOf "_law_of" "_law_of" (defArgs sOf) (defBody sOf) (defScope sOf) .none kV11 dc11 pm11 an11 cd11 ct11), sl11⟩) (c11 : PySem.W.codeIn K cd11 "_law_of" = true) (k11 : PySem.W.keepIn K (.ref f11) = true)
    (a12 : PySem.W.nsIn K mainGlobals "_law_mixed" = some (some (.ref f12))) (l12 : K.lookup f12 = some ⟨oc12, od12, .func (PySem.W.fnOf "_law_mixed" "_law_mixed" (defArgs sMixed) (defBody sMixed) (defScope sMixed) .none kV12 dc12 pm12 an12 cd12 ct12), sl12⟩) (c12 : PySem.W.codeIn K cd12 "_law_mixed" = true) (k12 : PySem.W.keepIn K (.ref f12) = true)
    (a13 : PySem.W.nsIn K mainGlobals "_law_far" = some (some (.ref f13))) (l13 : K.lookup f13 = some ⟨oc13, od13, .func (PySem.W.fnOf "_law_far" "_law_far" (defArgs s__law_far) (defBody s__law_far) (defScope s__law_far) .none kV13 dc13 pm13 an13 cd13 ct13), sl13⟩) (c13 : PySem.W.codeIn K cd13 "_law_far" = true) (k13 : PySem.W.keepIn K (.ref f13) = true)
    (a14 : PySem.W.nsIn K mainGlobals "_law_window" = some (some (.ref f14))) (l14 : K.lookup f14 = some ⟨oc14, od14, .func (PySem.W.fnOf "_law_window" "_law_window" (defArgs s__law_window) (defBody s__law_window) (defScope s__law_window) .none kV14 dc14 pm14 an14 cd14 ct14), sl14⟩) (c14 : PySem.W.codeIn K cd14 "_law_window" = true) (k14 : PySem.W.keepIn K (.ref f14) = true)
    (a15 : PySem.W.nsIn K mainGlobals "_law_told" = some (some (.ref f15))) (l15 : K.lookup f15 = some ⟨oc15, od15, .func (PySem.W.fnOf "_law_told" "_law_told" (defArgs sTold) (defBody sTold) (defScope sTold) .none kV15 dc15 pm15 an15 cd15 ct15), sl15⟩) (c15 : PySem.W.codeIn K cd15 "_law_told" = true) (k15 : PySem.W.keepIn K (.ref f15) = true)
    (a16 : PySem.W.nsIn K mainGlobals "_law_is_unlike" = some (some (.ref f16))) (l16 : K.lookup f16 = some ⟨oc16, od16, .func (PySem.W.fnOf "_law_is_unlike" "_law_is_unlike" (defArgs s__law_is_unlike) (defBody s__law_is_unlike) (defScope s__law_is_unlike) .none kV16 dc16 pm16 an16 cd16 ct16), sl16⟩) (c16 : PySem.W.codeIn K cd16 "_law_is_unlike" = true) (k16 : PySem.W.keepIn K (.ref f16) = true)
    (a17 : PySem.W.nsIn K mainGlobals "law" = some (some (.ref f17))) (l17 : K.lookup f17 = some ⟨oc17, od17, .func (PySem.W.fnOf "law" "law" (defArgs sLaw) (defBody sLaw) (defScope sLaw) .none kV17 dc17 pm17 an17 (.ref cdL) ct17), sl17⟩) (c17 : PySem.W.codeIn K (.ref cdL) "law" = true) (k17 : PySem.W.keepIn K (.ref f17) = true)
    {gC gN gI gcc gcda : Addr} {gnm gq : Str} {gbs gbm gsub : List Value} {gsn : List Str} {gab : Bool} {gcol : Option Bool} {gdd god gan gcld gcdd : Option Addr} {gk0 gk1 gk2 gk3 gk5 : Option Value} {goc gkV gdoc gpm gct gcl gccl : Value} {gosl gcsl gccs : Array (Option Value)} {gcdD : ClassData} {gvs : Array Value} {gtf : Tok} {lccl : Value} {lcdd : Option Addr} {lvs : Array Value} {lccs : Array (Option Value)} {t6 : Tok} {t1 t2 : Tok}
    (tg_m : PySem.W.nsIn K mainGlobals "TooGreat" = some (some (.ref gC)))
    (tg_C : K.lookup gC = some (excClassObj gnm gq gC gN gbs gbm true gsn gsub gab gcol gdd gk0 gk1 gk2 gk3 gk5 "ValueError.__new__"))
    (tg_bm : PySem.HandSPX.refsVE gbm = true)
    (tg_sa : PySem.W.findIn K (.ref gC) "__setattr__" = some (some (.builtin "object.__setattr__")))
    (tg_ex : PySem.W.subIn K (.ref gC) (.type "BaseException") = some true)
    (tg_ty : PySem.W.typeIn K (.ref gC) = some (.type "type"))
    (tg_kC : PySem.W.keepIn K (.ref gC) = true)
    (tg_in : PySem.W.findIn K (.ref gC) "__init__" = some (some (.ref gI)))
    (tg_tI : PySem.W.typeIn K (.ref gI) = some (.type "function"))
    (tg_ga : PySem.W.findIn K (.ref gC) "__getattribute__" = some (some (.builtin "BaseException.__getattribute__")))
    (tg_gg : PySem.W.findIn K (.ref gC) "__getattr__" = some none)
    (tg_hd : PySem.W.hasDictIn K gC = true)
    (tg_exm : PySem.W.exmOne K (.ref gC) (.ref gC) = some true)
    (tg_f : K.lookup gI = some ⟨goc, god, .func (PySem.W.fnX "__init__" "TooGreat.__init__" (defArgs sTG) (defBody sTG) (defScope sTG) [("__class__", gcc)] .none gkV gdoc gpm gan (.ref gcda) gct), gosl⟩)
    (tg_cd : PySem.W.codeIn K (.ref gcda) "TooGreat.__init__" = true)
    (tg_cell : K.lookup gcc = some ⟨gcl, gcld, .cell (some (.ref gC)), gcsl⟩)
    (tg_D : PySem.W.clsIn K gC = some gcdD)
    (tg_sub : PySem.W.mroIn K gC (.ref gC) = some true)
    (tg_super : PySem.W.nsIn K mainGlobals "super" = some none)
    (tg_code : K.lookup gcda = some ⟨gccl, gcdd, .fields gvs, gccs⟩)
    (tg_vs : gvs[2]? = some (.str l.prog.main.file gtf))
    (tg_top : (l.prog.main.scope.names.lookup ("super" : Str)).isSome = false)
    (tg_ini : PySem.W.alongIn K "__init__" ((gcdD.mro.dropWhile (· != .ref gC)).drop 1) = some (some (.builtin "ValueError.__init__")))
    (tg_VE : PySem.W.subIn K (.ref gC) (.type "ValueError") = some true)
    (tg_op : PySem.W.nsIn K cStatics "thirdparty.any" = some none)
    (tg_no : PySem.W.findIn K (.ref gC) "number" = some none)
    (tg_lcode : K.lookup cdL = some ⟨lccl, lcdd, .fields lvs, lccs⟩)
    (tg_lpt : lvs[11]? = some (.ref PtL))
    (e_longn : PySem.W.nsIn K mainGlobals "LONG_NUMBER" = some (some (.int 0 t6)))
    (e_bits : PySem.W.nsIn K mainGlobals "SURE_BITS" = some (some (.int 997 t1)))
    (e_figs : PySem.W.nsIn K mainGlobals "MOST_FIGURES" = some (some (.int 300 t2)))
    (z_len : PySem.W.nsIn K mainGlobals "len" = some none) (z_tuple : PySem.W.nsIn K mainGlobals "tuple" = some none) (z_list : PySem.W.nsIn K mainGlobals "list" = some none) (z_range : PySem.W.nsIn K mainGlobals "range" = some none) (z_dict : PySem.W.nsIn K mainGlobals "dict" = some none) (z_int : PySem.W.nsIn K mainGlobals "int" = some none) (z_str : PySem.W.nsIn K mainGlobals "str" = some none) (z_min : PySem.W.nsIn K mainGlobals "min" = some none) (z_max : PySem.W.nsIn K mainGlobals "max" = some none) (z_sorted : PySem.W.nsIn K mainGlobals "sorted" = some none) (z_sum : PySem.W.nsIn K mainGlobals "sum" = some none) (z_repr : PySem.W.nsIn K mainGlobals "repr" = some none) (z_abs : PySem.W.nsIn K mainGlobals "abs" = some none) (z_any : PySem.W.nsIn K mainGlobals "any" = some none) (z_all : PySem.W.nsIn K mainGlobals "all" = some none) (z_enumerate : PySem.W.nsIn K mainGlobals "enumerate" = some none) (z_zip : PySem.W.nsIn K mainGlobals "zip" = some none) :
    ∃ fd : FuncData, (∀ (s : Shared) (v : Value), BindsTo s fd ⟨[v], []⟩ [("script", v)]) ∧ ∀ base : Heap, K.In base → base.Ns mainGlobals mg → (∀ p ∈ [(cdL, PtL)], LamX.TabB base mg p.1 p.2) → FnG l.prog w K mg base 8 fa fd ["script"] (spLawT [(cdL, PtL)] K) := by
  have e := hfa.symm.trans (PySem.W.mg_of X G a17)
  cases e
  have m_len := PySem.W.mg_none_of X G z_len
  have m_tuple := PySem.W.mg_none_of X G z_tuple
  have m_list := PySem.W.mg_none_of X G z_list
  have m_range := PySem.W.mg_none_of X G z_range
  have m_dict := PySem.W.mg_none_of X G z_dict
  have m_int := PySem.W.mg_none_of X G z_int
  have m_str := PySem.W.mg_none_of X G z_str
  have m_min := PySem.W.mg_none_of X G z_min
  have m_max := PySem.W.mg_none_of X G z_max
  have m_sorted := PySem.W.mg_none_of X G z_sorted
  have m_sum := PySem.W.mg_none_of X G z_sum
  have m_repr := PySem.W.mg_none_of X G z_repr
  have m_abs := PySem.W.mg_none_of X G z_abs
  have m_any := PySem.W.mg_none_of X G z_any
  have m_all := PySem.W.mg_none_of X G z_all
  have m_enumerate := PySem.W.mg_none_of X G z_enumerate
  have m_zip := PySem.W.mg_none_of X G z_zip
  have Ais_long : At K mg "is_long" s_is_long ["number"] := At.mk' (PySem.W.mg_of X G a0) l0 c0 k0 fun _ _ _ _ _ _ us hl => match us, hl with | [_], _ => rfl
  have Anot_long : At K mg "not_long" s_not_long ["numbers"] := At.mk' (PySem.W.mg_of X G a1) l1 c1 k1 fun _ _ _ _ _ _ us hl => match us, hl with | [_], _ => rfl
  have Awindow_made : At K mg "window_made" s_window_made ["window"] := At.mk' (PySem.W.mg_of X G a2) l2 c2 k2 fun _ _ _ _ _ _ us hl => match us, hl with | [_], _ => rfl
  have Ais_window : At K mg "is_window" s_is_window ["numbers"] := At.mk' (PySem.W.mg_of X G a3) l3 c3 k3 fun _ _ _ _ _ _ us hl => match us, hl with | [_], _ => rfl
  have Aplace_at : At K mg "place_at" s_place_at ["window", "place"] := At.mk' (PySem.W.mg_of X G a4) l4 c4 k4 fun _ _ _ _ _ _ us hl => match us, hl with | [_, _], _ => rfl
  have Aplace_back : At K mg "place_back" s_place_back ["window", "place"] := At.mk' (PySem.W.mg_of X G a5) l5 c5 k5 fun _ _ _ _ _ _ us hl => match us, hl with | [_, _], _ => rfl
  have Astraight_told : At K mg "straight_told" s_straight_told ["many"] := At.mk' (PySem.W.mg_of X G a6) l6 c6 k6 fun _ _ _ _ _ _ us hl => match us, hl with | [_], _ => rfl
  have Apush_told : At K mg "push_told" s_push_told ["window"] := At.mk' (PySem.W.mg_of X G a7) l7 c7 k7 fun _ _ _ _ _ _ us hl => match us, hl with | [_], _ => rfl
  have Awindow_pushed : At K mg "window_pushed" s_window_pushed ["window", "much"] := At.mk' (PySem.W.mg_of X G a8) l8 c8 k8 fun _ _ _ _ _ _ us hl => match us, hl with | [_, _], _ => rfl
  have A_law_source : At K mg "_law_source" sSource ["script"] := At.mk' (PySem.W.mg_of X G a9) l9 c9 k9 fun _ _ _ _ _ _ us hl => match us, hl with | [_], _ => rfl
  have A_law_pick : At K mg "_law_pick" sPick ["source", "many"] := At.mk' (PySem.W.mg_of X G a10) l10 c10 k10 fun _ _ _ _ _ _ us hl => match us, hl with | [_, _], _ => rfl
  have A_law_of : At K mg "_law_of" sOf ["source", "some"] := At.mk' (PySem.W.mg_of X G a11) l11 c11 k11 fun _ _ _ _ _ _ us hl => match us, hl with | [_, _], _ => rfl
  have A_law_mixed : At K mg "_law_mixed" sMixed ["source", "things"] := At.mk' (PySem.W.mg_of X G a12) l12 c12 k12 fun _ _ _ _ _ _ us hl => match us, hl with | [_, _], _ => rfl
  have A_law_far : At K mg "_law_far" s__law_far ["source"] := At.mk' (PySem.W.mg_of X G a13) l13 c13 k13 fun _ _ _ _ _ _ us hl => match us, hl with | [_], _ => rfl
  have A_law_window : At K mg "_law_window" s__law_window ["source", "many"] := At.mk' (PySem.W.mg_of X G a14) l14 c14 k14 fun _ _ _ _ _ _ us hl => match us, hl with | [_, _], _ => rfl
  have A_law_told : At K mg "_law_told" sTold ["call"] := At.mk' (PySem.W.mg_of X G a15) l15 c15 k15 fun _ _ _ _ _ _ us hl => match us, hl with | [_], _ => rfl
  have A_law_is_unlike : At K mg "_law_is_unlike" s__law_is_unlike ["numbers"] := At.mk' (PySem.W.mg_of X G a16) l16 c16 k16 fun _ _ _ _ _ _ us hl => match us, hl with | [_], _ => rfl
  refine ⟨PySem.W.fnOf "law" "law" (defArgs sLaw) (defBody sLaw) (defScope sLaw) .none kV17 dc17 pm17 an17 (.ref cdL) ct17, fun s v => .of_eq rfl, fun base _ _ tbs => ?_⟩
  have TB := tbs _ (.head _)
  have CLawCode : LawCode K _ (.ref cdL) := ⟨_, _, _, _, l17, rfl⟩
  have Flaw := fun_mk (st := sLaw) l17 c17 k17
  have T : Bl mg := ⟨m_len, m_tuple, m_list, m_range, m_dict, m_int, m_str, m_min, m_max, m_sorted, m_sum, m_repr, m_abs, m_any, m_all, m_enumerate, m_zip⟩
  have CTG : TG l.prog w K mg base "TooGreat" gC := tg_mk X G tg_m tg_C tg_bm tg_sa tg_ex tg_ty tg_kC tg_in tg_tI tg_ga tg_gg tg_hd tg_exm tg_f tg_cd tg_cell tg_D tg_sub tg_super tg_code tg_vs tg_top tg_ini tg_VE tg_op tg_no
  have CLongN : LongN mg := ⟨⟨t6, PySem.W.mg_of X G e_longn⟩⟩
  have CLines : Lines mg := ⟨⟨t1, PySem.W.mg_of X G e_bits⟩, ⟨t2, PySem.W.mg_of X G e_figs⟩⟩
  have CTold := told_of (P := l.prog) (w := w) (base := base) A_law_told CTG
  have X_is_long := okx_is_long (P := l.prog) (w := w) (base := base) Ais_long T CLines
  have E_not_long := oke_not_long (P := l.prog) (w := w) (base := base) Anot_long T CTG CLongN X_is_long
  have E_window_made := oke_window_made (P := l.prog) (w := w) (base := base) Awindow_made T E_not_long
  have E_window_pushed := oke_window_pushed (P := l.prog) (w := w) (base := base) Awindow_pushed T E_window_made
  obtain ⟨fp, fdp, Fp, mp, bp⟩ := A_law_pick.ex
  have D__law_pick : Df l.prog w K mg base "_law_pick" 1 ["source", "many"] fsPick := ⟨fp, fdp, ok_pick (k := 0) Fp m_len m_max m_int, mp, Fp.kp, bp⟩
  have D__law_mixed := ok__law_mixed (P := l.prog) (w := w) (base := base) A_law_mixed T D__law_pick
  have D__law_of := ok__law_of (P := l.prog) (w := w) (base := base) A_law_of T D__law_pick
  have D__law_far := ok__law_far (P := l.prog) (w := w) (base := base) A_law_far T D__law_of
  have D__law_window := ok__law_window (P := l.prog) (w := w) (base := base) A_law_window T D__law_mixed D__law_far
  have D_is_window := ok_is_window (P := l.prog) (w := w) (base := base) Ais_window T
  have D__law_is_unlike := ok__law_is_unlike (P := l.prog) (w := w) (base := base) A_law_is_unlike T
  have D_place_at := ok_place_at (P := l.prog) (w := w) (base := base) Aplace_at T
  have D_place_back := ok_place_back (P := l.prog) (w := w) (base := base) Aplace_back T
  have D_push_told := ok_push_told (P := l.prog) (w := w) (base := base) Apush_told T
  have D_is_long := ok_is_long (P := l.prog) (w := w) (base := base) Ais_long T CLines
  have D_not_long := ok_not_long (P := l.prog) (w := w) (base := base) Anot_long T D_is_long
  have D_window_made := ok_window_made (P := l.prog) (w := w) (base := base) Awindow_made T D_not_long
  have D_window_pushed := ok_window_pushed (P := l.prog) (w := w) (base := base) Awindow_pushed T D_window_made
  have D_straight_told := ok_straight_told (P := l.prog) (w := w) (base := base) Astraight_told T
  exact ok_law (P := l.prog) (w := w) (base := base) Flaw A_law_source T CTold CLawCode TB E_window_made E_window_pushed D__law_pick D__law_window D__law_of D_is_window D__law_is_unlike D_place_at D_place_back D_push_told D_window_pushed D_straight_told D_window_made

end W

open PySem PySem.W PyProof.Rows in
set_option maxRecDepth 100000 in
set_option maxHeartbeats 0 in
theorem PySem.Challenge.cw_movedalike_k10_windows_right_by_rests_holds : PySem.Challenge.rw_movedalike_k10_windows_right_by_rests.Holds := by
  w_on; o_law; k_head; (case hw => w_witness2)
  k_fill
  refine' Dw.walkGT (l := PySem.Challenge.rw_movedalike_k10_windows_right_by_rests) (n := 63) (k := 8) (x := "script") (cs := [(_, _)]) rfl (by decide) rfl ⟨rfl, by decide, by decide⟩ (fun w h Y => PySem.W.km_in_of Y) ?hT ?nK ?hC ?F
  case F =>
    intro w mg fa h KX G hmg
    refine' W.all_mk KX G hmg ?a0 ?l0 ?c0 ?k0 ?a1 ?l1 ?c1 ?k1 ?a2 ?l2 ?c2 ?k2 ?a3 ?l3 ?c3 ?k3 ?a4 ?l4 ?c4 ?k4 ?a5 ?l5 ?c5 ?k5 ?a6 ?l6 ?c6 ?k6 ?a7 ?l7 ?c7 ?k7 ?a8 ?l8 ?c8 ?k8 ?a9 ?l9 ?c9 ?k9 ?a10 ?l10 ?c10 ?k10 ?a11 ?l11 ?c11 ?k11 ?a12 ?l12 ?c12 ?k12 ?a13 ?l13 ?c13 ?k13 ?a14 ?l14 ?c14 ?k14 ?a15 ?l15 ?c15 ?k15 ?a16 ?l16 ?c16 ?k16 ?a17 ?l17 ?c17 ?k17 ?tg_m ?tg_C ?tg_bm ?tg_sa ?tg_ex ?tg_ty ?tg_kC ?tg_in ?tg_tI ?tg_ga ?tg_gg ?tg_hd ?tg_exm ?tg_f ?tg_cd ?tg_cell ?tg_D ?tg_sub ?tg_super ?tg_code ?tg_vs ?tg_top ?tg_ini ?tg_VE ?tg_op ?tg_no ?tg_lcode ?tg_lpt ?e_longn ?e_bits ?e_figs ?z_len ?z_tuple ?z_list ?z_range ?z_dict ?z_int ?z_str ?z_min ?z_max ?z_sorted ?z_sum ?z_repr ?z_abs ?z_any ?z_all ?z_enumerate ?z_zip
    (case a0 => k_is)
    (case l0 => k_is)
    (case c0 => k_is)
    (case k0 => k_is)
    (case a1 => k_is)
    (case l1 => k_is)
    (case c1 => k_is)
    (case k1 => k_is)
    (case a2 => k_is)
    (case l2 => k_is)
    (case c2 => k_is)
    (case k2 => k_is)
    (case a3 => k_is)
    (case l3 => k_is)
    (case c3 => k_is)
    (case k3 => k_is)
    (case a4 => k_is)
    (case l4 => k_is)
    (case c4 => k_is)
    (case k4 => k_is)
    (case a5 => k_is)
    (case l5 => k_is)
    (case c5 => k_is)
    (case k5 => k_is)
    (case a6 => k_is)
    (case l6 => k_is)
    (case c6 => k_is)
    (case k6 => k_is)
    (case a7 => k_is)
    (case l7 => k_is)
    (case c7 => k_is)
    (case k7 => k_is)
    (case a8 => k_is)
    (case l8 => k_is)
    (case c8 => k_is)
    (case k8 => k_is)
    (case a9 => k_is)
    (case l9 => k_is)
    (case c9 => k_is)
    (case k9 => k_is)
    (case a10 => k_is)
    (case l10 => k_is)
    (case c10 => k_is)
    (case k10 => k_is)
    (case a11 => k_is)
    (case l11 => k_is)
    (case c11 => k_is)
    (case k11 => k_is)
    (case a12 => k_is)
    (case l12 => k_is)
    (case c12 => k_is)
    (case k12 => k_is)
    (case a13 => k_is)
    (case l13 => k_is)
    (case c13 => k_is)
    (case k13 => k_is)
    (case a14 => k_is)
    (case l14 => k_is)
    (case c14 => k_is)
    (case k14 => k_is)
    (case a15 => k_is)
    (case l15 => k_is)
    (case c15 => k_is)
    (case k15 => k_is)
    (case a16 => k_is)
    (case l16 => k_is)
    (case c16 => k_is)
    (case k16 => k_is)
    (case a17 => k_is)
    (case l17 => k_is)
    (case c17 => k_is)
    (case k17 => k_is)
    (case tg_m => first | k_is | rfl | kernel_rfl)
    (case tg_C => first | k_is | rfl | kernel_rfl)
    (case tg_bm => first | k_is | rfl | kernel_rfl)
    (case tg_sa => first | k_is | rfl | kernel_rfl)
    (case tg_ex => first | k_is | rfl | kernel_rfl)
    (case tg_ty => first | k_is | rfl | kernel_rfl)
    (case tg_kC => first | k_is | rfl | kernel_rfl)
    (case tg_in => first | k_is | rfl | kernel_rfl)
    (case tg_tI => first | k_is | rfl | kernel_rfl)
    (case tg_ga => first | k_is | rfl | kernel_rfl)
    (case tg_gg => first | k_is | rfl | kernel_rfl)
    (case tg_hd => first | k_is | rfl | kernel_rfl)
    (case tg_exm => first | k_is | rfl | kernel_rfl)
    (case tg_f => first | k_is | rfl | kernel_rfl)
    (case tg_cd => first | k_is | rfl | kernel_rfl)
    (case tg_cell => first | k_is | rfl | kernel_rfl)
    (case tg_D => first | k_is | rfl | kernel_rfl)
    (case tg_sub => first | k_is | rfl | kernel_rfl)
    (case tg_super => first | k_is | rfl | kernel_rfl)
    (case tg_code => first | k_is | rfl | kernel_rfl)
    (case tg_vs => first | k_is | rfl | kernel_rfl)
    (case tg_top => first | k_is | rfl | kernel_rfl)
    (case tg_ini => first | k_is | rfl | kernel_rfl)
    (case tg_VE => first | k_is | rfl | kernel_rfl)
    (case tg_op => first | k_is | rfl | kernel_rfl)
    (case tg_no => first | k_is | rfl | kernel_rfl)
    (case tg_lcode => first | k_is | rfl | kernel_rfl)
    (case tg_lpt => first | k_is | rfl | kernel_rfl)
    (case e_longn => k_is)
    (case e_bits => k_is)
    (case e_figs => k_is)
    (case z_len => k_is)
    (case z_tuple => k_is)
    (case z_list => k_is)
    (case z_range => k_is)
    (case z_dict => k_is)
    (case z_int => k_is)
    (case z_str => k_is)
    (case z_min => k_is)
    (case z_max => k_is)
    (case z_sorted => k_is)
    (case z_sum => k_is)
    (case z_repr => k_is)
    (case z_abs => k_is)
    (case z_any => k_is)
    (case z_all => k_is)
    (case z_enumerate => k_is)
    (case z_zip => k_is)
  case hT =>
    intro w h Y p hp
    obtain rfl := List.mem_singleton.mp hp
    exact PySem.W.km_tabs_of Y _ (.head _)
  case nK =>
    intro w p hp
    obtain rfl := List.mem_singleton.mp hp
    first | k_is | rfl
  case hC =>
    intro w p hp
    obtain rfl := List.mem_singleton.mp hp
    first | k_is | rfl | kernel_rfl
