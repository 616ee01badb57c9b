import PyProof.Rows.All
import Wide.All
import OpenK.AllK
import Wide.FinOn
import HandS.ForMost
import HandS.Wide
import HandS.IsInst
import HandS.EndBits
import HandS.TupAny
import HandS.TupMul
import HandS.Style
import HandS.Flow
import HandS.Defaults
import HandS.StrMore
import HandS.Conv
import HandS.Evl
import HandS.More
import KE.GoesMore
import HandS.SetFor
import HandS.Strs
import HandS.Text
import PySem.Challenge.RW_faircopy_k31_drafts_as_texts
set_option Elab.async false
set_option linter.all false
set_option maxRecDepth 100000
namespace Fc
open PySem L2
abbrev D := PyData
/-! ### heaps: a known part that does not change, and the whole -/
def Ex (H H' : Hp) : Prop := ∀ a o, H a = some o → H' a = some o
theorem Ex.refl (H : Hp) : Ex H H := fun _ _ h => h
theorem Ex.trans {H H1 H2 : Hp} (a : Ex H H1) (b : Ex H1 H2) : Ex H H2 := fun x o h => b x o (a x o h)
theorem Ex.new {H : Hp} {p : Addr} {o : HO} (h : H p = none) : Ex H (upd H p o) := fun a u e => by
  rw [upd_ne (ne_of_none e h)]; exact e
theorem Ex.none {H H' : Hp} {p : Addr} (e : Ex H H') (h : H' p = none) : H p = none := by
  cases q : H p with
  | none => rfl
  | some o => rw [e p o q] at h; cases h
theorem Ex.sqt {K : PySem.W.Frag} {H H' : Hp} {a : Addr} {xs : List V} (e : Ex H H') (h : SqT K H a xs) : SqT K H' a xs := by
  rcases h with (h | ⟨o, h⟩) | h
  · exact .inl (.inl (e _ _ h))
  · exact .inl (.inr ⟨o, e _ _ h⟩)
  · exact .inr h
/-! ### a value that reads as a datum -/
def kD : Key → D
  | .inl i => .int i
  | .inr x => .str x
def dictD (kds : List (Key × D)) : D := .dict (kds.map fun p => (kD p.1, p.2))
mutual
inductive Rv (K : PySem.W.Frag) (G : Hp) : V → D → Prop
  | non : Rv K G .non .none
  | bl (b : Bool) : Rv K G (.bl b) (.bool b)
  | int (i : Int) : Rv K G (.int i) (.int i)
  | str (x : Str) : Rv K G (.str x) (.str x)
  | lst {a : Addr} {xs : List V} {ds : List D} : G a = some (.lst xs) → RvA K G xs ds → Rv K G (.ref a) (.list ds)
  | tup {a : Addr} {xs : List V} {ds : List D} : SqT K G a xs → RvA K G xs ds → Rv K G (.ref a) (.tuple ds)
  | dic {a : Addr} {kvs : List (Key × V)} {kds : List (Key × D)} : G a = some (.dK kvs) → kvs.map (·.1) = kds.map (·.1) → RvA K G (kvs.map (·.2)) (kds.map (·.2)) → Rv K G (.ref a) (.dict (kds.map fun p => (kD p.1, p.2)))
inductive RvA (K : PySem.W.Frag) (G : Hp) : List V → List D → Prop
  | nil : RvA K G [] []
  | cons {v : V} {vs : List V} {d : D} {ds : List D} : Rv K G v d → RvA K G vs ds → RvA K G (v :: vs) (d :: ds)
end
mutual
theorem Rv.mono {K : PySem.W.Frag} {G G' : Hp} (e : Ex G G') : ∀ {v : V} {d : D}, Rv K G v d → Rv K G' v d
  | _, _, .non => .non
  | _, _, .bl b => .bl b
  | _, _, .int i => .int i
  | _, _, .str x => .str x
  | _, _, .lst h r => .lst (e _ _ h) (RvA.mono e r)
  | _, _, .tup h r => .tup (e.sqt h) (RvA.mono e r)
  | _, _, .dic h k r => .dic (e _ _ h) k (RvA.mono e r)
theorem RvA.mono {K : PySem.W.Frag} {G G' : Hp} (e : Ex G G') : ∀ {vs : List V} {ds : List D}, RvA K G vs ds → RvA K G' vs ds
  | _, _, .nil => .nil
  | _, _, .cons h r => .cons (Rv.mono e h) (RvA.mono e r)
end
mutual
theorem Rv.dp {K : PySem.W.Frag} {G : Hp} : ∀ {v : V} {d : D}, Rv K G v d → d.canLay0 = true → Dp K G v d
  | _, _, .non, _ => .non
  | _, _, .bl b, _ => .bl b
  | _, _, .int i, _ => .int i
  | _, _, .str x, _ => .str x
  | _, _, .lst h r, c => .lst (.inl (.inl h)) (RvA.dp r (by simpa [PyData.canLay0] using c))
  | _, _, .tup h r, c => .tup h (RvA.dp r (by simpa [PyData.canLay0] using c))
  | _, _, .dic _ _ _, c => by simp [PyData.canLay0] at c
theorem RvA.dp {K : PySem.W.Frag} {G : Hp} : ∀ {vs : List V} {ds : List D}, RvA K G vs ds → PyData.canLayAll0 ds = true → DpAll K G vs ds
  | _, _, .nil, _ => .nil
  | _, _, .cons h r, c => by
    simp only [PyData.canLayAll0, Bool.and_eq_true] at c
    exact .cons (Rv.dp h c.1) (RvA.dp r c.2)
end
section
variable {K : PySem.W.Frag} {G : Hp}
theorem RvA.length : ∀ {vs : List V} {ds : List D}, RvA K G vs ds → vs.length = ds.length
  | _, _, .nil => rfl
  | _, _, .cons _ r => congrArg (· + 1) (RvA.length r)
theorem RvA.get : ∀ {vs : List V} {ds : List D} {i : Nat} {d : D}, RvA K G vs ds → ds[i]? = some d → ∃ v, vs[i]? = some v ∧ Rv K G v d
  | _, _, _, _, .nil, e => by simp at e
  | _, _, 0, _, .cons h r, e => by
    simp only [List.getElem?_cons_zero, Option.some.injEq] at e; subst e; exact ⟨_, rfl, h⟩
  | _, _, i + 1, d, .cons h r, e => by
    obtain ⟨v, h1, h2⟩ := RvA.get (i := i) (d := d) r (by simpa using e)
    exact ⟨v, by simpa using h1, h2⟩
theorem RvA.getV : ∀ {vs : List V} {ds : List D} {i : Nat} {v : V}, RvA K G vs ds → vs[i]? = some v → ∃ d, ds[i]? = some d ∧ Rv K G v d
  | _, _, _, _, .nil, e => by simp at e
  | _, _, 0, _, .cons h r, e => by
    simp only [List.getElem?_cons_zero, Option.some.injEq] at e; subst e; exact ⟨_, rfl, h⟩
  | _, _, i + 1, v, .cons h r, e => by
    obtain ⟨d, h1, h2⟩ := RvA.getV (i := i) (v := v) r (by simpa using e)
    exact ⟨d, by simpa using h1, h2⟩
theorem RvA.append : ∀ {vs ws : List V} {ds es : List D}, RvA K G vs ds → RvA K G ws es → RvA K G (vs ++ ws) (ds ++ es)
  | _, _, _, _, .nil, s => s
  | _, _, _, _, .cons h r, s => .cons h (RvA.append r s)
theorem RvA.take : ∀ {vs : List V} {ds : List D} (n : Nat), RvA K G vs ds → RvA K G (vs.take n) (ds.take n)
  | _, _, 0, _ => by simp only [List.take_zero]; exact .nil
  | _, _, n + 1, .nil => by simp only [List.take_nil]; exact .nil
  | _, _, n + 1, .cons h r => .cons h (RvA.take n r)
theorem RvA.drop : ∀ {vs : List V} {ds : List D} (n : Nat), RvA K G vs ds → RvA K G (vs.drop n) (ds.drop n)
  | _, _, 0, h => h
  | _, _, n + 1, .nil => by simp only [List.drop_nil]; exact .nil
  | _, _, n + 1, .cons h r => RvA.drop n r
theorem RvA.set : ∀ {vs : List V} {ds : List D} {v : V} {d : D} (n : Nat), RvA K G vs ds → Rv K G v d → RvA K G (vs.set n v) (ds.set n d)
  | _, _, _, _, _, .nil, _ => .nil
  | _, _, _, _, 0, .cons h r, q => .cons q r
  | _, _, _, _, n + 1, .cons h r, q => .cons h (RvA.set n r q)
theorem RvA.one {v : V} {d : D} (h : Rv K G v d) : RvA K G [v] [d] := .cons h .nil
theorem RvA.reverse : ∀ {vs : List V} {ds : List D}, RvA K G vs ds → RvA K G vs.reverse ds.reverse
  | _, _, .nil => .nil
  | _, _, .cons h r => by
    rw [List.reverse_cons, List.reverse_cons]
    exact (RvA.reverse r).append (.one h)
theorem RvA.strs : ∀ {vs : List V} {xs : List Str}, RvA K G vs (xs.map PyData.str) → vs = xs.map V.str
  | _, [], .nil => rfl
  | _, x :: r, .cons h t => by
    cases h
    rw [RvA.strs t, List.map_cons]
theorem RvA.ints : ∀ {vs : List V} {xs : List Int}, RvA K G vs (xs.map PyData.int) → vs = xs.map V.int
  | _, [], .nil => rfl
  | _, x :: r, .cons h t => by
    cases h
    rw [RvA.ints t, List.map_cons]
theorem RvA.bools : ∀ {vs : List V} {xs : List Bool}, RvA K G vs (xs.map PyData.bool) → vs = xs.map V.bl
  | _, [], .nil => rfl
  | _, x :: r, .cons h t => by
    cases h
    rw [RvA.bools t, List.map_cons]
theorem RvA.ofInts : ∀ (xs : List Int), RvA K G (xs.map V.int) (xs.map PyData.int)
  | [] => .nil
  | x :: r => .cons (.int x) (RvA.ofInts r)
theorem RvA.ofStrs : ∀ (xs : List Str), RvA K G (xs.map V.str) (xs.map PyData.str)
  | [] => .nil
  | x :: r => .cons (.str x) (RvA.ofStrs r)
theorem RvA.flat : ∀ {vs : List V} {ds : List D} (n : Nat), RvA K G vs ds → RvA K G (List.replicate n vs).flatten (List.replicate n ds).flatten
  | _, _, 0, _ => .nil
  | _, _, n + 1, h => by
    rw [List.replicate_succ, List.replicate_succ, List.flatten_cons, List.flatten_cons]
    exact h.append (RvA.flat n h)
end
/-! ### what a def may change -/
/-- the tape: a list of the script's ints, a place, a rest -/
def TapeAt (t l : Addr) (ns : List Int) (H : Hp) : Prop := t ≠ l ∧ H l = some (.lst (ns.map V.int)) ∧ ∃ i j : Int, 0 ≤ i ∧ 0 ≤ j ∧ H t = some (.lst [.ref l, .int i, .int j])
structure Ctx (K : PySem.W.Frag) where
  M : Addr → Prop
  R : Hp → Prop
  tp : Option (Addr × Addr × List Int)
  G0 : Hp
  H0 : Hp
  dom : ∀ H b, R H → M b → H b ≠ none
  loc : ∀ H H', R H → (∀ b, M b → H' b = H b) → R H'
  ex0 : Ex G0 H0
  gm0 : ∀ b, M b → G0 b = none
  r0 : R H0
  tpIn : ∀ t l ns, tp = some (t, l, ns) → M t ∧ M l ∧ (∀ H, R H → TapeAt t l ns H) ∧ ∀ H H', R H → TapeAt t l ns H' → (∀ b, M b → b ≠ t → H' b = H b) → R H'
structure Ok {K : PySem.W.Frag} (c : Ctx K) (G H : Hp) : Prop where
  ex : Ex G H
  gm : ∀ b, c.M b → G b = none
  r : c.R H
structure Step {K : PySem.W.Frag} (c : Ctx K) (G H G' H' : Hp) : Prop where
  gg : Ex G G'
  gh : Ex G' H'
  hh : ∀ b o, ¬ c.M b → H b = some o → H' b = some o
  fr : ∀ b, G b = none → H b ≠ none → G' b = none
  r : c.R H'
section
variable {K : PySem.W.Frag} {c : Ctx K} {G H G' H' G2 H2 : Hp}
theorem Ok.zero (c : Ctx K) : Ok c c.G0 c.H0 := ⟨c.ex0, c.gm0, c.r0⟩
theorem Step.ok (k : Ok c G H) (s : Step c G H G' H') : Ok c G' H' := ⟨s.gh, fun b m => s.fr b (k.gm b m) (c.dom H b k.r m), s.r⟩
theorem Step.refl (k : Ok c G H) : Step c G H G H := ⟨Ex.refl _, k.ex, fun _ _ _ h => h, fun _ h _ => h, k.r⟩
theorem Step.trans (a : Step c G H G' H') (b : Step c G' H' G2 H2) : Step c G H G2 H2 := by
  refine ⟨a.gg.trans b.gg, b.gh, fun x o m h => b.hh x o m (a.hh x o m h), fun x g h => b.fr x (a.fr x g h) ?_, b.r⟩
  by_cases m : c.M x
  · exact c.dom _ _ a.r m
  · cases q : H x with
    | none => exact absurd q h
    | some o => rw [a.hh x o m q]; exact fun z => nomatch z
theorem Step.new (k : Ok c G H) {p : Addr} {o : HO} (hp : H p = none) : Step c G H (upd G p o) (upd H p o) := by
  have hg : G p = none := k.ex.none hp
  refine ⟨Ex.new hg, fun b u e => ?_, fun b u _ e => ?_, fun b g h => ?_, ?_⟩
  · by_cases q : b = p
    · subst q; rw [upd_same] at e ⊢; exact e
    · rw [upd_ne q] at e ⊢; exact k.ex b u e
  · rw [upd_ne (ne_of_none e hp)]; exact e
  · rw [upd_ne (fun q => h (by rw [q]; exact hp))]; exact g
  · refine c.loc H _ k.r fun b m => upd_ne fun q => c.dom H b k.r m (by rw [q]; exact hp)
end
/-- what a def does that changes nothing -/
structure PStep (G H G' H' : Hp) : Prop where
  gg : Ex G G'
  gh : Ex G' H'
  hh : Ex H H'
  fr : ∀ b, G b = none → H b ≠ none → G' b = none
theorem PStep.to {K : PySem.W.Frag} {c : Ctx K} {G H G' H' : Hp} (k : Ok c G H) (s : PStep G H G' H') : Step c G H G' H' :=
  ⟨s.gg, s.gh, fun b o _ h => s.hh b o h, s.fr, c.loc H H' k.r fun b m => by
    cases q : H b with
    | none => exact absurd q (c.dom H b k.r m)
    | some o => exact s.hh b o q⟩
/-- what a def does that draws from the tape -/
structure TStep (t l : Addr) (ns : List Int) (G H G' H' : Hp) : Prop where
  gg : Ex G G'
  gh : Ex G' H'
  hh : ∀ b o, b ≠ t → H b = some o → H' b = some o
  fr : ∀ b, G b = none → H b ≠ none → G' b = none
  tape : TapeAt t l ns H'
theorem TStep.to {K : PySem.W.Frag} {c : Ctx K} {t l : Addr} {ns : List Int} {G H G' H' : Hp} (ht : c.tp = some (t, l, ns)) (k : Ok c G H) (s : TStep t l ns G H G' H') : Step c G H G' H' := by
  obtain ⟨m1, m2, h1, h2⟩ := c.tpIn t l ns ht
  refine ⟨s.gg, s.gh, fun b o m h => s.hh b o (fun q => m (by rw [q]; exact m1)) h, s.fr, h2 H H' k.r s.tape fun b m n => ?_⟩
  cases q : H b with
  | none => exact absurd q (c.dom H b k.r m)
  | some o => exact s.hh b o n q
/-! ### the slots of a def, as data -/
inductive Cell where
  | un
  | d (x : D)
  | own (xs : List D)
  | dic (kvs : List (Key × D))
  | tape
  | raw (v : V)
abbrev En := List Cell
def Cell.isOwn : Cell → Bool
  | .own _ => true
  | .dic _ => true
  | _ => false
def RvK (K : PySem.W.Frag) (G : Hp) (kvs : List (Key × V)) (kds : List (Key × D)) : Prop := kvs.map (·.1) = kds.map (·.1) ∧ RvA K G (kvs.map (·.2)) (kds.map (·.2))
theorem RvK.mono {K : PySem.W.Frag} {G G' : Hp} {kvs : List (Key × V)} {kds : List (Key × D)} (e : Ex G G') (h : RvK K G kvs kds) : RvK K G' kvs kds := ⟨h.1, h.2.mono e⟩
def CellOk {K : PySem.W.Frag} (c : Ctx K) (G H : Hp) (o : Option V) : Cell → Prop
  | .un => True
  | .d x => ∃ v, o = some v ∧ Rv K G v x
  | .own xs => ∃ p vs, o = some (.ref p) ∧ H p = some (.lst vs) ∧ RvA K G vs xs ∧ G p = none ∧ c.H0 p = none
  | .dic kds => ∃ p kvs, o = some (.ref p) ∧ H p = some (.dK kvs) ∧ RvK K G kvs kds ∧ G p = none ∧ c.H0 p = none
  | .tape => ∃ t l ns, c.tp = some (t, l, ns) ∧ o = some (.ref t)
  | .raw v => o = some v
structure Rel {K : PySem.W.Frag} (c : Ctx K) (ε : En) (σ : St) (G H : Hp) : Prop where
  his : Step c c.G0 c.H0 G H
  len : σ.length = ε.length
  cell : ∀ (i : Nat) (x : Cell), ε[i]? = some x → ∃ o, σ[i]? = some o ∧ CellOk c G H o x
  inj : ∀ (i j : Nat) (x y : Cell) (p : Addr), ε[i]? = some x → ε[j]? = some y → x.isOwn = true → y.isOwn = true → σ[i]? = some (some (.ref p)) → σ[j]? = some (some (.ref p)) → i = j
section
variable {K : PySem.W.Frag} {c : Ctx K} {ε : En} {σ : St} {G H G' H' : Hp}
theorem Rel.ok (r : Rel c ε σ G H) : Ok c G H := r.his.ok (Ok.zero c)
theorem nM (c : Ctx K) {p : Addr} (h : c.H0 p = none) : ¬ c.M p := fun m => c.dom _ _ c.r0 m h
theorem cell_step {o : Option V} {x : Cell} (s : Step c G H G' H') (h : CellOk c G H o x) : CellOk c G' H' o x := by
  cases x with
  | un => trivial
  | d x => obtain ⟨v, e, r⟩ := h; exact ⟨v, e, r.mono s.gg⟩
  | own xs => obtain ⟨p, vs, e, h1, h2, h3, h4⟩ := h; exact ⟨p, vs, e, s.hh p _ (nM c h4) h1, h2.mono s.gg, s.fr p h3 (by rw [h1]; exact fun z => nomatch z), h4⟩
  | dic kds => obtain ⟨p, vs, e, h1, h2, h3, h4⟩ := h; exact ⟨p, vs, e, s.hh p _ (nM c h4) h1, h2.mono s.gg, s.fr p h3 (by rw [h1]; exact fun z => nomatch z), h4⟩
  | tape => exact h
  | raw v => exact h
theorem Rel.step (r : Rel c ε σ G H) (s : Step c G H G' H') : Rel c ε σ G' H' :=
  ⟨r.his.trans s, r.len, fun i x e => by
    obtain ⟨o, h1, h2⟩ := r.cell i x e
    exact ⟨o, h1, cell_step s h2⟩, r.inj⟩
theorem Rel.put (r : Rel c ε σ G H) {i : Nat} {v : V} {x : Cell} (hx : CellOk c G H (some v) x) (hn : x.isOwn = false) : Rel c (ε.set i x) (σ.set i (some v)) G H := by
  refine ⟨r.his, by rw [List.length_set, List.length_set]; exact r.len, fun j y e => ?_, fun j k y z p ey ez oy oz sj sk => ?_⟩
  · rw [List.getElem?_set] at e ⊢
    by_cases q : i = j
    · subst q
      rw [if_pos rfl] at e ⊢
      by_cases hl : i < ε.length
      · rw [if_pos hl] at e
        rw [if_pos (by rw [r.len]; exact hl)]
        cases e
        exact ⟨_, rfl, hx⟩
      · rw [if_neg hl] at e; cases e
    · rw [if_neg q] at e ⊢
      exact r.cell j y e
  · have nj : i ≠ j := fun q => by
      subst q
      rw [List.getElem?_set, if_pos rfl] at ey
      by_cases hl : i < ε.length
      · rw [if_pos hl] at ey; cases ey; rw [hn] at oy; cases oy
      · rw [if_neg hl] at ey; cases ey
    have nk : i ≠ k := fun q => by
      subst q
      rw [List.getElem?_set, if_pos rfl] at ez
      by_cases hl : i < ε.length
      · rw [if_pos hl] at ez; cases ez; rw [hn] at oz; cases oz
      · rw [if_neg hl] at ez; cases ez
    rw [List.getElem?_set, if_neg nj] at ey sj
    rw [List.getElem?_set, if_neg nk] at ez sk
    exact r.inj j k y z p ey ez oy oz sj sk
/-- forget a slot, whatever it holds -/
theorem Rel.drop (r : Rel c ε σ G H) {i : Nat} {o : Option V} : Rel c (ε.set i .un) (σ.set i o) G H := by
  refine ⟨r.his, by rw [List.length_set, List.length_set]; exact r.len, fun j y e => ?_, fun j k y z p ey ez oy oz sj sk => ?_⟩
  · rw [List.getElem?_set] at e ⊢
    by_cases q : i = j
    · subst q
      rw [if_pos rfl] at e ⊢
      by_cases hl : i < ε.length
      · rw [if_pos hl] at e
        rw [if_pos (by rw [r.len]; exact hl)]
        cases e
        exact ⟨_, rfl, trivial⟩
      · rw [if_neg hl] at e; cases e
    · rw [if_neg q] at e ⊢
      exact r.cell j y e
  · have nj : i ≠ j := fun q => by
      subst q
      rw [List.getElem?_set, if_pos rfl] at ey
      by_cases hl : i < ε.length
      · rw [if_pos hl] at ey; cases ey; cases oy
      · rw [if_neg hl] at ey; cases ey
    have nk : i ≠ k := fun q => by
      subst q
      rw [List.getElem?_set, if_pos rfl] at ez
      by_cases hl : i < ε.length
      · rw [if_pos hl] at ez; cases ez; cases oz
      · rw [if_neg hl] at ez; cases ez
    rw [List.getElem?_set, if_neg nj] at ey sj
    rw [List.getElem?_set, if_neg nk] at ez sk
    exact r.inj j k y z p ey ez oy oz sj sk
/-- a new object at p, not in the known part -/
theorem Rel.fresh (r : Rel c ε σ G H) {p : Addr} {o : HO} (hp : H p = none) : Rel c ε σ G (upd H p o) ∧ G p = none ∧ c.H0 p = none := by
  have k := r.ok
  have hg : G p = none := k.ex.none hp
  have h0 : c.H0 p = none := by
    cases q : c.H0 p with
    | none => rfl
    | some u =>
      by_cases m : c.M p
      · exact absurd hp (c.dom _ _ k.r m)
      · rw [r.his.hh p u m q] at hp; cases hp
  refine ⟨⟨⟨r.his.gg, fun b u e => ?_, fun b u m e => ?_, r.his.fr, ?_⟩, r.len, fun i x e => ?_, r.inj⟩, hg, h0⟩
  · rw [upd_ne (ne_of_none e hg)]; exact k.ex b u e
  · rw [upd_ne (ne_of_none e h0)]; exact r.his.hh b u m e
  · exact c.loc H _ k.r fun b m => upd_ne fun q => c.dom H b k.r m (by rw [q]; exact hp)
  · obtain ⟨w, h1, h2⟩ := r.cell i x e
    refine ⟨w, h1, ?_⟩
    cases x with
    | un => trivial
    | d x => exact h2
    | own xs => obtain ⟨q, vs, e, g1, g2⟩ := h2; exact ⟨q, vs, e, by rw [upd_ne (ne_of_none g1 hp)]; exact g1, g2⟩
    | dic kds => obtain ⟨q, vs, e, g1, g2⟩ := h2; exact ⟨q, vs, e, by rw [upd_ne (ne_of_none g1 hp)]; exact g1, g2⟩
    | tape => exact h2
    | raw v => exact h2
end
end Fc

namespace Fc
open PySem L2
section
variable {K : PySem.W.Frag} {c : Ctx K} {ε : En} {σ : St} {G H G' H' : Hp}
theorem set_get {α : Type} {l : List α} {i j : Nat} {x y : α} (h : (l.set i x)[j]? = some y) : (j = i ∧ i < l.length ∧ y = x) ∨ (j ≠ i ∧ l[j]? = some y) := by
  rw [List.getElem?_set] at h
  by_cases q : i = j
  · subst q
    rw [if_pos rfl] at h
    by_cases hl : i < l.length
    · rw [if_pos hl] at h; cases h; exact .inl ⟨rfl, hl, rfl⟩
    · rw [if_neg hl] at h; cases h
  · rw [if_neg q] at h; exact .inr ⟨fun z => q z.symm, h⟩
theorem set_at {α : Type} {l : List α} {i : Nat} {x : α} (h : i < l.length) : (l.set i x)[i]? = some x := by
  rw [List.getElem?_set, if_pos rfl, if_pos h]
theorem set_off {α : Type} {l : List α} {i j : Nat} {x : α} (h : j ≠ i) : (l.set i x)[j]? = l[j]? := by
  rw [List.getElem?_set, if_neg (fun z => h z.symm)]
/-- a slot gets a new own object -/
theorem Rel.putOwn (r : Rel c ε σ G H) {i : Nat} {p : Addr} {o : HO} {x : Cell} (hp : H p = none) (hx : CellOk c G (upd H p o) (some (.ref p)) x) : Rel c (ε.set i x) (σ.set i (some (.ref p))) G (upd H p o) := by
  obtain ⟨r', hg, h0⟩ := r.fresh (o := o) hp
  refine ⟨r'.his, by rw [List.length_set, List.length_set]; exact r.len, fun j y e => ?_, fun j k y z q ey ez oy oz sj sk => ?_⟩
  · rcases set_get e with ⟨rfl, hl, rfl⟩ | ⟨n, e⟩
    · exact ⟨_, set_at (by rw [r.len]; exact hl), hx⟩
    · rw [set_off n]; exact r'.cell j y e
  · have old : ∀ (m : Nat) (u : Cell), ε[m]? = some u → u.isOwn = true → σ[m]? = some (some (.ref p)) → False := fun m u em om sm => by
      obtain ⟨w, w1, w2⟩ := r.cell m u em
      rw [sm] at w1
      cases w1
      cases u with
      | own xs =>
        obtain ⟨q, vs, e, g, _⟩ := w2
        cases e; rw [hp] at g; cases g
      | dic kds =>
        obtain ⟨q, vs, e, g, _⟩ := w2
        cases e; rw [hp] at g; cases g
      | un => cases om
      | d x => cases om
      | tape => cases om
      | raw v => cases om
    rcases set_get ey with ⟨e1, hl, e2⟩ | ⟨n, ey'⟩
    · rcases set_get ez with ⟨e3, _, _⟩ | ⟨n2, ez'⟩
      · rw [e1, e3]
      · rw [e1, set_at (by rw [r.len]; exact hl)] at sj
        cases sj
        rw [set_off n2] at sk
        exact (old k z ez' oz sk).elim
    · rcases set_get ez with ⟨e1, hl, e2⟩ | ⟨n2, ez'⟩
      · rw [e1, set_at (by rw [r.len]; exact hl)] at sk
        cases sk
        rw [set_off n] at sj
        exact (old j y ey' oy sj).elim
      · rw [set_off n] at sj
        rw [set_off n2] at sk
        exact r.inj j k y z q ey' ez' oy oz sj sk
/-- an own object is changed -/
theorem Rel.mut (r : Rel c ε σ G H) {i : Nat} {p : Addr} {o : HO} {x x' : Cell} (hi : ε[i]? = some x) (ho : x.isOwn = true) (hs : σ[i]? = some (some (.ref p))) (hg : G p = none) (h0 : c.H0 p = none) (hx : CellOk c G (upd H p o) (some (.ref p)) x') : Rel c (ε.set i x') σ G (upd H p o) := by
  have k := r.ok
  have li : i < ε.length := (List.getElem?_eq_some_iff.mp hi).1
  refine ⟨⟨r.his.gg, fun b u e => ?_, fun b u m e => ?_, r.his.fr, ?_⟩, by rw [List.length_set]; exact r.len, fun j y e => ?_, fun j l y z q ey ez oy oz sj sk => ?_⟩
  · rw [upd_ne (ne_of_none e hg)]; exact k.ex b u e
  · rw [upd_ne (ne_of_none e h0)]; exact r.his.hh b u m e
  · exact c.loc H _ k.r fun b m => upd_ne fun q => nM c h0 (by rw [← q]; exact m)
  · rcases set_get e with ⟨rfl, hl, rfl⟩ | ⟨n, e⟩
    · exact ⟨_, hs, hx⟩
    · obtain ⟨w, w1, w2⟩ := r.cell j y e
      refine ⟨w, w1, ?_⟩
      cases y with
      | un => trivial
      | d x => exact w2
      | own xs =>
        obtain ⟨q, vs, e', g1, g2⟩ := w2
        refine ⟨q, vs, e', ?_, g2⟩
        rw [upd_ne (fun z => n (r.inj j i _ _ p e hi rfl ho (by rw [w1, e', z]) hs))]; exact g1
      | dic kds =>
        obtain ⟨q, vs, e', g1, g2⟩ := w2
        refine ⟨q, vs, e', ?_, g2⟩
        rw [upd_ne (fun z => n (r.inj j i _ _ p e hi rfl ho (by rw [w1, e', z]) hs))]; exact g1
      | tape => exact w2
      | raw v => exact w2
  · have old : ∀ (m : Nat) (u : Cell), (ε.set i x')[m]? = some u → u.isOwn = true → ∃ u', ε[m]? = some u' ∧ u'.isOwn = true := fun m u em om => by
      rcases set_get em with ⟨rfl, _, _⟩ | ⟨n, em⟩
      · exact ⟨x, hi, ho⟩
      · exact ⟨u, em, om⟩
    obtain ⟨y', ey', oy'⟩ := old j y ey oy
    obtain ⟨z', ez', oz'⟩ := old l z ez oz
    exact r.inj j l y' z' q ey' ez' oy' oz' sj sk
/-- an own list is from now on a datum -/
theorem Rel.freeze (r : Rel c ε σ G H) {i : Nat} {xs : List D} (hi : ε[i]? = some (.own xs)) : ∃ G', Rel c (ε.set i (.d (.list xs))) σ G' H ∧ Ex G G' := by
  obtain ⟨w, hs, p, vs, rfl, hp, ha, hg, h0⟩ := r.cell i _ hi
  have k := r.ok
  have eg : Ex G (upd G p (.lst vs)) := Ex.new hg
  refine ⟨upd G p (.lst vs), ⟨⟨r.his.gg.trans eg, fun b u e => ?_, r.his.hh, fun b g h => ?_, r.his.r⟩, by rw [List.length_set]; exact r.len, fun j y e => ?_, fun j l y z q ey ez oy oz sj sk => ?_⟩, eg⟩
  · by_cases q : b = p
    · subst q; rw [upd_same] at e; cases e; exact hp
    · rw [upd_ne q] at e; exact k.ex b u e
  · rw [upd_ne (fun q => h (by rw [q]; exact h0))]; exact r.his.fr b g h
  · rcases set_get e with ⟨rfl, hl, rfl⟩ | ⟨n, e⟩
    · exact ⟨_, hs, _, rfl, .lst upd_same (ha.mono eg)⟩
    · obtain ⟨w, w1, w2⟩ := r.cell j y e
      refine ⟨w, w1, ?_⟩
      cases y with
      | un => trivial
      | d x => obtain ⟨v, e1, e2⟩ := w2; exact ⟨v, e1, e2.mono eg⟩
      | own ys =>
        obtain ⟨q, us, e', g1, g2, g3, g4⟩ := w2
        refine ⟨q, us, e', g1, g2.mono eg, ?_, g4⟩
        rw [upd_ne (fun z => n (r.inj j i _ _ p e hi rfl rfl (by rw [w1, e', z]) hs))]; exact g3
      | dic kds =>
        obtain ⟨q, us, e', g1, g2, g3, g4⟩ := w2
        refine ⟨q, us, e', g1, g2.mono eg, ?_, g4⟩
        rw [upd_ne (fun z => n (r.inj j i _ _ p e hi rfl rfl (by rw [w1, e', z]) hs))]; exact g3
      | tape => exact w2
      | raw v => exact w2
  · rcases set_get ey with ⟨rfl, _, rfl⟩ | ⟨n, ey⟩
    · cases oy
    · rcases set_get ez with ⟨rfl, _, rfl⟩ | ⟨n2, ez⟩
      · cases oz
      · exact r.inj j l y z q ey ez oy oz sj sk
end
/-! ### readings, by data -/
abbrev AE := En → (D → Prop) → Prop
abbrev AT := En → (Bool → Prop) → Prop
abbrev AA := En → (List D → Prop) → Prop
structure DE where
  nx : En → Prop
  rt : D → Prop
  bk : En → Prop := fun _ => False
  ct : En → Prop := fun _ => False
abbrev AS := DE → En → Prop
def AbsE {K : PySem.W.Frag} (c : Ctx K) (t : TE) (a : AE) : Prop := ∀ ε σ G H, Rel c ε σ G H → ∀ (Qd : D → Prop) (Q : VK), a ε Qd → (∀ v d G' H', Step c G H G' H' → Rv K G' v d → Qd d → Q v H') → t σ H Q
def AbsT {K : PySem.W.Frag} (c : Ctx K) (t : TT) (a : AT) : Prop := ∀ ε σ G H, Rel c ε σ G H → ∀ (Qd : Bool → Prop) (Q : Bool → Hp → Prop), a ε Qd → (∀ b G' H', Step c G H G' H' → Qd b → Q b H') → t σ H Q
def AbsA {K : PySem.W.Frag} (c : Ctx K) (t : TA) (a : AA) : Prop := ∀ ε σ G H, Rel c ε σ G H → ∀ (Qd : List D → Prop) (Q : List V → Hp → Prop), a ε Qd → (∀ vs ds G' H', Step c G H G' H' → RvA K G' vs ds → Qd ds → Q vs H') → t σ H Q
structure EndsOk {K : PySem.W.Frag} (c : Ctx K) (g : Hp) (E : DE) (D' : Ends) : Prop where
  nx : ∀ ε σ G H, Rel c ε σ G H → Ex g G → E.nx ε → D'.nx σ H
  rt : ∀ v d G H, Step c c.G0 c.H0 G H → Rv K G v d → E.rt d → D'.rt v H
  bk : ∀ ε σ G H, Rel c ε σ G H → Ex g G → E.bk ε → D'.bk σ H
  ct : ∀ ε σ G H, Rel c ε σ G H → Ex g G → E.ct ε → D'.ct σ H
theorem EndsOk.mono {K : PySem.W.Frag} {c : Ctx K} {g g' : Hp} {E : DE} {D' : Ends} (e : Ex g g') (k : EndsOk c g E D') : EndsOk c g' E D' :=
  ⟨fun ε σ G H r x => k.nx ε σ G H r (e.trans x), k.rt, fun ε σ G H r x => k.bk ε σ G H r (e.trans x), fun ε σ G H r x => k.ct ε σ G H r (e.trans x)⟩
def AbsS {K : PySem.W.Frag} (c : Ctx K) (t : TS) (a : AS) : Prop := ∀ ε σ G H, Rel c ε σ G H → ∀ (E : DE) (D' : Ends), a E ε → EndsOk c G E D' → t D' σ H
/-- a two-place operation on values, by data -/
abbrev A2 := D → D → (D → Prop) → Prop
abbrev A1 := D → (D → Prop) → Prop
def AbsR2 {K : PySem.W.Frag} (c : Ctx K) (r : R2) (f : A2) : Prop := ∀ G H x y dx dy, Ok c G H → Rv K G x dx → Rv K G y dy → ∀ (Qd : D → Prop) (Q : VK), f dx dy Qd → (∀ v d G' H', Step c G H G' H' → Rv K G' v d → Qd d → Q v H') → r x y H Q
def AbsR1 {K : PySem.W.Frag} (c : Ctx K) (r : V → Hp → VK → Prop) (f : A1) : Prop := ∀ G H x dx, Ok c G H → Rv K G x dx → ∀ (Qd : D → Prop) (Q : VK), f dx Qd → (∀ v d G' H', Step c G H G' H' → Rv K G' v d → Qd d → Q v H') → r x H Q
/-- a call on values, by data -/
abbrev AC := List D → (D → Prop) → Prop
def AbsC {K : PySem.W.Frag} (c : Ctx K) (r : List V → Hp → VK → Prop) (f : AC) : Prop := ∀ G H xs ds, Ok c G H → RvA K G xs ds → ∀ (Qd : D → Prop) (Q : VK), f ds Qd → (∀ v d G' H', Step c G H G' H' → Rv K G' v d → Qd d → Q v H') → r xs H Q
/-! expressions -/
section
variable {K : PySem.W.Frag} {c : Ctx K} {t u ta tb te : TE} {a b : AE}
def aVar (i : Nat) : AE := fun ε Q => match ε[i]? with | some (.d d) => Q d | _ => False
theorem ae_var (i : Nat) : AbsE c (tVar i) (aVar i) := by
  intro ε σ G H r Qd Q h q
  unfold aVar at h
  split at h
  · rename_i d hd
    obtain ⟨o, h1, v, rfl, h2⟩ := r.cell i _ hd
    exact ⟨v, h1, q v d G H (.refl r.ok) h2 h⟩
  · exact h.elim
def aC (d : D) : AE := fun _ Q => Q d
theorem ae_int (i : Int) : AbsE c (tC (.int i)) (aC (.int i)) := fun ε σ G H r Qd Q h q => q _ _ G H (.refl r.ok) (.int i) h
theorem ae_str (i : Str) : AbsE c (tC (.str i)) (aC (.str i)) := fun ε σ G H r Qd Q h q => q _ _ G H (.refl r.ok) (.str i) h
theorem ae_bl (i : Bool) : AbsE c (tC (.bl i)) (aC (.bool i)) := fun ε σ G H r Qd Q h q => q _ _ G H (.refl r.ok) (.bl i) h
theorem ae_non : AbsE c (tC .non) (aC .none) := fun ε σ G H r Qd Q h q => q _ _ G H (.refl r.ok) .non h
def aOp (f : A2) (a b : AE) : AE := fun ε Q => a ε fun x => b ε fun y => f x y Q
theorem ae_op {r : R2} {f : A2} (ho : AbsR2 c r f) (ha : AbsE c ta a) (hb : AbsE c tb b) : AbsE c (tOp r ta tb) (aOp f a b) := by
  intro ε σ G H rl Qd Q h q
  refine ha ε σ G H rl _ _ h fun x dx G1 H1 s1 r1 h1 => ?_
  refine hb ε σ G1 H1 (rl.step s1) _ _ h1 fun y dy G2 H2 s2 r2 h2 => ?_
  exact ho G2 H2 x y dx dy ((rl.step s1).step s2).ok (r1.mono s2.gg) r2 _ _ h2 fun v d G3 H3 s3 r3 h3 => q v d G3 H3 ((s1.trans s2).trans s3) r3 h3
def aUn (f : A1) (a : AE) : AE := fun ε Q => a ε fun x => f x Q
theorem ae_un {r : V → Hp → VK → Prop} {f : A1} (ho : AbsR1 c r f) (ha : AbsE c ta a) : AbsE c (tUn r ta) (aUn f a) := by
  intro ε σ G H rl Qd Q h q
  refine ha ε σ G H rl _ _ h fun x dx G1 H1 s1 r1 h1 => ?_
  exact ho G1 H1 x dx (rl.step s1).ok r1 _ _ h1 fun v d G3 H3 s3 r3 h3 => q v d G3 H3 (s1.trans s3) r3 h3
def aNil : AA := fun _ Q => Q []
theorem aa_nil : AbsA c tNil aNil := fun ε σ G H r Qd Q h q => q _ _ G H (.refl r.ok) .nil h
def aCons (a : AE) (r : AA) : AA := fun ε Q => a ε fun x => r ε fun xs => Q (x :: xs)
theorem aa_cons {tr : TA} {ar : AA} (ha : AbsE c ta a) (hr : AbsA c tr ar) : AbsA c (tCons ta tr) (aCons a ar) := by
  intro ε σ G H rl Qd Q h q
  refine ha ε σ G H rl _ _ h fun x dx G1 H1 s1 r1 h1 => ?_
  exact hr ε σ G1 H1 (rl.step s1) _ _ h1 fun vs ds G2 H2 s2 r2 h2 => q _ _ G2 H2 (s1.trans s2) (.cons (r1.mono s2.gg) r2) h2
def aTup (r : AA) : AE := fun ε Q => r ε fun xs => xs.length ≤ sizeLine ∧ Q (.tuple xs)
theorem ae_tup {tr : TA} {ar : AA} (hr : AbsA c tr ar) : AbsE c (tTup tr) (aTup ar) := by
  intro ε σ G H rl Qd Q h q
  refine hr ε σ G H rl _ _ h fun vs ds G1 H1 s1 r1 h1 => ⟨by rw [r1.length]; exact h1.1, fun p hp => ?_⟩
  have s2 := Step.new (o := .tup vs) (rl.step s1).ok hp
  exact q _ _ _ _ (s1.trans s2) (.tup (SqT.of upd_same) (r1.mono s2.gg)) h1.2
def aLst (r : AA) : AE := fun ε Q => r ε fun xs => xs.length ≤ sizeLine ∧ Q (.list xs)
theorem ae_lst {tr : TA} {ar : AA} (hr : AbsA c tr ar) : AbsE c (tLst tr) (aLst ar) := by
  intro ε σ G H rl Qd Q h q
  refine hr ε σ G H rl _ _ h fun vs ds G1 H1 s1 r1 h1 => ⟨by rw [r1.length]; exact h1.1, fun p hp => ?_⟩
  have s2 := Step.new (o := .lst vs) (rl.step s1).ok hp
  exact q _ _ _ _ (s1.trans s2) (.lst upd_same (r1.mono s2.gg)) h1.2
def aCall (f : AC) (r : AA) : AE := fun ε Q => r ε fun xs => f xs Q
theorem ae_cb {r : List V → Hp → VK → Prop} {f : AC} {tr : TA} {ar : AA} (ho : AbsC c r f) (hr : AbsA c tr ar) : AbsE c (tCB r tr) (aCall f ar) := by
  intro ε σ G H rl Qd Q h q
  refine hr ε σ G H rl _ _ h fun vs ds G1 H1 s1 r1 h1 => ?_
  exact ho G1 H1 vs ds (rl.step s1).ok r1 _ _ h1 fun v d G3 H3 s3 r3 h3 => q v d G3 H3 (s1.trans s3) r3 h3
/-! tests -/
def aTest (a : AE) : AT := fun ε Q => a ε fun x => match x with | .bool k => Q k | _ => False
theorem at_test (ha : AbsE c ta a) : AbsT c (tTest ta) (aTest a) := by
  intro ε σ G H rl Qd Q h q
  refine ha ε σ G H rl _ _ h fun x dx G1 H1 s1 r1 h1 => ?_
  cases r1 with
  | bl k => exact ⟨k, rfl, q k G1 H1 s1 h1⟩
  | _ => exact h1.elim
theorem at_B (ha : AbsE c ta a) : AbsT c (tB ta) (aTest a) := at_test ha
def aAnd (a b : AT) : AT := fun ε Q => a ε fun x => if x = true then b ε Q else Q false
def aOr (a b : AT) : AT := fun ε Q => a ε fun x => if x = true then Q true else b ε Q
def aNot (a : AT) : AT := fun ε Q => a ε fun x => Q (!x)
theorem at_and {t u : TT} {a b : AT} (ha : AbsT c t a) (hb : AbsT c u b) : AbsT c (tAnd t u) (aAnd a b) := by
  intro ε σ G H rl Qd Q h q
  refine ha ε σ G H rl _ _ h fun x G1 H1 s1 h1 => ?_
  cases x with
  | true => exact iteT (hb ε σ G1 H1 (rl.step s1) _ _ (by simpa using h1) fun b G2 H2 s2 h2 => q b G2 H2 (s1.trans s2) h2)
  | false => exact iteF (q false G1 H1 s1 (by simpa using h1))
theorem at_or {t u : TT} {a b : AT} (ha : AbsT c t a) (hb : AbsT c u b) : AbsT c (tOr t u) (aOr a b) := by
  intro ε σ G H rl Qd Q h q
  refine ha ε σ G H rl _ _ h fun x G1 H1 s1 h1 => ?_
  cases x with
  | false => exact iteF (hb ε σ G1 H1 (rl.step s1) _ _ (by simpa using h1) fun b G2 H2 s2 h2 => q b G2 H2 (s1.trans s2) h2)
  | true => exact iteT (q true G1 H1 s1 (by simpa using h1))
theorem at_not {t : TT} {a : AT} (ha : AbsT c t a) : AbsT c (tNot t) (aNot a) := by
  intro ε σ G H rl Qd Q h q
  exact ha ε σ G H rl _ _ h fun x G1 H1 s1 h1 => q _ G1 H1 s1 h1
/-- and, or, not as values -/
def aAndV (a b : AE) : AE := fun ε Q => a ε fun x => match x with | .bool k => if k = true then b ε Q else Q (.bool false) | _ => False
def aOrV (a b : AE) : AE := fun ε Q => a ε fun x => match x with | .bool k => if k = true then Q (.bool true) else b ε Q | _ => False
def aNotV (a : AE) : AE := fun ε Q => a ε fun x => match x with | .bool k => Q (.bool (!k)) | _ => False
theorem ae_andV (ha : AbsE c ta a) (hb : AbsE c tb b) : AbsE c (tAndV ta tb) (aAndV a b) := by
  intro ε σ G H rl Qd Q h q
  refine ha ε σ G H rl _ _ h fun x dx G1 H1 s1 r1 h1 => ?_
  cases r1 with
  | bl k =>
    refine ⟨k, rfl, ?_⟩
    cases k with
    | true => exact iteT (hb ε σ G1 H1 (rl.step s1) _ _ (by simpa using h1) fun v d G2 H2 s2 r2 h2 => q v d G2 H2 (s1.trans s2) r2 h2)
    | false => exact iteF (q _ _ G1 H1 s1 (.bl false) (by simpa using h1))
  | _ => exact h1.elim
theorem ae_orV (ha : AbsE c ta a) (hb : AbsE c tb b) : AbsE c (tOrV ta tb) (aOrV a b) := by
  intro ε σ G H rl Qd Q h q
  refine ha ε σ G H rl _ _ h fun x dx G1 H1 s1 r1 h1 => ?_
  cases r1 with
  | bl k =>
    refine ⟨k, rfl, ?_⟩
    cases k with
    | false => exact iteF (hb ε σ G1 H1 (rl.step s1) _ _ (by simpa using h1) fun v d G2 H2 s2 r2 h2 => q v d G2 H2 (s1.trans s2) r2 h2)
    | true => exact iteT (q _ _ G1 H1 s1 (.bl true) (by simpa using h1))
  | _ => exact h1.elim
theorem ae_notV (ha : AbsE c ta a) : AbsE c (tNotV ta) (aNotV a) := by
  intro ε σ G H rl Qd Q h q
  refine ha ε σ G H rl _ _ h fun x dx G1 H1 s1 r1 h1 => ?_
  cases r1 with
  | bl k => exact ⟨k, rfl, q _ _ G1 H1 s1 (.bl _) h1⟩
  | _ => exact h1.elim
def aIf (t : AT) (a b : AE) : AE := fun ε Q => t ε fun k => if k = true then a ε Q else b ε Q
theorem ae_if {tt : TT} {at' : AT} (ht : AbsT c tt at') (ha : AbsE c ta a) (hb : AbsE c tb b) : AbsE c (tIf tt ta tb) (aIf at' a b) := by
  intro ε σ G H rl Qd Q h q
  refine ht ε σ G H rl _ _ h fun x G1 H1 s1 h1 => ?_
  cases x with
  | true => exact iteT (ha ε σ G1 H1 (rl.step s1) _ _ (by simpa using h1) fun v d G2 H2 s2 r2 h2 => q v d G2 H2 (s1.trans s2) r2 h2)
  | false => exact iteF (hb ε σ G1 H1 (rl.step s1) _ _ (by simpa using h1) fun v d G2 H2 s2 r2 h2 => q v d G2 H2 (s1.trans s2) r2 h2)
end
/-! statements -/
section
variable {K : PySem.W.Frag} {c : Ctx K} {te : TE} {a : AE} {t u : TS} {s v : AS}
def aSeq (s v : AS) : AS := fun E ε => s { E with nx := v E } ε
theorem as_seq (h1 : AbsS c t s) (h2 : AbsS c u v) : AbsS c (tSeq t u) (aSeq s v) := by
  intro ε σ G H rl E D' h k
  refine h1 ε σ G H rl _ _ h ⟨fun ε' σ' G' H' r' x q => h2 ε' σ' G' H' r' E D' q (k.mono x), k.rt, k.bk, k.ct⟩
def aNext : AS := fun E ε => E.nx ε
theorem as_next : AbsS c tNext aNext := fun ε σ G H rl E D' h k => k.nx ε σ G H rl (Ex.refl G) h
def aBreak : AS := fun E ε => E.bk ε
theorem as_break : AbsS c tBreak aBreak := fun ε σ G H rl E D' h k => k.bk ε σ G H rl (Ex.refl G) h
def aCont : AS := fun E ε => E.ct ε
theorem as_cont : AbsS c tCont aCont := fun ε σ G H rl E D' h k => k.ct ε σ G H rl (Ex.refl G) h
def aRet (a : AE) : AS := fun E ε => a ε E.rt
theorem as_ret (ha : AbsE c te a) : AbsS c (tRet te) (aRet a) := fun ε σ G H rl E D' h k =>
  ha ε σ G H rl _ _ h fun v d G1 H1 s1 r1 h1 => k.rt v d G1 H1 (rl.his.trans s1) r1 h1
def aRetN : AS := fun E _ => E.rt .none
theorem as_retN : AbsS c tRetN aRetN := fun ε σ G H rl E D' h k => k.rt _ _ G H rl.his .non h
def aDrop (a : AE) : AS := fun E ε => a ε fun _ => E.nx ε
theorem as_drop (ha : AbsE c te a) : AbsS c (tDrop te) (aDrop a) := fun ε σ G H rl E D' h k =>
  ha ε σ G H rl _ _ h fun v d G1 H1 s1 r1 h1 => k.nx ε σ G1 H1 (rl.step s1) s1.gg h1
def aIfS (t : AT) (s v : AS) : AS := fun E ε => t ε fun k => if k = true then s E ε else v E ε
theorem as_if {tt : TT} {at' : AT} (ht : AbsT c tt at') (h1 : AbsS c t s) (h2 : AbsS c u v) : AbsS c (tIfS tt t u) (aIfS at' s v) := by
  intro ε σ G H rl E D' h k
  refine ht ε σ G H rl _ _ h fun x G1 H1 s1 q => ?_
  cases x with
  | true => exact iteT (h1 ε σ G1 H1 (rl.step s1) E D' (by simpa using q) (k.mono s1.gg))
  | false => exact iteF (h2 ε σ G1 H1 (rl.step s1) E D' (by simpa using q) (k.mono s1.gg))
def aSet (i : Nat) (a : AE) : AS := fun E ε => a ε fun d => E.nx (ε.set i (.d d))
theorem as_set (i : Nat) (ha : AbsE c te a) : AbsS c (tAsg te (gName i)) (aSet i a) := fun ε σ G H rl E D' h k =>
  ha ε σ G H rl _ _ h fun v d G1 H1 s1 r1 h1 => k.nx _ _ G1 H1 ((rl.step s1).put (x := .d d) ⟨v, rfl, r1⟩ rfl) s1.gg h1
/-- a target: a name, or a tuple of names -/
abbrev AG := D → En → (En → Prop) → Prop
def AbsG {K : PySem.W.Frag} (c : Ctx K) (g : TG) (ag : AG) : Prop := ∀ ε σ G H v d, Rel c ε σ G H → Rv K G v d → ∀ (Qd : En → Prop) (Q : St → Hp → Prop), ag d ε Qd → (∀ ε' σ' G' H', Rel c ε' σ' G' H' → Step c G H G' H' → Qd ε' → Q σ' H') → g v σ H Q
def agName (i : Nat) : AG := fun d ε Q => Q (ε.set i (.d d))
theorem ag_name (i : Nat) : AbsG c (gName i) (agName i) := fun ε σ G H v d rl r Qd Q h q => q _ _ G H (rl.put (x := .d d) ⟨v, rfl, r⟩ rfl) (.refl rl.ok) h
abbrev AGs := List D → En → (En → Prop) → Prop
def AbsGs {K : PySem.W.Frag} (c : Ctx K) (g : TGs) (ag : AGs) : Prop := ∀ ε σ G H vs ds, Rel c ε σ G H → RvA K G vs ds → ∀ (Qd : En → Prop) (Q : St → Hp → Prop), ag ds ε Qd → (∀ ε' σ' G' H', Rel c ε' σ' G' H' → Step c G H G' H' → Qd ε' → Q σ' H') → g vs σ H Q
def agNil : AGs := fun ds ε Q => ds = [] ∧ Q ε
def agCons (g : AG) (r : AGs) : AGs := fun ds ε Q => match ds with | d :: ds => g d ε fun ε' => r ds ε' Q | [] => False
theorem ags_nil : AbsGs c gNil agNil := fun ε σ G H vs ds rl r Qd Q h q => by
  obtain ⟨rfl, h⟩ := h
  cases r
  exact ⟨rfl, q _ _ G H rl (.refl rl.ok) h⟩
theorem ags_cons {g : TG} {gs : TGs} {ag : AG} {ags : AGs} (h1 : AbsG c g ag) (h2 : AbsGs c gs ags) : AbsGs c (gCons g gs) (agCons ag ags) := fun ε σ G H vs ds rl r Qd Q h q => by
  cases r with
  | nil => exact h.elim
  | cons hv hr =>
    refine ⟨_, _, rfl, ?_⟩
    refine h1 ε σ G H _ _ rl hv _ _ h fun ε' σ' G' H' r' s' h' => ?_
    exact h2 ε' σ' G' H' _ _ r' (hr.mono s'.gg) _ _ h' fun ε2 σ2 G2 H2 r2 s2 h2 => q _ _ G2 H2 r2 (s'.trans s2) h2
def agTup (n : Nat) (r : AGs) : AG := fun d ε Q => match d with | .tuple ds => ds.length = n ∧ r ds ε Q | _ => False
theorem ag_tup {n : Nat} {gs : TGs} {ags : AGs} (h2 : AbsGs c gs ags) : AbsG c (gTup K n gs) (agTup n ags) := fun ε σ G H v d rl r Qd Q h q => by
  cases r with
  | tup hs ha => exact ⟨_, _, rfl, rl.ok.ex.sqt hs, ha.length.trans h.1, h2 ε σ G H _ _ rl ha _ _ h.2 q⟩
  | _ => exact h.elim
def aAsg (a : AE) (g : AG) : AS := fun E ε => a ε fun d => g d ε E.nx
theorem as_asg {g : TG} {ag : AG} (ha : AbsE c te a) (hg : AbsG c g ag) : AbsS c (tAsg te g) (aAsg a ag) := fun ε σ G H rl E D' h k =>
  ha ε σ G H rl _ _ h fun v d G1 H1 s1 r1 h1 => hg ε σ G1 H1 v d (rl.step s1) r1 _ _ h1 fun ε' σ' G' H' r' s' h' => k.nx _ _ G' H' r' (s1.gg.trans s'.gg) h'
end
end Fc

namespace Fc
open PySem L2
/-! ### what is walked -/
def Walk {K : PySem.W.Frag} (c : Ctx K) (J : It) (items : List D) (g : Hp) : Prop := ∀ (i : Nat) (G H : Hp), Ex g G → Ok c G H →
  (i < items.length → J.go i H ∧ ∀ x H', J.yld i H x H' → ∃ G', Step c G H G' H' ∧ ∃ d, items[i]? = some d ∧ Rv K G' x d) ∧ (items.length ≤ i → J.stop i H)
abbrev AI := En → (List D → Prop) → Prop
def AbsI {K : PySem.W.Frag} (c : Ctx K) (wi : TI) (ai : AI) : Prop := ∀ ε σ G H, Rel c ε σ G H → ∀ (Qd : List D → Prop) (R : It → Hp → Prop), ai ε Qd → (∀ J items G' H', Step c G H G' H' → Walk c J items G' → Qd items → R J H') → wi σ H R
section
variable {K : PySem.W.Frag} {c : Ctx K} {ta : TE} {a : AE}
def aiList (a : AE) : AI := fun ε Q => a ε fun d => match d with | .list ds => Q ds | _ => False
theorem ai_list (ha : AbsE c ta a) : AbsI c (iList K ta) (aiList a) := by
  intro ε σ G H rl Qd R h q
  refine ha ε σ G H rl _ _ h fun x dx G1 H1 s1 r1 h1 => ?_
  cases r1 with
  | @lst p xs ds hp hA =>
    have k1 := (rl.step s1).ok
    refine ⟨p, rfl, ⟨xs, SqL.of (k1.ex _ _ hp)⟩, q (Itl K p) ds G1 H1 s1 (fun i G2 H2 e k2 => ⟨fun hi => ?_, fun hi => ?_⟩) h1⟩
    · have hS : SqL K H2 p xs := SqL.of (k2.ex _ _ (e _ _ hp))
      have hl : i < xs.length := by rw [hA.length]; exact hi
      refine ⟨⟨xs, xs[i], hS, List.getElem?_eq_getElem hl⟩, fun x H' hy => ?_⟩
      obtain ⟨rfl, hy⟩ := hy
      obtain ⟨d, hd, hr⟩ := (hA.mono e).getV (hy xs hS)
      exact ⟨G2, .refl k2, d, hd, hr⟩
    · exact ⟨xs, SqL.of (k2.ex _ _ (e _ _ hp)), by rw [hA.length]; exact hi⟩
  | _ => exact h1.elim
def aiTup (a : AE) : AI := fun ε Q => a ε fun d => match d with | .tuple ds => Q ds | _ => False
theorem ai_tup (ha : AbsE c ta a) : AbsI c (iTup K ta) (aiTup a) := by
  intro ε σ G H rl Qd R h q
  refine ha ε σ G H rl _ _ h fun x dx G1 H1 s1 r1 h1 => ?_
  cases r1 with
  | @tup p xs ds hp hA =>
    have k1 := (rl.step s1).ok
    refine ⟨p, rfl, ⟨xs, k1.ex.sqt hp⟩, q (Itt K p) ds G1 H1 s1 (fun i G2 H2 e k2 => ⟨fun hi => ?_, fun hi => ?_⟩) h1⟩
    · have hS : SqT K H2 p xs := k2.ex.sqt (e.sqt hp)
      have hl : i < xs.length := by rw [hA.length]; exact hi
      refine ⟨⟨xs, xs[i], hS, List.getElem?_eq_getElem hl⟩, fun x H' hy => ?_⟩
      obtain ⟨rfl, hy⟩ := hy
      obtain ⟨d, hd, hr⟩ := (hA.mono e).getV (hy xs hS)
      exact ⟨G2, .refl k2, d, hd, hr⟩
    · exact ⟨xs, k2.ex.sqt (e.sqt hp), by rw [hA.length]; exact hi⟩
  | _ => exact h1.elim
/-- the ints lo, lo + 1, .. -/
def rngD (lo : Int) (n : Nat) : List D := (List.range n).map fun (i : Nat) => PyData.int (lo + (i : Int))
theorem rngD_len (lo : Int) (n : Nat) : (rngD lo n).length = n := by unfold rngD; rw [List.length_map, List.length_range]
theorem rngD_get {lo : Int} {n i : Nat} (h : i < n) : (rngD lo n)[i]? = some (PyData.int (lo + (i : Int))) := by
  unfold rngD; rw [List.getElem?_map, List.getElem?_range h]; rfl
theorem walk_rng (lo : Int) (n : Nat) (g : Hp) : Walk c (Itr lo n) (rngD lo n) g := by
  intro i G H e k
  rw [rngD_len]
  refine ⟨fun hi => ⟨hi, fun x H' hy => ?_⟩, fun hi => hi⟩
  obtain ⟨rfl, rfl⟩ := hy
  exact ⟨G, .refl k, _, rngD_get hi, .int _⟩
def InRg (j : Int) : Prop := -(2 ^ 62) ≤ j ∧ j < 2 ^ 62
def aiRng1 (r : AA) : AI := fun ε Q => r ε fun ds => match ds with | [.int j] => InRg j ∧ Q (rngD 0 j.toNat) | _ => False
theorem ai_rng1 {tr : TA} {ar : AA} (hr : AbsA c tr ar) : AbsI c (iRng1 tr) (aiRng1 ar) := by
  intro ε σ G H rl Qd R h q
  refine hr ε σ G H rl _ _ h fun vs ds G1 H1 s1 r1 h1 => ?_
  split at h1
  · rename_i j
    cases r1 with
    | cons a b =>
      cases a; cases b
      exact ⟨j, rfl, h1.1.1, h1.1.2, q _ _ G1 H1 s1 (walk_rng 0 j.toNat G1) h1.2⟩
  · exact h1.elim
def aiRng2 (r : AA) : AI := fun ε Q => r ε fun ds => match ds with | [.int i, .int j] => (InRg i ∧ InRg j) ∧ Q (rngD i (j - i).toNat) | _ => False
theorem ai_rng2 {tr : TA} {ar : AA} (hr : AbsA c tr ar) : AbsI c (iRng2 tr) (aiRng2 ar) := by
  intro ε σ G H rl Qd R h q
  refine hr ε σ G H rl _ _ h fun vs ds G1 H1 s1 r1 h1 => ?_
  split at h1
  · rename_i i j
    cases r1 with
    | cons a b =>
      cases a
      cases b with
      | cons a b =>
        cases a; cases b
        exact ⟨i, j, rfl, ⟨h1.1.1.1, h1.1.1.2, h1.1.2.1, h1.1.2.2⟩, q _ _ G1 H1 s1 (walk_rng i (j - i).toNat G1) h1.2⟩
  · exact h1.elim
/-- the ints lo, lo + c, .. -/
def rngC (lo st : Int) (n : Nat) : List D := (List.range n).map fun (i : Nat) => PyData.int (lo + (i : Int) * st)
theorem rngC_len (lo st : Int) (n : Nat) : (rngC lo st n).length = n := by unfold rngC; rw [List.length_map, List.length_range]
theorem walk_rngC (lo st : Int) (n : Nat) (g : Hp) : Walk c (Itc lo st n) (rngC lo st n) g := by
  intro i G H e k
  rw [rngC_len]
  refine ⟨fun hi => ⟨hi, fun x H' hy => ?_⟩, fun hi => hi⟩
  obtain ⟨rfl, rfl⟩ := hy
  refine ⟨G, .refl k, _, ?_, .int _⟩
  unfold rngC; rw [List.getElem?_map, List.getElem?_range hi]; rfl
def aiRng3 (r : AA) : AI := fun ε Q => r ε fun ds => match ds with | [.int i, .int j, .int st] => ∃ n, RgC i j st n ∧ Q (rngC i st n) | _ => False
theorem ai_rng3 {tr : TA} {ar : AA} (hr : AbsA c tr ar) : AbsI c (iRng3 tr) (aiRng3 ar) := by
  intro ε σ G H rl Qd R h q
  refine hr ε σ G H rl _ _ h fun vs ds G1 H1 s1 r1 h1 => ?_
  split at h1
  · rename_i i j st
    obtain ⟨n, hn, h1⟩ := h1
    cases r1 with
    | cons a b =>
      cases a
      cases b with
      | cons a b =>
        cases a
        cases b with
        | cons a b =>
          cases a; cases b
          exact ⟨i, j, st, n, rfl, hn, q _ _ G1 H1 s1 (walk_rngC i st n G1) h1⟩
  · exact h1.elim
def signs (x : Str) : List D := x.cps.toList.map fun k => PyData.str ⟨#[k]⟩
theorem signs_len (x : Str) : (signs x).length = x.cps.size := by unfold signs; rw [List.length_map, Array.length_toList]
def aiStr (a : AE) : AI := fun ε Q => a ε fun d => match d with | .str x => Q (signs x) | _ => False
theorem ai_str (ha : AbsE c ta a) : AbsI c (iStr ta) (aiStr a) := by
  intro ε σ G H rl Qd R h q
  refine ha ε σ G H rl _ _ h fun x dx G1 H1 s1 r1 h1 => ?_
  cases r1 with
  | str z =>
    refine ⟨z, rfl, q (Its z) (signs z) G1 H1 s1 (fun i G2 H2 e k2 => ?_) h1⟩
    rw [signs_len]
    refine ⟨fun hi => ⟨hi, fun x H' hy => ?_⟩, fun hi => hi⟩
    obtain ⟨rfl, k, hk, rfl⟩ := hy
    refine ⟨G2, .refl k2, _, ?_, .str _⟩
    unfold signs
    rw [List.getElem?_map, Array.getElem?_toList, hk]; rfl
  | _ => exact h1.elim
def aiEnum (r : AA) : AI := fun ε Q => r ε fun ds => match ds with | [.list xs] => Q (xs.mapIdx fun i x => PyData.tuple [.int (i : Int), x]) | _ => False
theorem ai_enum {tr : TA} {ar : AA} (hr : AbsA c tr ar) : AbsI c (iEnum K tr) (aiEnum ar) := by
  intro ε σ G H rl Qd R h q
  refine hr ε σ G H rl _ _ h fun vs ds G1 H1 s1 r1 h1 => ?_
  split at h1
  · rename_i xs
    cases r1 with
    | cons a b =>
      cases b
      cases a with
      | @lst p us _ hp hA =>
        have k1 := (rl.step s1).ok
        refine ⟨p, us, rfl, SqL.of (k1.ex _ _ hp), q (Ite K p) _ G1 H1 s1 (fun i G2 H2 e k2 => ?_) h1⟩
        have hS : SqL K H2 p us := SqL.of (k2.ex _ _ (e _ _ hp))
        rw [List.length_mapIdx]
        refine ⟨fun hi => ?_, fun hi => ⟨us, hS, by rw [hA.length]; exact hi⟩⟩
        have hl : i < us.length := by rw [hA.length]; exact hi
        refine ⟨⟨us, us[i], hS, List.getElem?_eq_getElem hl⟩, fun x H' hy => ?_⟩
        obtain ⟨T, y, rfl, hT, rfl, hy⟩ := hy
        obtain ⟨d, hd, hr⟩ := (hA.mono e).getV (hy us hS)
        have s3 := Step.new (o := .tup [.int (i : Nat), y]) k2 hT
        refine ⟨_, s3, _, ?_, .tup (SqT.of upd_same) (.cons (.int _) (.cons (hr.mono s3.gg) .nil))⟩
        rw [List.getElem?_mapIdx, hd]; rfl
  · exact h1.elim
end
/-! ### loops -/
section
variable {K : PySem.W.Frag} {c : Ctx K}
def aFor (ai : AI) (ag : AG) (s : AS) : AS := fun E ε => ai ε fun items => ∃ I : Nat → En → Prop, I 0 ε ∧
  (∀ (i : Nat) (d : D) (ε' : En), items[i]? = some d → I i ε' → ag d ε' fun ε'' => s { nx := I (i + 1), ct := I (i + 1), bk := E.nx, rt := E.rt } ε'') ∧ ∀ ε', I items.length ε' → E.nx ε'
theorem as_for {wi : TI} {ai : AI} {g : TG} {ag : AG} {t : TS} {s : AS} (hi : AbsI c wi ai) (hg : AbsG c g ag) (hs : AbsS c t s) : AbsS c (tFor wi g t) (aFor ai ag s) := by
  intro ε σ G H rl E D' h k
  refine hi ε σ G H rl _ _ h fun J items G1 H1 s1 wk h1 => ?_
  obtain ⟨I, i0, it, ie⟩ := h1
  refine ⟨fun i m σ' H' => i + m = items.length ∧ ∃ ε' G', Rel c ε' σ' G' H' ∧ Ex G1 G' ∧ I i ε', ⟨items.length, by omega, ε, G1, rl.step s1, Ex.refl _, i0⟩, fun i m σ' H' w => ?_⟩
  obtain ⟨em, ε', G', r', x', hI⟩ := w
  by_cases hl : i < items.length
  · obtain ⟨go, yl⟩ := (wk i G' H' x' r'.ok).1 hl
    refine .inr ⟨go, fun σ2 H2 => ∃ ε2 G2, Rel c ε2 σ2 G2 H2 ∧ Ex G1 G2 ∧ I (i + 1) ε2, fun σ2 H2 n => ⟨m - 1, by omega, by omega, n⟩, fun x H2 hy => ?_⟩
    obtain ⟨G2, s2, d, hd, hr⟩ := yl x H2 hy
    refine hg ε' σ' G2 H2 x d (r'.step s2) hr _ _ (it i d ε' hd hI) fun ε3 σ3 G3 H3 r3 s3 h3 => ?_
    have x3 : Ex G1 G3 := x'.trans (s2.gg.trans s3.gg)
    refine hs ε3 σ3 G3 H3 r3 _ _ h3 ⟨fun ε4 σ4 G4 H4 r4 x4 q => ⟨ε4, G4, r4, x3.trans x4, q⟩, k.rt, fun ε4 σ4 G4 H4 r4 x4 q => k.nx ε4 σ4 G4 H4 r4 (s1.gg.trans (x3.trans x4)) q, fun ε4 σ4 G4 H4 r4 x4 q => ⟨ε4, G4, r4, x3.trans x4, q⟩⟩
  · have he : i = items.length := by omega
    subst he
    exact .inl ⟨(wk _ G' H' x' r'.ok).2 (Nat.le_refl _), k.nx ε' σ' G' H' r' (s1.gg.trans x') (ie ε' hI)⟩
def aWhile (tc : AT) (s : AS) : AS := fun E ε => ∃ I : Nat → En → Prop, (∃ m, I m ε) ∧ ∀ m ε', I m ε' → tc ε' fun b => if b = true then s { nx := fun ε2 => ∃ m', m' < m ∧ I m' ε2, ct := fun ε2 => ∃ m', m' < m ∧ I m' ε2, bk := E.nx, rt := E.rt } ε' else E.nx ε'
theorem as_while {tt : TT} {tc : AT} {t : TS} {s : AS} (hc : AbsT c tt tc) (hs : AbsS c t s) : AbsS c (tWhile tt t) (aWhile tc s) := by
  intro ε σ G H rl E D' h k
  obtain ⟨I, ⟨m0, i0⟩, hI⟩ := h
  refine ⟨fun m σ' H' => ∃ ε' G', Rel c ε' σ' G' H' ∧ Ex G G' ∧ I m ε', ⟨m0, ε, G, rl, Ex.refl _, i0⟩, fun m σ' H' w => ?_⟩
  obtain ⟨ε', G', r', x', hm⟩ := w
  refine hc ε' σ' G' H' r' _ _ (hI m ε' hm) fun b G2 H2 s2 h2 => ?_
  have x2 : Ex G G2 := x'.trans s2.gg
  cases b with
  | false => exact iteF (k.nx ε' σ' G2 H2 (r'.step s2) x2 (by simpa using h2))
  | true =>
    refine iteT ⟨fun σ3 H3 => ∃ m', m' < m ∧ ∃ ε3 G3, Rel c ε3 σ3 G3 H3 ∧ Ex G G3 ∧ I m' ε3, fun σ3 H3 n => ?_, ?_⟩
    · obtain ⟨m', l, n⟩ := n; exact ⟨m', l, n⟩
    · rw [if_pos rfl] at h2
      exact hs ε' σ' G2 H2 (r'.step s2) _ _ h2 ⟨fun ε4 σ4 G4 H4 r4 x4 q => by
          obtain ⟨m', l, q⟩ := q; exact ⟨m', l, ε4, G4, r4, x2.trans x4, q⟩, k.rt, fun ε4 σ4 G4 H4 r4 x4 q => k.nx ε4 σ4 G4 H4 r4 (x2.trans x4) q, fun ε4 σ4 G4 H4 r4 x4 q => by
          obtain ⟨m', l, q⟩ := q; exact ⟨m', l, ε4, G4, r4, x2.trans x4, q⟩⟩
end
/-! ### one slot more, at the end -/
section
variable {K : PySem.W.Frag} {c : Ctx K} {ε : En} {σ : St} {G H G' H' : Hp}
theorem Rel.snoc (r : Rel c ε σ G H) {p : Addr} {o : HO} {x : Cell} (hp : H p = none) (hx : CellOk c G (upd H p o) (some (.ref p)) x) : Rel c (ε ++ [x]) (σ ++ [some (.ref p)]) G (upd H p o) := by
  obtain ⟨r', hg, h0⟩ := r.fresh (o := o) hp
  have lens := r.len
  have old : ∀ (m : Nat) (u : Cell), ε[m]? = some u → u.isOwn = true → σ[m]? = some (some (.ref p)) → False := fun m u em om sm => by
    obtain ⟨w, w1, w2⟩ := r.cell m u em
    rw [sm] at w1
    cases w1
    cases u with
    | own xs => obtain ⟨q, vs, e, g, _⟩ := w2; cases e; rw [hp] at g; cases g
    | dic kds => obtain ⟨q, vs, e, g, _⟩ := w2; cases e; rw [hp] at g; cases g
    | un => cases om
    | d x => cases om
    | tape => cases om
    | raw v => cases om
  have part : ∀ (j : Nat) (y : Cell), (ε ++ [x])[j]? = some y → (j < ε.length ∧ ε[j]? = some y) ∨ (j = ε.length ∧ y = x) := fun j y e => by
    by_cases hj : j < ε.length
    · rw [List.getElem?_append_left hj] at e; exact .inl ⟨hj, e⟩
    · rw [List.getElem?_append_right (by omega)] at e
      cases hk : j - ε.length with
      | zero => rw [hk] at e; simp at e; exact .inr ⟨by omega, e.symm⟩
      | succ n => rw [hk] at e; simp at e
  refine ⟨r'.his, by simp [r.len], fun j y e => ?_, fun j k y z q ey ez oy oz sj sk => ?_⟩
  · rcases part j y e with ⟨hj, e⟩ | ⟨rfl, rfl⟩
    · obtain ⟨o', e1, e2⟩ := r'.cell j y e
      exact ⟨o', by rw [List.getElem?_append_left (by rw [lens]; exact hj)]; exact e1, e2⟩
    · exact ⟨some (.ref p), by rw [List.getElem?_append_right (by rw [lens]; exact Nat.le_refl _), lens, Nat.sub_self]; rfl, hx⟩
  · rcases part j y ey with ⟨hj, ey⟩ | ⟨e1, e2⟩
    · rw [List.getElem?_append_left (by rw [lens]; exact hj)] at sj
      rcases part k z ez with ⟨hk, ez⟩ | ⟨e3, e4⟩
      · rw [List.getElem?_append_left (by rw [lens]; exact hk)] at sk
        exact r.inj j k y z q ey ez oy oz sj sk
      · rw [e3, List.getElem?_append_right (by rw [lens]; exact Nat.le_refl _), lens, Nat.sub_self] at sk
        simp at sk; subst sk
        exact (old j y ey oy sj).elim
    · rcases part k z ez with ⟨hk, ez⟩ | ⟨e3, e4⟩
      · rw [List.getElem?_append_left (by rw [lens]; exact hk)] at sk
        rw [e1, List.getElem?_append_right (by rw [lens]; exact Nat.le_refl _), lens, Nat.sub_self] at sj
        simp at sj; subst sj
        exact (old k z ez oz sk).elim
      · rw [e1, e3]
theorem Rel.init {x : Cell} {o : Option V} (r : Rel c (ε ++ [x]) (σ ++ [o]) G H) : Rel c ε σ G H := by
  have lens : σ.length = ε.length := by have h := r.len; simp at h; exact h
  have up : ∀ (j : Nat) (y : Cell), ε[j]? = some y → (ε ++ [x])[j]? = some y ∧ (σ ++ [o])[j]? = σ[j]? := fun j y e => by
    have hj := (List.getElem?_eq_some_iff.mp e).1
    exact ⟨by rw [List.getElem?_append_left hj]; exact e, List.getElem?_append_left (by rw [lens]; exact hj)⟩
  refine ⟨r.his, lens, fun j y e => ?_, fun j k y z q ey ez oy oz sj sk => ?_⟩
  · obtain ⟨e1, e2⟩ := up j y e
    obtain ⟨w, w1, w2⟩ := r.cell j y e1
    exact ⟨w, by rw [← e2]; exact w1, w2⟩
  · obtain ⟨e1, e2⟩ := up j y ey
    obtain ⟨e3, e4⟩ := up k z ez
    exact r.inj j k y z q e1 e3 oy oz (by rw [e2]; exact sj) (by rw [e4]; exact sk)
end
/-! ### comprehensions -/
def wipeE (ε : En) : List Nat → En
  | [] => ε
  | v :: vs => (wipeE ε vs).set v .un
section
variable {K : PySem.W.Frag} {c : Ctx K} {ε : En} {σ : St} {G H G' H' : Hp}
theorem Rel.wipe (r : Rel c ε σ G H) : ∀ vs : List Nat, Rel c (wipeE ε vs) (L2.wipe σ vs) G H
  | [] => r
  | v :: vs => (r.wipe vs).drop
theorem wipe_len (σ : St) : ∀ vs : List Nat, (L2.wipe σ vs).length = σ.length
  | [] => rfl
  | v :: vs => by show ((L2.wipe σ vs).set v none).length = _; rw [List.length_set]; exact wipe_len σ vs
theorem wipe_get (σ : St) (i : Nat) : ∀ vs : List Nat, (L2.wipe σ vs)[i]? = if i ∈ vs then (if i < σ.length then some none else none) else σ[i]?
  | [] => by simp [L2.wipe]
  | v :: vs => by
    show ((L2.wipe σ vs).set v none)[i]? = _
    rw [List.getElem?_set, wipe_get σ i vs, wipe_len]
    by_cases q : v = i
    · subst q; simp
    · rw [if_neg q]
      have e : (i ∈ v :: vs) ↔ i ∈ vs := by
        rw [List.mem_cons]
        exact ⟨fun z => z.elim (fun z => (q z.symm).elim) id, .inr⟩
      by_cases h : i ∈ vs
      · rw [if_pos h, if_pos (e.mpr h)]
      · rw [if_neg h, if_neg (fun z => h (e.mp z))]
theorem wipe_set {vs : List Nat} {j : Nat} {o : Option V} (h : j ∈ vs) (σ : St) : L2.wipe (σ.set j o) vs = L2.wipe σ vs := by
  apply List.ext_getElem?
  intro i
  rw [wipe_get, wipe_get, List.length_set]
  by_cases q : i ∈ vs
  · rw [if_pos q, if_pos q]
  · rw [if_neg q, if_neg q, List.getElem?_set, if_neg (fun z : j = i => q (z ▸ h))]
theorem wipe_wipe (vs : List Nat) (σ : St) : L2.wipe (L2.wipe σ vs) vs = L2.wipe σ vs := by
  apply List.ext_getElem?
  intro i
  rw [wipe_get, wipe_get, wipe_len]
  by_cases q : i ∈ vs <;> simp [q]
/-- a target sets slots of vs alone -/
structure GOnly (vs : List Nat) (g : TG) : Prop where
  mono : ∀ x σ H (Q Q' : St → Hp → Prop), (∀ σ' H', Q σ' H' → Q' σ' H') → g x σ H Q → g x σ H Q'
  only : ∀ x σ H Q, g x σ H Q → g x σ H fun σ2 H2 => L2.wipe σ2 vs = L2.wipe σ vs ∧ Q σ2 H2
structure GsOnly (vs : List Nat) (g : TGs) : Prop where
  mono : ∀ x σ H (Q Q' : St → Hp → Prop), (∀ σ' H', Q σ' H' → Q' σ' H') → g x σ H Q → g x σ H Q'
  only : ∀ x σ H Q, g x σ H Q → g x σ H fun σ2 H2 => L2.wipe σ2 vs = L2.wipe σ vs ∧ Q σ2 H2
theorem go_name {vs : List Nat} {j : Nat} (h : j ∈ vs) : GOnly vs (gName j) := ⟨fun _ _ _ _ _ i q => i _ _ q, fun _ σ _ _ q => ⟨wipe_set h σ, q⟩⟩
theorem gos_nil {vs : List Nat} : GsOnly vs gNil := ⟨fun _ _ _ _ _ i q => ⟨q.1, i _ _ q.2⟩, fun _ σ _ _ q => ⟨q.1, rfl, q.2⟩⟩
theorem gos_cons {vs : List Nat} {g : TG} {gs : TGs} (h1 : GOnly vs g) (h2 : GsOnly vs gs) : GsOnly vs (gCons g gs) :=
  ⟨fun _ _ _ _ _ i q => by
    obtain ⟨v, r, e, q⟩ := q
    exact ⟨v, r, e, h1.mono _ _ _ _ _ (fun σ' H' q' => h2.mono _ _ _ _ _ i q') q⟩, fun _ σ _ _ q => by
    obtain ⟨v, r, e, q⟩ := q
    refine ⟨v, r, e, h1.mono _ _ _ _ _ (fun σ' H' q' => ?_) (h1.only _ _ _ _ q)⟩
    exact h2.mono _ _ _ _ _ (fun σ2 H2 q2 => ⟨q2.1.trans q'.1, q2.2⟩) (h2.only _ _ _ _ q'.2)⟩
theorem go_tup {vs : List Nat} {n : Nat} {gs : TGs} (h : GsOnly vs gs) : GOnly vs (gTup K n gs) :=
  ⟨fun _ _ _ _ _ i q => by
    obtain ⟨a, xs, e, s, l, q⟩ := q
    exact ⟨a, xs, e, s, l, h.mono _ _ _ _ _ i q⟩, fun _ σ _ _ q => by
    obtain ⟨a, xs, e, s, l, q⟩ := q
    exact ⟨a, xs, e, s, l, h.only _ _ _ _ q⟩⟩
theorem Step.mutNew (s : Step c G H G' H') {p : Addr} {o : HO} (h : H p = none) (hg : G' p = none) (hm : ¬ c.M p) : Step c G H G' (upd H' p o) :=
  ⟨s.gg, fun b u e => by rw [upd_ne (ne_of_none e hg)]; exact s.gh b u e, fun b u m e => by rw [upd_ne (ne_of_none e h)]; exact s.hh b u m e, s.fr, c.loc H' _ s.r fun b m => upd_ne fun q => hm (q ▸ m)⟩
theorem Step.lay (s : Step c G H G' H') {p : Addr} {o : HO} (h : H p = none) (hg : G' p = none) (hp : H' p = some o) : Step c G H (upd G' p o) H' :=
  ⟨s.gg.trans (Ex.new hg), fun b u e => by
    by_cases q : b = p
    · subst q; rw [upd_same] at e; cases e; exact hp
    · rw [upd_ne q] at e; exact s.gh b u e, s.hh, fun b g n => by
    rw [upd_ne (fun q => n (by rw [q]; exact h))]; exact s.fr b g n, s.r⟩
/-- which elements may come: I i acc of the first i items; a turn by a test and an element -/
def aLc (ai : AI) (ag : AG) (tt : AT) (ae : AE) (vs : List Nat) : AE := fun ε Q => ai ε fun items => items.length ≤ sizeLine ∧ ∃ I : Nat → List D → Prop, I 0 [] ∧
  (∀ (i : Nat) (d : D) (acc : List D), items[i]? = some d → I i acc → ag d (wipeE ε vs) fun ε' => tt ε' fun b => if b = true then ae ε' fun y => I (i + 1) (acc ++ [y]) else I (i + 1) acc) ∧ ∀ acc, I items.length acc → Q (.list acc)
theorem ae_lc {wi : TI} {ai : AI} {g : TG} {ag : AG} {tt : TT} {at' : AT} {te : TE} {ae : AE} {vs : List Nat} (hi : AbsI c wi ai) (hg : AbsG c g ag) (ho : GOnly vs g) (ht : AbsT c tt at') (he : AbsE c te ae) : AbsE c (tLc wi g tt te vs) (aLc ai ag at' ae vs) := by
  intro ε σ G H rl Qd Q h q
  refine hi ε σ G H rl _ _ h fun J items G1 H1 s1 wk h1 => ?_
  obtain ⟨hz, I, i0, it, ie⟩ := h1
  intro P hP
  have r1 := rl.step s1
  obtain ⟨_, g1P, h0P⟩ := r1.fresh (o := .lst []) hP
  have nP := nM c h0P
  have hHP : H P = none := by
    cases e : H P with
    | none => rfl
    | some o => rw [s1.hh P o nP e] at hP; cases hP
  refine ⟨fun i m H' => i + m = items.length ∧ ∃ G' dacc, dacc.length ≤ i ∧ Rel c (ε ++ [.own dacc]) (σ ++ [some (.ref P)]) G' H' ∧ Step c G H G' H' ∧ Ex G1 G' ∧ I i dacc, ⟨items.length, by omega, G1, [], Nat.zero_le _, ?_, s1.mutNew hHP g1P nP, Ex.refl _, i0⟩, fun i m H' w => ?_⟩
  · exact r1.snoc hP ⟨P, [], rfl, upd_same, .nil, g1P, h0P⟩
  obtain ⟨em, G', dacc, dl, r', s', x', hI⟩ := w
  have cP := r'.cell ε.length (.own dacc) (by rw [List.getElem?_append_right (Nat.le_refl _), Nat.sub_self]; rfl)
  have sP : (σ ++ [some (V.ref P)])[ε.length]? = some (some (V.ref P)) := by rw [← rl.len, List.getElem?_append_right (Nat.le_refl _), Nat.sub_self]; rfl
  obtain ⟨o, eo, p, acc, rfl, hacc, racc, gP, h0⟩ := cP
  rw [sP] at eo
  cases eo
  by_cases hl : i < items.length
  · obtain ⟨go, yl⟩ := (wk i G' H' x' r'.ok).1 hl
    refine .inr ⟨go, fun H2 => ∃ G2 dacc2, dacc2.length ≤ i + 1 ∧ Rel c (ε ++ [.own dacc2]) (σ ++ [some (.ref P)]) G2 H2 ∧ Step c G H G2 H2 ∧ Ex G1 G2 ∧ I (i + 1) dacc2, fun H2 n => ⟨m - 1, by omega, by omega, n⟩, fun x H2 hy => ?_⟩
    obtain ⟨G2, s2, d, hd, hr⟩ := yl x H2 hy
    have rw2 : Rel c (wipeE ε vs) (L2.wipe σ vs) G2 H2 := (r'.step s2).init.wipe vs
    refine ho.mono _ _ _ _ _ (fun σ3 H3 q3 => ⟨q3.1.trans (wipe_wipe vs σ), q3.2⟩) (ho.only _ _ _ _ ?_)
    refine hg _ _ G2 H2 x d rw2 hr _ _ (it i d dacc hd hI) fun ε3 σ3 G3 H3 r3 s3 h3 => ?_
    refine ht ε3 σ3 G3 H3 r3 _ _ h3 fun b G4 H4 s4 h4 => ?_
    have s24 : Step c G' H' G4 H4 := (s2.trans s3).trans s4
    cases b with
    | false =>
      refine iteF ⟨G4, dacc, by omega, r'.step s24, s'.trans s24, x'.trans s24.gg, by simpa using h4⟩
    | true =>
      refine iteT ?_
      have h4' : ae ε3 fun y => I (i + 1) (dacc ++ [y]) := by simpa using h4
      refine he ε3 σ3 G4 H4 (r3.step s4) _ _ h4' fun y dy G5 H5 s5 ry h5 => ?_
      have s25 := s24.trans s5
      have r5 := r'.step s25
      have hP5 : H5 P = some (.lst acc) := s25.hh P _ (nM c h0) hacc
      have gP5 : G5 P = none := s25.fr P gP (by rw [hacc]; exact fun z => nomatch z)
      refine ⟨acc, hP5, by rw [racc.length]; omega, G5, dacc ++ [dy], by rw [List.length_append]; simpa using dl, ?_, (s'.trans s25).mutNew hHP gP5 (nM c h0), x'.trans s25.gg, h5⟩
      have key := r5.mut (o := .lst (acc ++ [y])) (x' := .own (dacc ++ [dy])) (i := ε.length) (x := .own dacc) (by rw [List.getElem?_append_right (Nat.le_refl _), Nat.sub_self]; rfl) rfl sP gP5 h0 ⟨P, acc ++ [y], rfl, upd_same, (racc.mono s25.gg).append (.one ry), gP5, h0⟩
      rw [List.set_append_right _ _ (Nat.le_refl _), Nat.sub_self] at key
      exact key
  · have hei : i = items.length := by omega
    subst hei
    refine .inl ⟨(wk _ G' H' x' r'.ok).2 (Nat.le_refl _), ?_⟩
    exact q _ _ (upd G' P (.lst acc)) H' (s'.lay hHP gP hacc) (.lst upd_same (racc.mono (Ex.new gP))) (ie dacc hI)
def atYes : AT := fun _ Q => Q true
theorem at_yes : AbsT c tYes atYes := fun ε σ G H rl Qd Q h q => q true G H (.refl rl.ok) h
end
end Fc

namespace Fc
open PySem L2
/-! ### operations -/
section
variable {K : PySem.W.Frag} {c : Ctx K}
def fI0 (g : Int → Int → D) : A2 := fun x y Q => match x, y with | .int i, .int j => Q (g i j) | _, _ => False
def fI (C : Int → Int → Prop) (g : Int → Int → D) : A2 := fun x y Q => match x, y with | .int i, .int j => C i j ∧ Q (g i j) | _, _ => False
theorem ar_I0i {g : Int → Int → Int} : AbsR2 c (rI0 fun i j => .int (g i j)) (fI0 fun i j => .int (g i j)) := by
  intro G H x y dx dy k rx ry Qd Q h q
  unfold fI0 at h
  split at h
  · cases rx; cases ry; exact ⟨_, _, rfl, rfl, q _ _ G H (.refl k) (.int _) h⟩
  · exact h.elim
theorem ar_I0b {g : Int → Int → Bool} : AbsR2 c (rI0 fun i j => .bl (g i j)) (fI0 fun i j => .bool (g i j)) := by
  intro G H x y dx dy k rx ry Qd Q h q
  unfold fI0 at h
  split at h
  · cases rx; cases ry; exact ⟨_, _, rfl, rfl, q _ _ G H (.refl k) (.bl _) h⟩
  · exact h.elim
theorem ar_I {C : Int → Int → Prop} {g : Int → Int → Int} : AbsR2 c (rI C fun i j => .int (g i j)) (fI C fun i j => .int (g i j)) := by
  intro G H x y dx dy k rx ry Qd Q h q
  unfold fI at h
  split at h
  · cases rx; cases ry; exact ⟨_, _, rfl, rfl, h.1, q _ _ G H (.refl k) (.int _) h.2⟩
  · exact h.elim
abbrev fSub : A2 := fI0 fun i j => .int (i - j)
abbrev fAddI : A2 := fI0 fun i j => .int (i + j)
abbrev fMul : A2 := fI CMul fun i j => .int (i * j)
abbrev fMod : A2 := fI (fun _ j => 0 < j) fun i j => .int (i % j)
abbrev fDiv : A2 := fI CDivW fun i j => .int (i / j)
abbrev fPow : A2 := fI CPow fun i j => .int (i ^ j.toNat)
abbrev fLt : A2 := fI0 fun i j => .bool (decide (i < j))
abbrev fLe : A2 := fI0 fun i j => .bool (decide (i ≤ j))
abbrev fGt : A2 := fI0 fun i j => .bool (decide (j < i))
abbrev fGe : A2 := fI0 fun i j => .bool (decide (j ≤ i))
def fNeg : A1 := fun x Q => match x with | .int i => Q (.int (-i)) | _ => False
theorem ar_neg : AbsR1 c (rU fun i => .int (-i)) fNeg := by
  intro G H x dx k rx Qd Q h q
  unfold fNeg at h
  split at h
  · cases rx; exact ⟨_, rfl, q _ _ G H (.refl k) (.int _) h⟩
  · exact h.elim
/-! + of ints, texts, tuples, lists -/
def rAddP (K : PySem.W.Frag) : R2 := fun x y H Q => rI0 (fun i j => V.int (i + j)) x y H Q ∨ (∃ i j, x = V.str i ∧ y = V.str j ∧ i.length + j.length ≤ sizeLine ∧ Q (V.str (i ++ j)) H) ∨ rCatA K x y H Q ∨ rCat x y H Q
theorem op_addP {X : Cx} : OpR X (binaryOp .Add) (rAddP X.K) := fun pins s σ H x y v u Q I rx ry h => by
  rcases h with h | h | h | h
  · exact op_add pins s σ H x y v u Q I rx ry h
  · exact op_add_str pins s σ H x y v u Q I rx ry h
  · exact op_catA pins s σ H x y v u Q I rx ry h
  · exact op_cat pins s σ H x y v u Q I rx ry h
def fAdd : A2 := fun x y Q => match x, y with
  | .int i, .int j => Q (.int (i + j))
  | .str a, .str b => a.length + b.length ≤ sizeLine ∧ Q (.str (a ++ b))
  | .tuple a, .tuple b => a.length + b.length ≤ sizeLine ∧ Q (.tuple (a ++ b))
  | .list a, .list b => a.length + b.length ≤ sizeLine ∧ Q (.list (a ++ b))
  | _, _ => False
theorem ar_add : AbsR2 c (rAddP K) fAdd := by
  intro G H x y dx dy k rx ry Qd Q h q
  unfold fAdd at h
  split at h
  · cases rx; cases ry; exact .inl ⟨_, _, rfl, rfl, q _ _ G H (.refl k) (.int _) h⟩
  · cases rx; cases ry; exact .inr (.inl ⟨_, _, rfl, rfl, h.1, q _ _ G H (.refl k) (.str _) h.2⟩)
  · cases rx with
    | @tup p xs ds hp hA =>
      cases ry with
      | @tup p2 ys es hp2 hA2 =>
        refine .inr (.inr (.inl ⟨_, _, xs, ys, rfl, rfl, k.ex.sqt hp, k.ex.sqt hp2, by rw [hA.length, hA2.length]; exact h.1, fun e => ?_, fun _ e => ?_, fun _ _ t ht => ?_⟩))
        · subst e; cases hA; exact q _ _ G H (.refl k) (.tup hp2 hA2) (by simpa using h.2)
        · subst e; cases hA2; exact q _ _ G H (.refl k) (.tup hp hA) (by simpa using h.2)
        · have s := Step.new (o := .tup (xs ++ ys)) k ht
          exact q _ _ _ _ s (.tup (SqT.of upd_same) ((hA.append hA2).mono s.gg)) h.2
  · cases rx with
    | @lst p xs ds hp hA =>
      cases ry with
      | @lst p2 ys es hp2 hA2 =>
        refine .inr (.inr (.inr ⟨_, _, xs, ys, rfl, rfl, k.ex _ _ hp, k.ex _ _ hp2, by rw [hA.length, hA2.length]; exact h.1, fun t ht => ?_⟩))
        have s := Step.new (o := .lst (xs ++ ys)) k ht
        exact q _ _ _ _ s (.lst upd_same ((hA.append hA2).mono s.gg)) h.2
  · exact h.elim
/-! x[i] -/
theorem at_get {G : Hp} {vs : List V} {ds : List D} {i : Int} {d : D} (h : RvA K G vs ds) (e : atI ds i = some d) : ∃ v, atI vs i = some v ∧ Rv K G v d := by
  unfold atI at e ⊢
  rw [h.length]
  cases q : ixN ds.length i with
  | none => rw [q] at e; cases e
  | some j =>
    rw [q] at e
    obtain ⟨v, h1, h2⟩ := h.get (show ds[j]? = some d from e)
    exact ⟨v, h1, h2⟩
def fIx : A2 := fun x y Q => match x, y with
  | .list xs, .int i => (match atI xs i with | some d => Q d | none => False)
  | .tuple xs, .int i => (match atI xs i with | some d => Q d | none => False)
  | .str z, .int i => z.length ≤ sizeLine ∧ (match atI z.cps.toList i with | some k => Q (.str ⟨#[k]⟩) | none => False)
  | _, _ => False
theorem ar_ix : AbsR2 c (rIx K) fIx := by
  intro G H x y dx dy k rx ry Qd Q h q
  unfold fIx at h
  split at h
  · cases ry
    cases rx with
    | @lst p xs ds hp hA =>
      split at h
      · rename_i d hd
        obtain ⟨v, h1, h2⟩ := at_get hA hd
        exact .inl ⟨_, xs, _, v, rfl, rfl, SqL.of (k.ex _ _ hp), h1, q _ _ G H (.refl k) h2 h⟩
      · exact h.elim
  · cases ry
    cases rx with
    | @tup p xs ds hp hA =>
      split at h
      · rename_i d hd
        obtain ⟨v, h1, h2⟩ := at_get hA hd
        exact .inr (.inl ⟨_, xs, _, v, rfl, rfl, k.ex.sqt hp, h1, q _ _ G H (.refl k) h2 h⟩)
      · exact h.elim
  · cases ry
    cases rx
    obtain ⟨hl, h⟩ := h
    split at h
    · rename_i z _ e hd
      exact .inr (.inr ⟨_, _, _, rfl, rfl, hl, hd, q _ _ G H (.refl k) (.str _) h⟩)
    · exact h.elim
  · exact h.elim
/-! x[a:b] -/
abbrev AO := En → (Option Int → Prop) → Prop
def AbsO (c : Ctx K) (t : TO) (a : AO) : Prop := ∀ ε σ G H, Rel c ε σ G H → ∀ (Qd : Option Int → Prop) (Q : Option Int → Hp → Prop), a ε Qd → (∀ o G' H', Step c G H G' H' → Qd o → Q o H') → t σ H Q
def aoNo : AO := fun _ Q => Q none
theorem ao_no : AbsO c tNoPart aoNo := fun ε σ G H rl Qd Q h q => q none G H (.refl rl.ok) h
def aoSome (a : AE) : AO := fun ε Q => a ε fun d => match d with | .int i => Q (some i) | _ => False
theorem ao_some {te : TE} {a : AE} (ha : AbsE c te a) : AbsO c (tPart te) (aoSome a) := by
  intro ε σ G H rl Qd Q h q
  refine ha ε σ G H rl _ _ h fun x dx G1 H1 s1 r1 h1 => ?_
  cases r1 with
  | int i => exact ⟨i, rfl, q _ G1 H1 s1 h1⟩
  | _ => exact h1.elim
def cut {α : Type} (xs : List α) (lo hi : Option Int) : List α := (xs.drop (HT.sIx xs.length 0 lo)).take (HT.sIx xs.length xs.length hi - HT.sIx xs.length 0 lo)
theorem cut_rv {G : Hp} {vs : List V} {ds : List D} (h : RvA K G vs ds) (lo hi : Option Int) : RvA K G (cutV vs lo hi) (cut ds lo hi) := by
  unfold cutV cut
  rw [h.length]
  exact (h.drop _).take _
theorem cut_whole {α : Type} (xs : List α) {lo hi : Option Int} (h : HT.sIx xs.length 0 lo = 0 ∧ HT.sIx xs.length xs.length hi = xs.length) : cut xs lo hi = xs := by
  unfold cut
  rw [h.1, h.2, List.drop_zero, Nat.sub_zero, List.take_length]
def rSlP (K : PySem.W.Frag) : V → Option Int → Option Int → Hp → VK → Prop := fun x lo hi H Q => rSlA K x lo hi H Q ∨ rSlL K x lo hi H Q ∨ rSlS x lo hi H Q
theorem sl_P {X : Cx} : SlR X (rSlP X.K) := fun pins s σ H x v vl vu lo hi sl Q I rx a b d h => by
  rcases h with h | h | h
  · exact sl_tupA pins s σ H x v vl vu lo hi sl Q I rx a b d h
  · exact sl_list pins s σ H x v vl vu lo hi sl Q I rx a b d h
  · exact sl_str pins s σ H x v vl vu lo hi sl Q I rx a b d h
def fSl (x : D) (lo hi : Option Int) (Q : D → Prop) : Prop := match x with
  | .tuple xs => Q (.tuple (cut xs lo hi))
  | .list xs => Q (.list (cut xs lo hi))
  | .str z => z.length ≤ sizeLine ∧ Q (.str (cutS z lo hi))
  | _ => False
def aSl (a : AE) (lo hi : AO) : AE := fun ε Q => a ε fun x => lo ε fun l => hi ε fun u => fSl x l u Q
theorem ae_sl {te : TE} {tl th : TO} {a : AE} {al ah : AO} (ha : AbsE c te a) (hl : AbsO c tl al) (hh : AbsO c th ah) : AbsE c (tSl (rSlP K) te tl th) (aSl a al ah) := by
  intro ε σ G H rl Qd Q h q
  refine ha ε σ G H rl _ _ h fun x dx G1 H1 s1 r1 h1 => ?_
  refine hl ε σ G1 H1 (rl.step s1) _ _ h1 fun lo G2 H2 s2 h2 => ?_
  refine hh ε σ G2 H2 ((rl.step s1).step s2) _ _ h2 fun hi G3 H3 s3 h3 => ?_
  have k := (((rl.step s1).step s2).step s3).ok
  have s := (s1.trans s2).trans s3
  have r3 := r1.mono (s2.trans s3).gg
  unfold fSl at h3
  split at h3
  · cases r3 with
    | @tup p xs ds hp hA =>
      refine .inl ⟨p, xs, rfl, k.ex.sqt hp, fun e => ?_, fun _ t ht => ?_⟩
      · rw [hA.length] at e
        rw [cut_whole _ e] at h3
        exact q _ _ G3 H3 s (.tup hp hA) h3
      · have s4 := Step.new (o := .tup (cutV xs lo hi)) k ht
        exact q _ _ _ _ (s.trans s4) (.tup (SqT.of upd_same) ((cut_rv hA lo hi).mono s4.gg)) h3
  · cases r3 with
    | @lst p xs ds hp hA =>
      refine .inr (.inl ⟨p, xs, rfl, SqL.of (k.ex _ _ hp), fun t ht => ?_⟩)
      have s4 := Step.new (o := .lst (cutV xs lo hi)) k ht
      exact q _ _ _ _ (s.trans s4) (.lst upd_same ((cut_rv hA lo hi).mono s4.gg)) h3
  · cases r3
    exact .inr (.inr ⟨_, rfl, h3.1, q _ _ G3 H3 s (.str _) h3.2⟩)
  · exact h3.elim
/-! len, list, tuple, all, int -/
def fLen : AC := fun ds Q => match ds with
  | [.str x] => x.length ≤ sizeLine ∧ Q (.int (x.length : Nat))
  | [.list xs] => Q (.int (xs.length : Nat))
  | [.tuple xs] => Q (.int (xs.length : Nat))
  | _ => False
theorem ac_len : AbsC c (fun xs H Q => ∃ x n, xs = [x] ∧ LenV K x H n ∧ Q (V.int ↑n) H) fLen := by
  intro G H xs ds k rx Qd Q h q
  unfold fLen at h
  split at h
  · cases rx with
    | cons a b => cases b; cases a; exact ⟨_, _, rfl, ⟨h.1, rfl⟩, q _ _ G H (.refl k) (.int _) h.2⟩
  · cases rx with
    | cons a b =>
      cases b
      cases a with
      | @lst p us _ hp hA =>
        refine ⟨_, _, rfl, .inl ⟨us, SqL.of (k.ex _ _ hp), rfl⟩, q _ _ G H (.refl k) (.int _) ?_⟩
        rw [hA.length]; exact h
  · cases rx with
    | cons a b =>
      cases b
      cases a with
      | @tup p us _ hp hA =>
        refine ⟨_, _, rfl, .inr ⟨us, k.ex.sqt hp, rfl⟩, q _ _ G H (.refl k) (.int _) ?_⟩
        rw [hA.length]; exact h
  · exact h.elim
def fTuple : AC := fun ds Q => match ds with
  | [.list xs] => Q (.tuple xs)
  | [.tuple xs] => Q (.tuple xs)
  | _ => False
theorem ac_tuple : AbsC c (fun xs H Q => ∃ p ys, xs = [V.ref p] ∧ ((SqL K H p ys ∧ ∀ l, H l = none → Q (V.ref l) (upd H l (HO.tup ys))) ∨ SqT K H p ys ∧ Q (V.ref p) H)) fTuple := by
  intro G H xs ds k rx Qd Q h q
  unfold fTuple at h
  split at h
  · cases rx with
    | cons a b =>
      cases b
      cases a with
      | @lst p us _ hp hA =>
        refine ⟨p, us, rfl, .inl ⟨SqL.of (k.ex _ _ hp), fun t ht => ?_⟩⟩
        have s4 := Step.new (o := .tup us) k ht
        exact q _ _ _ _ s4 (.tup (SqT.of upd_same) (hA.mono s4.gg)) h
  · cases rx with
    | cons a b =>
      cases b
      cases a with
      | @tup p us _ hp hA => exact ⟨p, us, rfl, .inr ⟨k.ex.sqt hp, q _ _ G H (.refl k) (.tup hp hA) h⟩⟩
  · exact h.elim
def fList : AC := fun ds Q => match ds with
  | [.list xs] => Q (.list xs)
  | [.tuple xs] => Q (.list xs)
  | _ => False
theorem ac_list : AbsC c (fun xs H Q => ∃ p ys, xs = [V.ref p] ∧ (SqL K H p ys ∨ SqT K H p ys) ∧ ∀ l, H l = none → Q (V.ref l) (upd H l (HO.lst ys))) fList := by
  intro G H xs ds k rx Qd Q h q
  unfold fList at h
  split at h
  · cases rx with
    | cons a b =>
      cases b
      cases a with
      | @lst p us _ hp hA =>
        refine ⟨p, us, rfl, .inl (SqL.of (k.ex _ _ hp)), fun t ht => ?_⟩
        have s4 := Step.new (o := .lst us) k ht
        exact q _ _ _ _ s4 (.lst upd_same (hA.mono s4.gg)) h
  · cases rx with
    | cons a b =>
      cases b
      cases a with
      | @tup p us _ hp hA =>
        refine ⟨p, us, rfl, .inr (k.ex.sqt hp), fun t ht => ?_⟩
        have s4 := Step.new (o := .lst us) k ht
        exact q _ _ _ _ s4 (.lst upd_same (hA.mono s4.gg)) h
  · exact h.elim
def fAll : AC := fun ds Q => match ds with
  | [.list xs] => ∃ bs : List Bool, xs = bs.map PyData.bool ∧ Q (.bool (bs.all id))
  | _ => False
theorem ac_all : AbsC c (rAll K) fAll := by
  intro G H xs ds k rx Qd Q h q
  unfold fAll at h
  split at h
  · obtain ⟨bs, rfl, h⟩ := h
    cases rx with
    | cons a b =>
      cases b
      cases a with
      | @lst p us _ hp hA =>
        have e := hA.bools
        subst e
        exact ⟨p, bs, rfl, SqL.of (k.ex _ _ hp), q _ _ G H (.refl k) (.bl _) h⟩
  · exact h.elim
def fInt : AC := fun ds Q => match ds with
  | [.int i] => Q (.int i)
  | [.bool b] => Q (.int (if b = true then 1 else 0))
  | _ => False
theorem ac_int : AbsC c (fun xs H Q => (∃ i, xs = [V.int i] ∧ Q (V.int i) H) ∨ ∃ k, xs = [V.bl k] ∧ Q (V.int (if k = true then 1 else 0)) H) fInt := by
  intro G H xs ds k rx Qd Q h q
  unfold fInt at h
  split at h
  · cases rx with
    | cons a b => cases b; cases a; exact .inl ⟨_, rfl, q _ _ G H (.refl k) (.int _) h⟩
  · cases rx with
    | cons a b => cases b; cases a; exact .inr ⟨_, rfl, q _ _ G H (.refl k) (.int _) h⟩
  · exact h.elim
def fMax2 : AC := fun ds Q => match ds with | [.int i, .int j] => Q (.int (if j > i then j else i)) | _ => False
def fMin2 : AC := fun ds Q => match ds with | [.int i, .int j] => Q (.int (if j < i then j else i)) | _ => False
theorem ac_max2 : AbsC c (fun xs H Q => ∃ i j, xs = [V.int i, V.int j] ∧ Q (V.int (if j > i then j else i)) H) fMax2 := by
  intro G H xs ds k rx Qd Q h q
  unfold fMax2 at h
  split at h
  · cases rx with
    | cons a b =>
      cases a
      cases b with
      | cons a b => cases a; cases b; exact ⟨_, _, rfl, q _ _ G H (.refl k) (.int _) h⟩
  · exact h.elim
theorem ac_min2 : AbsC c (fun xs H Q => ∃ i j, xs = [V.int i, V.int j] ∧ Q (V.int (if j < i then j else i)) H) fMin2 := by
  intro G H xs ds k rx Qd Q h q
  unfold fMin2 at h
  split at h
  · cases rx with
    | cons a b =>
      cases a
      cases b with
      | cons a b => cases a; cases b; exact ⟨_, _, rfl, q _ _ G H (.refl k) (.int _) h⟩
  · exact h.elim
/-! ==, != -/
def scalD : D → D → Bool
  | .none, .none => true | .none, .int _ => true | .int _, .none => true | .none, .bool _ => true | .bool _, .none => true | .none, .str _ => true | .str _, .none => true
  | .int _, .int _ => true | .bool _, .bool _ => true | .str _, .str _ => true
  | .int _, .str _ => true | .str _, .int _ => true | .bool _, .str _ => true | .str _, .bool _ => true
  | _, _ => false
def eqS : D → D → Bool
  | .none, .none => true
  | .int i, .int j => decide (i = j)
  | .bool i, .bool j => decide (i = j)
  | .str i, .str j => decide (i = j)
  | _, _ => false
def fEq : A2 := fun x y Q => (scalD x y = true ∧ Q (.bool (eqS x y))) ∨ (SeqAt.shaped x = true ∧ SeqAt.shaped y = true ∧ Q (.bool (PyData.eqv x y)))
def fNe : A2 := fun x y Q => (scalD x y = true ∧ Q (.bool (!eqS x y))) ∨ (SeqAt.shaped x = true ∧ SeqAt.shaped y = true ∧ Q (.bool (!PyData.eqv x y)))
theorem scal_of {G : Hp} {x y : V} {dx dy : D} (rx : Rv K G x dx) (ry : Rv K G y dy) (h : scalD dx dy = true) : scal x y = true ∧ decide (x = y) = eqS dx dy := by
  cases rx <;> cases ry <;> first | (exact ⟨rfl, rfl⟩) | (refine ⟨rfl, ?_⟩; simp [eqS]) | (simp [scalD] at h)
def rEqP (K : PySem.W.Frag) : R2 := fun x y H Q => rEq x y H Q ∨ rEqD K x y H Q
def rNeP (K : PySem.W.Frag) : R2 := fun x y H Q => rNe x y H Q ∨ rNeD K x y H Q
theorem op_eqP {X : Cx} (hu : X.A.units + 64 < cLine) : OpR X (compareOp .Eq) (rEqP X.K) := fun pins s σ H x y v u Q I rx ry h => by
  rcases h with h | h
  · exact op_eq pins s σ H x y v u Q I rx ry h
  · exact op_eqD hu pins s σ H x y v u Q I rx ry h
theorem op_neP {X : Cx} (hu : X.A.units + 64 < cLine) : OpR X (compareOp .NotEq) (rNeP X.K) := fun pins s σ H x y v u Q I rx ry h => by
  rcases h with h | h
  · exact op_ne pins s σ H x y v u Q I rx ry h
  · exact op_neD hu pins s σ H x y v u Q I rx ry h
theorem ar_eq : AbsR2 c (rEqP K) fEq := by
  intro G H x y dx dy k rx ry Qd Q h q
  rcases h with ⟨hs, h⟩ | ⟨h1, h2, h⟩
  · obtain ⟨e1, e2⟩ := scal_of rx ry hs
    exact .inl ⟨e1, q _ _ G H (.refl k) (.bl _) (by rw [e2]; exact h)⟩
  · exact .inr ⟨dx, dy, (rx.mono k.ex).dp (SeqAt.canLay_of_shaped h1), (ry.mono k.ex).dp (SeqAt.canLay_of_shaped h2), h1, h2, q _ _ G H (.refl k) (.bl _) h⟩
theorem ar_ne : AbsR2 c (rNeP K) fNe := by
  intro G H x y dx dy k rx ry Qd Q h q
  rcases h with ⟨hs, h⟩ | ⟨h1, h2, h⟩
  · obtain ⟨e1, e2⟩ := scal_of rx ry hs
    exact .inl ⟨e1, q _ _ G H (.refl k) (.bl _) (by rw [e2]; exact h)⟩
  · exact .inr ⟨dx, dy, (rx.mono k.ex).dp (SeqAt.canLay_of_shaped h1), (ry.mono k.ex).dp (SeqAt.canLay_of_shaped h2), h1, h2, q _ _ G H (.refl k) (.bl _) h⟩
/-! a < b < c -/
def aChain (f g : A2) (a b d : AE) : AE := fun ε Q => a ε fun x => b ε fun y => f x y fun z => match z with | .bool k => (if k = true then d ε fun w => g y w Q else Q (.bool false)) | _ => False
theorem ae_chain {r r' : R2} {f g : A2} {ta tb tc : TE} {a b d : AE} (ho : AbsR2 c r f) (ho' : AbsR2 c r' g) (ha : AbsE c ta a) (hb : AbsE c tb b) (hd : AbsE c tc d) : AbsE c (tChain r r' ta tb tc) (aChain f g a b d) := by
  intro ε σ G H rl Qd Q h q
  refine ha ε σ G H rl _ _ h fun x dx G1 H1 s1 r1 h1 => ?_
  refine hb ε σ G1 H1 (rl.step s1) _ _ h1 fun y dy G2 H2 s2 r2 h2 => ?_
  have rl2 := (rl.step s1).step s2
  refine ho G2 H2 x y dx dy rl2.ok (r1.mono s2.gg) r2 _ _ h2 fun z dz G3 H3 s3 r3 h3 => ?_
  cases r3 with
  | bl k =>
    refine ⟨k, rfl, ?_⟩
    cases k with
    | false => exact iteF (q _ _ G3 H3 ((s1.trans s2).trans s3) (.bl false) (by simpa using h3))
    | true =>
      refine iteT ?_
      have h3' : d ε fun w => g dy w Qd := by simpa using h3
      refine hd ε σ G3 H3 (rl2.step s3) _ _ h3' fun w dw G4 H4 s4 r4 h4 => ?_
      exact ho' G4 H4 y w dy dw ((rl2.step s3).step s4).ok (r2.mono (s3.trans s4).gg) r4 _ _ h4 fun v d G5 H5 s5 r5 h5 => q v d G5 H5 ((((s1.trans s2).trans s3).trans s4).trans s5) r5 h5
  | _ => exact h3.elim
/-! truth -/
def truD : D → Bool
  | .none => false
  | .bool b => b
  | .int i => i != 0
  | .str y => (y.length : Int) != 0
  | .list xs => !xs.isEmpty
  | .tuple xs => !xs.isEmpty
  | .dict _ => false
def truOk : D → Prop
  | .str y => y.length ≤ sizeLine
  | .dict _ => False
  | _ => True
theorem tru_of {G H : Hp} {x : V} {d : D} (e : Ex G H) (r : Rv K G x d) (h : truOk d) : TruV K x H (truD d) := by
  cases r with
  | non => rfl
  | bl b => rfl
  | int i => rfl
  | str y => exact ⟨h, rfl⟩
  | @lst p xs ds hp hA =>
    refine .inl ⟨xs, SqL.of (e _ _ hp), ?_⟩
    cases hA <;> rfl
  | @tup p xs ds hp hA =>
    refine .inr (.inl ⟨xs, e.sqt hp, ?_⟩)
    cases hA <;> rfl
  | dic => exact h.elim
def aOrT (a b : AE) : AE := fun ε Q => a ε fun d => truOk d ∧ if truD d = true then Q d else b ε Q
theorem ae_orT {ta tb : TE} {a b : AE} (ha : AbsE c ta a) (hb : AbsE c tb b) : AbsE c (tOrT K ta tb) (aOrT a b) := by
  intro ε σ G H rl Qd Q h q
  refine ha ε σ G H rl _ _ h fun x dx G1 H1 s1 r1 h1 => ⟨truD dx, tru_of (rl.step s1).ok.ex r1 h1.1, ?_⟩
  have h2 := h1.2
  cases e : truD dx with
  | true => rw [e, if_pos rfl] at h2; exact iteT (q _ _ G1 H1 s1 r1 h2)
  | false => rw [e, if_neg Bool.false_ne_true] at h2; exact iteF (hb ε σ G1 H1 (rl.step s1) _ _ h2 fun v d G2 H2 s2 r2 h2 => q v d G2 H2 (s1.trans s2) r2 h2)
def aTru (a : AE) : AT := fun ε Q => a ε fun d => truOk d ∧ Q (truD d)
theorem at_tru {ta : TE} {a : AE} (ha : AbsE c ta a) : AbsT c (fun σ H Q => ta σ H fun x H' => ∃ k, TruV K x H' k ∧ Q k H') (aTru a) := by
  intro ε σ G H rl Qd Q h q
  exact ha ε σ G H rl _ _ h fun x dx G1 H1 s1 r1 h1 => ⟨truD dx, tru_of (rl.step s1).ok.ex r1 h1.1, q _ G1 H1 s1 h1.2⟩
/-! is None -/
def isN : D → Bool | .none => true | _ => false
def fIsN : A2 := fun x y Q => match y with | .none => Q (.bool (isN x)) | _ => False
def fNotN : A2 := fun x y Q => match y with | .none => Q (.bool (!isN x)) | _ => False
theorem isN_of {G : Hp} {x : V} {d : D} (r : Rv K G x d) : decide (x = .non) = isN d := by cases r <;> first | rfl | exact decide_eq_false (fun z => nomatch z)
theorem ar_isN : AbsR2 c (fun x y H Q => y = V.non ∧ Q (V.bl (decide (x = V.non))) H) fIsN := by
  intro G H x y dx dy k rx ry Qd Q h q
  cases ry with
  | non => exact ⟨rfl, by rw [isN_of rx]; exact q _ _ G H (.refl k) (.bl _) h⟩
  | _ => exact h.elim
theorem ar_notN : AbsR2 c (fun x y H Q => y = V.non ∧ Q (V.bl (!decide (x = V.non))) H) fNotN := by
  intro G H x y dx dy k rx ry Qd Q h q
  cases ry with
  | non => exact ⟨rfl, by rw [isN_of rx]; exact q _ _ G H (.refl k) (.bl _) h⟩
  | _ => exact h.elim
/-! isinstance(x, T), T a built-in class -/
def tyD : D → String
  | .none => "NoneType" | .bool _ => "bool" | .int _ => "int" | .str _ => "str" | .list _ => "list" | .tuple _ => "tuple" | .dict _ => "dict"
theorem ty_of {G H : Hp} {x : V} {d : D} (e : Ex G H) (r : Rv K G x d) : TyX K H x (.type (tyD d)) := by
  cases r with
  | non => exact .base .non
  | bl b => exact .base (.bl b)
  | int i => exact .base (.int i)
  | str y => exact .base (.str y)
  | @lst p xs ds hp hA => exact .base (.lst (e _ _ hp))
  | @tup p xs ds hp hA =>
    rcases hp with (h | ⟨o, h⟩) | ⟨o, its, n, h1, h2, _⟩
    · exact .base (.tup (e _ _ h))
    · exact .fTuple (e _ _ h)
    · exact .kTuple h1 h2
  | dic hp => exact .base (.dK (e _ _ hp))
def aIsi (T : String) (a : AE) : AE := fun ε Q => a ε fun d => ∃ b, kitB (tyD d) T = some b ∧ Q (.bool b)
theorem ae_isi {T : String} {ta : TE} {a : AE} (ha : AbsE c ta a) : AbsE c (tCB (rIsi K) (tCons ta (tCons (tC (.ty T)) tNil))) (aIsi T a) := by
  intro ε σ G H rl Qd Q h q
  refine ha ε σ G H rl _ _ h fun x dx G1 H1 s1 r1 h1 => ?_
  obtain ⟨b, hb, h1⟩ := h1
  exact ⟨x, .ty T, _, _, b, rfl, .ty T, ty_of (rl.step s1).ok.ex r1, kit_ty hb, q _ _ G1 H1 s1 (.bl b) h1⟩
end
/-! ### methods of texts -/
section
variable {K : PySem.W.Frag} {c : Ctx K} {to te : TE} {a b : AE}
abbrev AM1 := Str → D → (D → Prop) → Prop
abbrev AM0 := Str → (D → Prop) → Prop
def AbsM1 (c : Ctx K) (r : V → List V → Hp → VK → Prop) (f : AM1) : Prop := ∀ G H u y dy, Ok c G H → Rv K G y dy → ∀ (Qd : D → Prop) (Q : VK), f u dy Qd → (∀ v d G' H', Step c G H G' H' → Rv K G' v d → Qd d → Q v H') → r (.str u) [y] H Q
def AbsM0 (c : Ctx K) (r : V → List V → Hp → VK → Prop) (f : AM0) : Prop := ∀ G H u, Ok c G H → ∀ (Qd : D → Prop) (Q : VK), f u Qd → (∀ v d G' H', Step c G H G' H' → Rv K G' v d → Qd d → Q v H') → r (.str u) [] H Q
def aM1 (f : AM1) (a b : AE) : AE := fun ε Q => a ε fun x => match x with | .str u => b ε fun y => f u y Q | _ => False
def aM0 (f : AM0) (a : AE) : AE := fun ε Q => a ε fun x => match x with | .str u => f u Q | _ => False
theorem ae_m1 {r : V → List V → Hp → VK → Prop} {f : AM1} (ho : AbsM1 c r f) (ha : AbsE c to a) (hb : AbsE c te b) : AbsE c (tM1 r to te) (aM1 f a b) := by
  intro ε σ G H rl Qd Q h q
  refine ha ε σ G H rl _ _ h fun x dx G1 H1 s1 r1 h1 => ?_
  cases r1 with
  | str u =>
    refine ⟨⟨u, rfl⟩, ?_⟩
    refine hb ε σ G1 H1 (rl.step s1) _ _ h1 fun y dy G2 H2 s2 r2 h2 => ?_
    exact ho G2 H2 u y dy ((rl.step s1).step s2).ok r2 _ _ h2 fun v d G3 H3 s3 r3 h3 => q v d G3 H3 ((s1.trans s2).trans s3) r3 h3
  | _ => exact h1.elim
theorem ae_m0 {r : V → List V → Hp → VK → Prop} {f : AM0} (ho : AbsM0 c r f) (ha : AbsE c to a) : AbsE c (tM0 r to) (aM0 f a) := by
  intro ε σ G H rl Qd Q h q
  refine ha ε σ G H rl _ _ h fun x dx G1 H1 s1 r1 h1 => ?_
  cases r1 with
  | str u => exact ⟨⟨u, rfl⟩, ho G1 H1 u (rl.step s1).ok _ _ h1 fun v d G3 H3 s3 r3 h3 => q v d G3 H3 (s1.trans s3) r3 h3⟩
  | _ => exact h1.elim
def fStrip : AM1 := fun u y Q => match y with | .str v => u.length ≤ sizeLine ∧ Q (.str (Txt.stripChars u v)) | _ => False
theorem am_strip : AbsM1 c (fun x xs H Q => ∃ a b, x = V.str a ∧ xs = [V.str b] ∧ a.length ≤ sizeLine ∧ Q (V.str (Txt.stripChars a b)) H) fStrip := by
  intro G H u y dy k ry Qd Q h q
  cases ry with
  | str v => exact ⟨u, v, rfl, rfl, h.1, q _ _ G H (.refl k) (.str _) h.2⟩
  | _ => exact h.elim
def fJoin : AM1 := fun u y Q => ∃ ys : List Str, (y = .list (ys.map PyData.str) ∨ y = .tuple (ys.map PyData.str)) ∧ (ys.map (·.length)).sum + ys.length * u.length ≤ 16777216 ∧ Q (.str (Txt.join u ys))
theorem am_join : AbsM1 c (fun x xs H Q => ∃ a p ys, x = V.str a ∧ xs = [V.ref p] ∧ (SqL K H p (List.map V.str ys) ∨ SqT K H p (List.map V.str ys)) ∧ (List.map (fun x => x.length) ys).sum + ys.length * a.length ≤ 16777216 ∧ Q (V.str (Txt.join a ys)) H) fJoin := by
  intro G H u y dy k ry Qd Q h q
  obtain ⟨ys, h1, h2, h3⟩ := h
  rcases h1 with rfl | rfl
  · cases ry with
    | @lst p us _ hp hA =>
      have e := hA.strs
      subst e
      exact ⟨u, p, ys, rfl, rfl, .inl (SqL.of (k.ex _ _ hp)), h2, q _ _ G H (.refl k) (.str _) h3⟩
  · cases ry with
    | @tup p us _ hp hA =>
      have e := hA.strs
      subst e
      exact ⟨u, p, ys, rfl, rfl, .inr (k.ex.sqt hp), h2, q _ _ G H (.refl k) (.str _) h3⟩
end
/-! ### a def's promise, by data -/
abbrev Ds := List D → (D → Prop) → Prop
/-- a def that changes nothing -/
def spP (K : PySem.W.Frag) (f : Ds) : Sp := fun vs H Q _ => ∃ G ds, Ex G H ∧ RvA K G vs ds ∧ ∃ Qd : D → Prop, f ds Qd ∧ ∀ v d G' H', PStep G H G' H' → Rv K G' v d → Qd d → Q v H'
/-- a def that draws from the tape, its first argument -/
def spT (K : PySem.W.Frag) (f : Ds) : Sp := fun vs H Q _ => ∃ t l ns G us ds, vs = .ref t :: us ∧ Ex G H ∧ G t = none ∧ G l = none ∧ TapeAt t l ns H ∧ RvA K G us ds ∧ ∃ Qd : D → Prop, f ds Qd ∧ ∀ v d G' H', TStep t l ns G H G' H' → Rv K G' v d → Qd d → Q v H'
section
variable {K : PySem.W.Frag} {c : Ctx K}
theorem ae_callP {f : Ds} {dvs : List V} {dds : List D} {E : XK} {tr : TA} {ar : AA} (hd : ∀ G, RvA K G dvs dds) (hr : AbsA c tr ar) : AbsE c (tCall (spP K f) dvs E tr) (aCall (fun ds Q => f (ds ++ dds) Q) ar) := by
  intro ε σ G H rl Qd Q h q
  refine hr ε σ G H rl _ _ h fun vs ds G1 H1 s1 r1 h1 => ?_
  have k := (rl.step s1).ok
  exact ⟨G1, ds ++ dds, k.ex, r1.append (hd G1), Qd, h1, fun v d G' H' s r2 h2 => q v d G' H' (s1.trans (s.to k)) r2 h2⟩
theorem ae_callP0 {f : Ds} {E : XK} {tr : TA} {ar : AA} (hr : AbsA c tr ar) : AbsE c (tCall (spP K f) [] E tr) (aCall f ar) := by
  intro ε σ G H rl Qd Q h q
  refine hr ε σ G H rl _ _ h fun vs ds G1 H1 s1 r1 h1 => ?_
  have k := (rl.step s1).ok
  rw [List.append_nil]
  exact ⟨G1, ds, k.ex, r1, Qd, h1, fun v d G' H' s r2 h2 => q v d G' H' (s1.trans (s.to k)) r2 h2⟩
def aCallT (f : Ds) (i : Nat) (r : AA) : AE := fun ε Q => match ε[i]? with | some .tape => r ε fun xs => f xs Q | _ => False
theorem ae_callT {f : Ds} {E : XK} {i : Nat} {tr : TA} {ar : AA} (hr : AbsA c tr ar) : AbsE c (tCall (spT K f) [] E (tCons (tVar i) tr)) (aCallT f i ar) := by
  intro ε σ G H rl Qd Q h q
  unfold aCallT at h
  split at h
  · rename_i hi
    obtain ⟨o, ho, t, l, ns, htp, rfl⟩ := rl.cell i _ hi
    refine ⟨.ref t, ho, ?_⟩
    refine hr ε σ G H rl _ _ h fun vs ds G1 H1 s1 r1 h1 => ?_
    have k := (rl.step s1).ok
    obtain ⟨m1, m2, h2, _⟩ := c.tpIn t l ns htp
    show spT K f ((V.ref t :: vs) ++ []) H1 Q E
    rw [List.append_nil]
    exact ⟨t, l, ns, G1, vs, ds, rfl, k.ex, k.gm t m1, k.gm l m2, h2 H1 k.r, r1, Qd, h1, fun v d G' H' s r2 h2 => q v d G' H' (s1.trans (s.to htp k)) r2 h2⟩
  · exact h.elim
def Ctx.pure (K : PySem.W.Frag) {G H : Hp} (e : Ex G H) : Ctx K where
  M := fun _ => False
  R := fun _ => True
  tp := none
  G0 := G
  H0 := H
  dom := fun _ _ _ h => h.elim
  loc := fun _ _ _ _ => trivial
  ex0 := e
  gm0 := fun _ h => h.elim
  r0 := trivial
  tpIn := fun _ _ _ h => nomatch h
def Ctx.tape (K : PySem.W.Frag) {G H : Hp} {t l : Addr} {ns : List Int} (e : Ex G H) (gt : G t = none) (gl : G l = none) (T : TapeAt t l ns H) : Ctx K where
  M := fun b => b = t ∨ b = l
  R := TapeAt t l ns
  tp := some (t, l, ns)
  G0 := G
  H0 := H
  dom := fun H b R m => by
    obtain ⟨ne, hl, i, j, h0, h1, ht⟩ := R
    rcases m with rfl | rfl
    · rw [ht]; exact fun z => nomatch z
    · rw [hl]; exact fun z => nomatch z
  loc := fun H H' R e => by
    obtain ⟨ne, hl, i, j, h0, h1, ht⟩ := R
    exact ⟨ne, by rw [e l (.inr rfl)]; exact hl, i, j, h0, h1, by rw [e t (.inl rfl)]; exact ht⟩
  ex0 := e
  gm0 := fun b m => by rcases m with rfl | rfl <;> assumption
  r0 := T
  tpIn := fun t' l' ns' e => by
    cases e
    exact ⟨.inl rfl, .inr rfl, fun _ h => h, fun _ _ _ h _ => h⟩
def startE (n : Nat) (cs : List Cell) : En := cs ++ List.replicate (n - cs.length) .un
theorem rel_start {c : Ctx K} {N : List Str} {vs : List V} {cs : List Cell} (hl : vs.length = cs.length) (h : ∀ (i : Nat) (x : Cell), cs[i]? = some x → ∃ v, vs[i]? = some v ∧ CellOk c c.G0 c.H0 (some v) x ∧ x.isOwn = false) : Rel c (startE N.length cs) (L2.start N vs) c.G0 c.H0 := by
  have own : ∀ (i : Nat) (x : Cell), (startE N.length cs)[i]? = some x → x.isOwn = false := fun i x e => by
    unfold startE at e
    by_cases hi : i < cs.length
    · rw [List.getElem?_append_left hi] at e
      obtain ⟨_, _, _, h3⟩ := h i x e
      exact h3
    · rw [List.getElem?_append_right (by omega), List.getElem?_replicate] at e
      split at e
      · cases e; rfl
      · cases e
  refine ⟨.refl (.zero c), ?_, fun i x e => ?_, fun i j x y p ex ey ox oy _ _ => ?_⟩
  · unfold startE L2.start
    rw [List.length_append, List.length_append, List.length_map, List.length_replicate, List.length_replicate, hl]
  · unfold startE at e
    unfold L2.start
    by_cases hi : i < cs.length
    · rw [List.getElem?_append_left hi] at e
      obtain ⟨v, h1, h2, _⟩ := h i x e
      exact ⟨some v, by rw [List.getElem?_append_left (by rw [List.length_map, hl]; exact hi), List.getElem?_map, h1]; rfl, h2⟩
    · rw [List.getElem?_append_right (by omega), List.getElem?_replicate] at e
      rw [List.getElem?_append_right (by rw [List.length_map, hl]; omega), List.length_map, hl, List.getElem?_replicate]
      split at e
      · cases e
        rename_i hlt
        exact ⟨none, by rw [if_pos hlt], trivial⟩
      · cases e
  · rw [own i x ex] at ox; cases ox
theorem body_pure {N : List Str} {vs : List V} {H : Hp} {Q : VK} {E : XK} {f : Ds} {t : TS} {a : AS} (hA : ∀ c : Ctx K, AbsS c t a) (hd : ∀ ds Qd, f ds Qd → a { nx := fun _ => Qd .none, rt := Qd } (startE N.length (ds.map Cell.d))) (h : spP K f vs H Q E) : t { nx := fun _ H' => Q .non H', rt := Q } (L2.start N vs) H := by
  obtain ⟨G, ds, e, r, Qd, hf, q⟩ := h
  have key : ∀ {G' H'}, Step (Ctx.pure K e) G H G' H' → PStep G H G' H' := fun s => ⟨s.gg, s.gh, fun b o h => s.hh b o (fun z => z) h, s.fr⟩
  refine hA (Ctx.pure K e) _ _ G H (rel_start (c := Ctx.pure K e) (by rw [r.length, List.length_map]) fun i x ex => ?_) _ _ (hd ds Qd hf) ⟨fun ε σ G' H' rl _ z => q _ _ G' H' (key rl.his) .non z, fun v d G' H' s rv z => q v d G' H' (key s) rv z, fun _ _ _ _ _ _ z => z.elim, fun _ _ _ _ _ _ z => z.elim⟩
  rw [List.getElem?_map] at ex
  cases hd' : ds[i]? with
  | none => rw [hd'] at ex; cases ex
  | some d =>
    rw [hd'] at ex
    cases ex
    obtain ⟨v, h1, h2⟩ := r.get hd'
    exact ⟨v, h1, ⟨v, rfl, h2⟩, rfl⟩
theorem body_tape {N : List Str} {vs : List V} {H : Hp} {Q : VK} {E : XK} {f : Ds} {t : TS} {a : AS} (hA : ∀ c : Ctx K, AbsS c t a) (hd : ∀ ds Qd, f ds Qd → a { nx := fun _ => Qd .none, rt := Qd } (startE N.length (.tape :: ds.map Cell.d))) (h : spT K f vs H Q E) : t { nx := fun _ H' => Q .non H', rt := Q } (L2.start N vs) H := by
  obtain ⟨tt, l, ns, G, us, ds, rfl, e, gt, gl, T, r, Qd, hf, q⟩ := h
  have key : ∀ {G' H'}, Step (Ctx.tape K e gt gl T) G H G' H' → TStep tt l ns G H G' H' := fun {G' H'} s => ⟨s.gg, s.gh, fun b o n h => by
    by_cases m : b = l
    · subst m
      obtain ⟨ne, hl, _⟩ := s.r
      obtain ⟨_, hl0, _⟩ := T
      rw [hl0] at h; cases h; exact hl
    · exact s.hh b o (fun z => z.elim n m) h, s.fr, s.r⟩
  refine hA (Ctx.tape K e gt gl T) _ _ G H (rel_start (c := Ctx.tape K e gt gl T) (by rw [List.length_cons, r.length, List.length_cons, List.length_map]) fun i x ex => ?_) _ _ (hd ds Qd hf) ⟨fun ε σ G' H' rl _ z => q _ _ G' H' (key rl.his) .non z, fun v d G' H' s rv z => q v d G' H' (key s) rv z, fun _ _ _ _ _ _ z => z.elim, fun _ _ _ _ _ _ z => z.elim⟩
  cases i with
  | zero => cases ex; exact ⟨_, rfl, ⟨tt, l, ns, rfl, rfl⟩, rfl⟩
  | succ i =>
    rw [List.getElem?_cons_succ, List.getElem?_map] at ex
    cases hd' : ds[i]? with
    | none => rw [hd'] at ex; cases ex
    | some d =>
      rw [hd'] at ex
      cases ex
      obtain ⟨v, h1, h2⟩ := r.get hd'
      exact ⟨v, by rw [List.getElem?_cons_succ]; exact h1, ⟨v, rfl, h2⟩, rfl⟩
theorem spP_len {n : Nat} {f : Ds} (h : ∀ ds Qd, f ds Qd → ds.length = n) {vs : List V} {H : Hp} {Q : VK} {E : XK} (x : spP K f vs H Q E) : vs.length = n := by
  obtain ⟨G, ds, _, r, Qd, hf, _⟩ := x
  rw [r.length]; exact h ds Qd hf
theorem spT_len {n : Nat} {f : Ds} (h : ∀ ds Qd, f ds Qd → ds.length + 1 = n) {vs : List V} {H : Hp} {Q : VK} {E : XK} (x : spT K f vs H Q E) : vs.length = n := by
  obtain ⟨t, l, ns, G, us, ds, rfl, _, _, _, _, r, Qd, hf, _⟩ := x
  rw [List.length_cons, r.length]; exact h ds Qd hf
end
end Fc

namespace Fc
open PySem L2
/-! ### rules with the written part named, for use within comprehensions -/
section
variable (K : PySem.W.Frag) {X : Cx}
theorem kAdd (h : X.K = K := by rfl) : OpR X (binaryOp .Add) (rAddP K) := h ▸ op_addP
theorem kIx (h : X.K = K := by rfl) : IxR X (rIx K) := h ▸ ix_seq
theorem kIxL (h : X.K = K := by rfl) : IxR X (rIxL K) := h ▸ ix_list
theorem kSl (h : X.K = K := by rfl) : SlR X (rSlP K) := h ▸ sl_P
theorem kEq (hu : X.A.units + 64 < cLine) (h : X.K = K := by rfl) : OpR X (compareOp .Eq) (rEqP K) := h ▸ op_eqP hu
theorem kNe (hu : X.A.units + 64 < cLine) (h : X.K = K := by rfl) : OpR X (compareOp .NotEq) (rNeP K) := h ▸ op_neP hu
theorem kLen (h : X.K = K := by rfl) : CallR X (.builtin "len") (fun xs H Q => ∃ x n, xs = [x] ∧ LenV K x H n ∧ Q (V.int ↑n) H) := h ▸ call_len
theorem kTuple (h : X.K = K := by rfl) : CallR X (.type "tuple") (fun xs H Q => ∃ p ys, xs = [V.ref p] ∧ ((SqL K H p ys ∧ ∀ l, H l = none → Q (V.ref l) (upd H l (HO.tup ys))) ∨ SqT K H p ys ∧ Q (V.ref p) H)) := h ▸ call_tuple_of
theorem kList (h : X.K = K := by rfl) : CallR X (.type "list") (fun xs H Q => ∃ p ys, xs = [V.ref p] ∧ (SqL K H p ys ∨ SqT K H p ys) ∧ ∀ l, H l = none → Q (V.ref l) (upd H l (HO.lst ys))) := h ▸ call_list_of
theorem kAll (h : X.K = K := by rfl) (hc : X.calm = true := by rfl) : CallR X (.builtin "all") (rAll K) := h ▸ cr_all hc
theorem kIsi (h : X.K = K := by rfl) : CallR X (.builtin "isinstance") (rIsi K) := h ▸ call_isi
theorem kIsiT (h : X.K = K := by rfl) : CallR X (.builtin "isinstance") (rIsiT K) := h ▸ call_isiT
theorem kJoin (h : X.K = K := by rfl) : MtR X "str.join" (fun x xs H Q => ∃ a p, ∃ ys : List Str, x = V.str a ∧ xs = [V.ref p] ∧ (SqL K H p (List.map V.str ys) ∨ SqT K H p (List.map V.str ys)) ∧ (List.map (fun x => x.length) ys).sum + ys.length * a.length ≤ 16777216 ∧ Q (V.str (Txt.join a ys)) H) := h ▸ mt_join
theorem kOrT {a b : Expr} {ta tb : TE} {rest : List Expr} {pos : Pos} (ha : PE X a ta) (hb : PE X (.BoolOp .Or (b :: rest) pos) tb) (h : X.K = K := by rfl) : PE X (.BoolOp .Or (a :: b :: rest) pos) (tOrT K ta tb) := h ▸ pe_orT ha hb
theorem kAndT {a b : Expr} {ta tb : TE} {rest : List Expr} {pos : Pos} (ha : PE X a ta) (hb : PE X (.BoolOp .And (b :: rest) pos) tb) (h : X.K = K := by rfl) : PE X (.BoolOp .And (a :: b :: rest) pos) (tAndT K ta tb) := h ▸ pe_andT ha hb
theorem kRevL {e : Expr} {te : TE} {k : Nat} {p1 p2 p3 pos : Pos} (he : PE X e te) (h : X.K = K := by rfl) : PE X (.Subscript e (.Slice none none (some (.UnaryOp .USub (.Constant (.int 1) k p1) p2)) p3) pos) (tRevL K te) := h ▸ pe_revL he
theorem kIn (h : X.K = K := by rfl) : OpR X (compareOp .In) (rIn K false) := h ▸ op_in_seq
theorem kNotIn (h : X.K = K := by rfl) : OpR X (compareOp .NotIn) (rIn K true) := h ▸ op_notIn_seq
theorem kTru {a : Expr} {ta : TE} (ha : PE X a ta) (hs : ∀ whole : Sem Value, PySem.isTrue a X.env whole = (do let v ← whole; standAt a.pos; holding [v] (truthy v)) := by intro _; rfl) (h : X.K = K := by rfl) : PT X a (fun σ H Q => ta σ H fun x H' => ∃ k, TruV K x H' k ∧ Q k H') := h ▸ pt_truth ha hs
end
end Fc

namespace Fc
open PySem L2
/-! ### a def of the text -/
structure Df (K : PySem.W.Frag) (mg : Str → Option Value) (x : Str) (st : Stmt) (ps : List Str) (f : Addr) (fd : FuncData) : Prop where
  F : ∃ dvs, FunD K x x (defArgs st) (defBody st) (defScope st) dvs [] f fd
  kp : PySem.W.keepIn K (.ref f) = true
  b : Binds K fd ps []
  m : mg x = some (.ref f)
theorem Df.ok {P : Program} {w : World} {K : PySem.W.Frag} {mg : Str → Option Value} {base : Heap} {x : Str} {st : Stmt} {f : Addr} {fd : FuncData} {N ps : List Str} {k : Nat} {sp : Sp} (d : Df K mg x st ps f fd) (S : FnScope N ps (defScope st)) (len : ∀ vs H Q E, sp vs H Q E → vs.length = ps.length)
    (body : ∀ (cdv : Value) (A : Around) (outer : List Env) (s : Shared) (H : Hp) (vs : List V) (Q : VK) (E : XK), Room k (A.deeper (PyProof.Rows.envOfC x (defScope st) s.heap.objs.size f cdv)) → sp vs H Q E →
      ∃ t, PSs (cxOf CX0 P w K mg base N x (defScope st) f cdv A outer s H E).nox (defBody st) t ∧ t { nx := fun _ H' => Q .non H', rt := Q } (L2.start N vs) H) : FnOk P w K mg base CX0 (k + 1) f fd ps sp := by
  obtain ⟨dvs, F⟩ := d.F
  refine F.ok S len fun cdv A outer s H vs Q E hr h => ?_
  obtain ⟨t, h1, h2⟩ := body cdv A outer s H vs Q E hr h
  exact ⟨t, h1.nox, h2⟩
theorem df_mk {K : PySem.W.Frag} {h : Heap} {mg : Str → Option Value} {x : Str} {st : Stmt} {ps : List Str} {f : Addr} {oc : Value} {od an : Option Addr} {osl : Array (Option Value)} {kV doc pm cdv ct : Value} (X : K.In h) (G : h.Ns mainGlobals mg) (a : PySem.W.nsIn K mainGlobals x = some (some (.ref f)))
    (l : K.lookup f = some ⟨oc, od, .func (PySem.W.fnOf x x (defArgs st) (defBody st) (defScope st) .none kV doc pm an cdv ct), osl⟩) (c : PySem.W.codeIn K cdv x = true) (k : PySem.W.keepIn K (.ref f) = true)
    (hb : ∀ (kV doc pm : Value) (an : Option Addr) (cdv ct : Value) (us : List Value), us.length = ps.length → bindArgs (PySem.W.fnOf x x (defArgs st) (defBody st) (defScope st) .none kV doc pm an cdv ct) ⟨us, []⟩ = pure (ps.zip us)) :
    Df K mg x st ps f (PySem.W.fnOf x x (defArgs st) (defBody st) (defScope st) .none kV doc pm an cdv ct) :=
  ⟨⟨[], ⟨⟨oc, od, .none, kV, doc, pm, an, cdv, ct, osl, rfl, l, c, .inl ⟨rfl, rfl⟩, .inl rfl⟩, k⟩⟩, k, .all (hb kV doc pm an cdv ct), PySem.W.mg_of X G a⟩
/-- the same with one default or more, all arguments handed in -/
theorem df_mkD {K : PySem.W.Frag} {h : Heap} {mg : Str → Option Value} {x : Str} {st : Stmt} {ps : List Str} {f T : Addr} {oc : Value} {od an : Option Addr} {osl : Array (Option Value)} {kV doc pm cdv ct : Value} {oT : Obj} {its : List Value} {m : Nat} {dvs : List V} (X : K.In h) (G : h.Ns mainGlobals mg) (a : PySem.W.nsIn K mainGlobals x = some (some (.ref f)))
    (l : K.lookup f = some ⟨oc, od, .func (PySem.W.fnOf x x (defArgs st) (defBody st) (defScope st) (.ref T) kV doc pm an cdv ct), osl⟩) (c : PySem.W.codeIn K cdv x = true) (k : PySem.W.keepIn K (.ref f) = true)
    (lT : K.lookup T = some oT) (eT : oT.data = .seq its.toArray m) (rT : Vals dvs its) (hd : dvs ≠ [])
    (hb : ∀ (T : Addr) (kV doc pm : Value) (an : Option Addr) (cdv ct : Value) (us its : List Value), us.length = ps.length → its.length = dvs.length →
      ∃ k, bindArgs (PySem.W.fnOf x x (defArgs st) (defBody st) (defScope st) (.ref T) kV doc pm an cdv ct) ⟨us, []⟩ = seqItems? (.ref T) >>= k ∧ k (some its.toArray) = pure (ps.zip us)) :
    Df K mg x st ps f (PySem.W.fnOf x x (defArgs st) (defBody st) (defScope st) (.ref T) kV doc pm an cdv ct) := by
  have F : FunD K x x (defArgs st) (defBody st) (defScope st) dvs [] f (PySem.W.fnOf x x (defArgs st) (defBody st) (defScope st) (.ref T) kV doc pm an cdv ct) := ⟨⟨oc, od, .ref T, kV, doc, pm, an, cdv, ct, osl, rfl, l, c, .inr ⟨hd, T, oT, its, m, rfl, lT, eT, rT⟩, .inl rfl⟩, k⟩
  refine ⟨⟨dvs, F⟩, k, ?_, PySem.W.mg_of X G a⟩
  obtain ⟨ds, v, B⟩ := F.binds1 (ps := ps) ps.length dvs.length hd (by omega) fun T kV doc pm an cdv ct us its h1 h2 => by
    obtain ⟨k, e1, e2⟩ := hb T kV doc pm an cdv ct us its h1 h2
    refine ⟨k, e1, ?_⟩
    rw [← h2, List.drop_length, List.append_nil]
    exact e2
  rw [List.drop_length] at v
  cases v
  exact B
/-! ### draws -/
def ds_law_draw : Ds := fun ds Q => ∃ n : Int, ds = [.int n] ∧ 0 < n ∧ n < 2 ^ 200 ∧ ∀ r : Int, 0 ≤ r → r < n → Q (.int r)
theorem len_law_draw : ∀ ds Qd, ds_law_draw ds Qd → ds.length + 1 = 2 := by
  rintro ds Qd ⟨n, rfl, _⟩; rfl
theorem draw_mod {x n : Int} (h : 0 < n) : 0 ≤ x % n ∧ x % n < n := ⟨Int.emod_nonneg _ (by omega), Int.emod_lt_of_pos _ h⟩
theorem draw_div {x n : Int} (h0 : 0 ≤ x) (h : 0 < n) : 0 ≤ x / n := Int.ediv_nonneg h0 (by omega)
theorem wide200 {x n : Int} (h : 0 < n) (h2 : n < 2 ^ 200) : CDivW x n := wide_div (b := 200) h (by
  have e : (2 : Int) ^ 200 = (((2 : Nat) ^ 200 : Nat) : Int) := by decide
  rw [e] at h2
  omega) (by decide) (by decide)
theorem mulP {i j : Int} (h0 : 0 ≤ i) (h : i < 2305843009213693951) : CMul i j := .inl ⟨by omega, by omega⟩
end Fc
namespace Fc
open PySem L2
/-! ### the law's own def: its first row makes the tape -/
def spLaw (K : PySem.W.Frag) : Sp := fun vs H Q _ => ∃ (a : Addr) (ns : List Int), vs = [.ref a] ∧ SqL K H a (ns.map V.int) ∧ ns.length ≤ 63 ∧ ∀ H', Q (.bl true) H'
theorem law_start {K : PySem.W.Frag} {N : List Str} {m : Nat} (hN : N.length = m + 2) {H : Hp} {sa : Addr} {ns : List Int} {Q : VK} {t : TS} {a : AS} (hA : ∀ c : Ctx K, AbsS c t a) (hv : a { nx := fun _ => False, rt := fun d => d = .bool true } (.un :: .tape :: List.replicate m .un)) (hS : SqL K H sa (ns.map V.int)) (q : ∀ H', Q (.bl true) H') :
    tSeq (tAsg (tLst (tCons (tCB (fun xs H Q => ∃ p ys, xs = [V.ref p] ∧ (SqL K H p ys ∨ SqT K H p ys) ∧ ∀ l, H l = none → Q (V.ref l) (upd H l (HO.lst ys))) (tCons (tVar 0) tNil)) (tCons (tC (.int 0)) (tCons (tC (.int 0)) tNil)))) (gName 1)) t { nx := fun _ H' => Q .non H', rt := Q } (L2.start N [.ref sa]) H := by
  have es : L2.start N [.ref sa] = some (V.ref sa) :: none :: List.replicate m none := by
    unfold L2.start
    rw [hN]
    show some (V.ref sa) :: List.replicate (m + 1) none = _
    rw [List.replicate_succ]
  rw [es]
  refine ⟨.ref sa, rfl, sa, ns.map V.int, rfl, .inl hS, fun l hl => ⟨by show 3 ≤ sizeLine; decide, fun p hp => ?_⟩⟩
  have npl : p ≠ l := fun e => by rw [e, upd_same] at hp; cases hp
  have T : TapeAt p l ns (upd (upd H l (.lst (ns.map V.int))) p (.lst [.ref l, .int 0, .int 0])) := ⟨npl, by rw [upd_ne npl.symm, upd_same], 0, 0, Int.le_refl 0, Int.le_refl 0, upd_same⟩
  have e0 : Ex (fun _ => none) (upd (upd H l (.lst (ns.map V.int))) p (.lst [.ref l, .int 0, .int 0])) := fun _ _ h => nomatch h
  refine hA (Ctx.tape K (G := fun _ => none) e0 rfl rfl T) (.un :: .tape :: List.replicate m .un) _ (fun _ => none) _ ⟨.refl (.zero _), ?_, fun i x e => ?_, fun i j x y r ex ey ox oy _ _ => ?_⟩ _ _ hv ⟨fun _ _ _ _ _ _ z => z.elim, fun v d G' H' _ rv z => ?_, fun _ _ _ _ _ _ z => z.elim, fun _ _ _ _ _ _ z => z.elim⟩
  · show (some (V.ref sa) :: some (V.ref p) :: List.replicate m none).length = _
    simp
  · show ∃ o, (some (V.ref sa) :: some (V.ref p) :: List.replicate m none)[i]? = some o ∧ _
    match i, e with
    | 0, e => cases e; exact ⟨_, rfl, trivial⟩
    | 1, e => cases e; exact ⟨_, rfl, p, l, ns, rfl, rfl⟩
    | i + 2, e =>
      rw [List.getElem?_cons_succ, List.getElem?_cons_succ, List.getElem?_replicate] at e
      rw [List.getElem?_cons_succ, List.getElem?_cons_succ, List.getElem?_replicate]
      split at e
      · rename_i hlt
        cases e
        exact ⟨none, by rw [if_pos hlt], trivial⟩
      · cases e
  · have : x.isOwn = false := by
      match i, ex with
      | 0, ex => cases ex; rfl
      | 1, ex => cases ex; rfl
      | i + 2, ex =>
        rw [List.getElem?_cons_succ, List.getElem?_cons_succ, List.getElem?_replicate] at ex
        split at ex
        · cases ex; rfl
        · cases ex
    rw [this] at ox; cases ox
  · subst z
    cases rv
    exact q _
end Fc

namespace Fc
open PySem L2
/-! ### texts as lists of signs -/
abbrev cl (x : Str) : List Nat := x.cps.toList
theorem cl_len (x : Str) : (cl x).length = x.length := by simp [Str.length]
theorem str_ext {x y : Str} (h : cl x = cl y) : x = y := by
  cases x; cases y
  simp only [Str.mk.injEq]
  exact Array.toList_inj.mp h
theorem cl_append (x y : Str) : cl (x ++ y) = cl x ++ cl y := by
  show (x.cps ++ y.cps).toList = _
  simp
theorem cl_one (k : Nat) : cl ⟨#[k]⟩ = [k] := rfl
def stripL (p : Nat → Bool) (l : List Nat) : List Nat := ((l.dropWhile p).reverse.dropWhile p).reverse
theorem drop_tw (p : Nat → Bool) : ∀ l : List Nat, l.drop (l.takeWhile p).length = l.dropWhile p
  | [] => rfl
  | a :: r => by
    rw [List.takeWhile_cons, List.dropWhile_cons]
    by_cases h : p a = true
    · rw [if_pos h, if_pos h]
      exact drop_tw p r
    · rw [if_neg h, if_neg h]; rfl
theorem cl_strip (x y : Str) : cl (Txt.stripChars x y) = stripL y.cps.contains (cl x) := by
  unfold Txt.stripChars
  rw [PyProof.Rows.stripBy_eq]
  unfold stripL
  show (Array.extract x.cps _ _).toList = _
  rw [Array.toList_extract]
  unfold stripLo stripHi
  simp only [if_true]
  rw [List.extract_eq_take_drop]
  generalize hp : (y.cps.contains : Nat → Bool) = p
  have e1 := drop_tw p (cl x)
  have hn : (cl x).length = x.length := cl_len x
  generalize hL : ((cl x).takeWhile p).length = L at e1
  have hle : L ≤ (cl x).length := by rw [← hL]; exact (List.takeWhile_sublist p).length_le
  rw [e1]
  have e2 := drop_tw p ((cl x).dropWhile p).reverse
  generalize hT : (((cl x).dropWhile p).reverse.takeWhile p).length = T at e2
  have hlen : ((cl x).dropWhile p).length = x.length - L := by rw [← e1, List.length_drop, hn]
  have hT2 : T ≤ x.length - L := by
    rw [← hT, ← hlen, ← List.length_reverse (as := (cl x).dropWhile p)]
    exact (List.takeWhile_sublist p).length_le
  rw [← e2, List.reverse_drop, List.reverse_reverse, List.length_reverse, hlen]
  congr 1
  omega
theorem mem_dropWhile {p : Nat → Bool} {l : List Nat} {k : Nat} (h : k ∈ l.dropWhile p) : k ∈ l := (List.dropWhile_sublist p).subset h
theorem dropWhile_head {p : Nat → Bool} : ∀ {l : List Nat} {k : Nat}, (l.dropWhile p).head? = some k → p k = false
  | [], _, h => by cases h
  | a :: r, k, h => by
    rw [List.dropWhile_cons] at h
    by_cases q : p a = true
    · rw [if_pos q] at h; exact dropWhile_head h
    · rw [if_neg q] at h; cases h; simpa using q
theorem strip_mem {p : Nat → Bool} {l : List Nat} {k : Nat} (h : k ∈ stripL p l) : k ∈ l := by
  unfold stripL at h
  exact mem_dropWhile (List.mem_reverse.mp (mem_dropWhile (List.mem_reverse.mp h)))
theorem strip_len (p : Nat → Bool) (l : List Nat) : (stripL p l).length ≤ l.length := by
  unfold stripL
  rw [List.length_reverse]
  refine Nat.le_trans (List.dropWhile_sublist p).length_le ?_
  rw [List.length_reverse]
  exact (List.dropWhile_sublist p).length_le
theorem strip_last {p : Nat → Bool} {l : List Nat} {k : Nat} (h : (stripL p l).getLast? = some k) : p k = false := by
  unfold stripL at h
  rw [List.getLast?_reverse] at h
  exact dropWhile_head h
theorem dropWhile_suffix_head {p : Nat → Bool} {l : List Nat} {k : Nat} (h : ((l.reverse.dropWhile p).reverse).head? = some k) : l.head? = some k := by
  have hs : (l.reverse.dropWhile p).reverse <+: l := by
    have := List.dropWhile_suffix p (l := l.reverse)
    rw [← List.reverse_prefix, List.reverse_reverse] at this
    exact this
  obtain ⟨t, ht⟩ := hs
  cases q : (l.reverse.dropWhile p).reverse with
  | nil => rw [q] at h; cases h
  | cons a r => rw [q] at h ht; rw [← ht]; exact h
theorem strip_head {p : Nat → Bool} {l : List Nat} {k : Nat} (h : (stripL p l).head? = some k) : p k = false := dropWhile_head (dropWhile_suffix_head h)
theorem strip_id {p : Nat → Bool} {l : List Nat} (h1 : ∀ k, l.head? = some k → p k = false) (h2 : ∀ k, l.getLast? = some k → p k = false) : stripL p l = l := by
  have dw : ∀ m : List Nat, (∀ k, m.head? = some k → p k = false) → m.dropWhile p = m := fun m hm => by
    cases m with
    | nil => rfl
    | cons a r => rw [List.dropWhile_cons, if_neg (by rw [hm a rfl]; exact Bool.false_ne_true)]
  unfold stripL
  rw [dw l h1, dw l.reverse (fun k hk => h2 k (by rw [← List.head?_reverse]; exact hk)), List.reverse_reverse]
theorem cl_join0 (ys : List Str) : cl (Txt.join ⟨#[]⟩ ys) = (ys.map cl).flatten := by
  rw [TL.join_eq]
  have e : ∀ l : List Str, cl (Str.join ⟨#[]⟩ l) = (l.map cl).flatten := fun l => by
    have h := TL.tl_join ⟨#[]⟩ l
    show TL.tl (Str.join ⟨#[]⟩ l) = _
    rw [h]
    have g : ∀ m : List (List Nat), TL.joinL [] m = m.flatten := fun m => by
      induction m with
      | nil => rfl
      | cons a r ih =>
        cases r with
        | nil => simp [TL.joinL]
        | cons b r => show a ++ ([] ++ TL.joinL [] (b :: r)) = _; rw [ih]; simp
    exact g _
  exact e ys
/-! ### lines -/
def smallS (k : Nat) : Bool := decide (97 ≤ k) && decide (k ≤ 122)
def signL (k : Nat) : Bool := smallS k || k == 32
structure LineL (l : List Nat) : Prop where
  ne : l ≠ []
  len : l.length ≤ 30
  all : ∀ k ∈ l, signL k = true
  hd : l.head? ≠ some 32
  lst : l.getLast? ≠ some 32
def LineS (x : Str) : Prop := LineL (cl x)
theorem signL_lt {k : Nat} (h : signL k = true) : k < 0x110000 := by
  unfold signL smallS at h
  simp only [Bool.or_eq_true, Bool.and_eq_true, decide_eq_true_eq, beq_iff_eq] at h
  omega
theorem strOk_of {x : Str} (h : ∀ k ∈ cl x, k < 0x110000) : PyData.strOk x = true := by
  unfold PyData.strOk
  rw [Array.all_eq_true']
  intro k hk
  exact decide_eq_true (h k (Array.mem_toList_iff.mpr hk))
theorem LineS.ok {x : Str} (h : LineS x) : PyData.strOk x = true := strOk_of fun k hk => signL_lt (h.all k hk)
theorem LineS.len {x : Str} (h : LineS x) : x.length ≤ 30 := by rw [← cl_len]; exact LineL.len h
/-! ### data that can be compared -/
structure Sh (n : Nat) (d : D) : Prop where
  lay : d.canLay0 = true
  dep : d.depth ≤ n
theorem Sh.shaped {n : Nat} {d : D} (h : Sh n d) (hn : n ≤ 64) : SeqAt.shaped d = true := by
  unfold SeqAt.shaped
  rw [h.lay, Bool.true_and]
  exact decide_eq_true (Nat.le_trans h.dep hn)
theorem Sh.mono {n m : Nat} {d : D} (h : Sh n d) (l : n ≤ m) : Sh m d := ⟨h.lay, Nat.le_trans h.dep l⟩
theorem Sh.none {n : Nat} : Sh n .none := ⟨by simp [PyData.canLay0], by simp [PyData.depth]⟩
theorem Sh.int {n : Nat} (i : Int) : Sh n (.int i) := ⟨by simp [PyData.canLay0], by simp [PyData.depth]⟩
theorem Sh.bool {n : Nat} (i : Bool) : Sh n (.bool i) := ⟨by simp [PyData.canLay0], by simp [PyData.depth]⟩
theorem Sh.str {n : Nat} {x : Str} (h : PyData.strOk x = true) : Sh n (.str x) := ⟨by simpa [PyData.canLay0] using h, by simp [PyData.depth]⟩
theorem sh_all {n : Nat} : ∀ {ds : List D}, (∀ d ∈ ds, Sh n d) → PyData.canLayAll0 ds = true ∧ PyData.depthAll ds ≤ n
  | [], _ => ⟨by simp [PyData.canLayAll0], by simp [PyData.depthAll]⟩
  | d :: r, h => by
    have h1 := h d (List.mem_cons_self ..)
    have h2 := sh_all (ds := r) fun e he => h e (List.mem_cons_of_mem _ he)
    refine ⟨by simp [PyData.canLayAll0, h1.lay, h2.1], ?_⟩
    simp only [PyData.depthAll]
    exact Nat.max_le.mpr ⟨h1.dep, h2.2⟩
theorem Sh.tuple {n : Nat} {ds : List D} (h : ∀ d ∈ ds, Sh n d) : Sh (n + 1) (.tuple ds) := by
  have k := sh_all h
  exact ⟨by simpa [PyData.canLay0] using k.1, by simp only [PyData.depth]; exact Nat.succ_le_succ k.2⟩
theorem Sh.list {n : Nat} {ds : List D} (h : ∀ d ∈ ds, Sh n d) : Sh (n + 1) (.list ds) := by
  have k := sh_all h
  exact ⟨by simpa [PyData.canLay0] using k.1, by simp only [PyData.depth]; exact Nat.succ_le_succ k.2⟩
theorem Sh.strs {n : Nat} {xs : List Str} (h : ∀ x ∈ xs, PyData.strOk x = true) : Sh (n + 1) (.tuple (xs.map PyData.str)) := .tuple fun d hd => by
  obtain ⟨x, hx, rfl⟩ := List.mem_map.mp hd
  exact .str (h x hx)
theorem Sh.ints {n : Nat} {xs : List Int} : Sh (n + 1) (.tuple (xs.map PyData.int)) := .tuple fun d hd => by
  obtain ⟨x, hx, rfl⟩ := List.mem_map.mp hd
  exact .int x
mutual
theorem eqv_self : ∀ {d : D}, d.canLay0 = true → PyData.eqv d d = true
  | .none, _ => by simp [PyData.eqv]
  | .bool _, _ => by simp [PyData.eqv]
  | .int _, _ => by simp [PyData.eqv]
  | .str _, _ => by simp [PyData.eqv]
  | .list xs, h => by simp only [PyData.eqv]; exact eqvAll_self (by simpa [PyData.canLay0] using h)
  | .tuple xs, h => by simp only [PyData.eqv]; exact eqvAll_self (by simpa [PyData.canLay0] using h)
  | .dict _, h => by simp [PyData.canLay0] at h
theorem eqvAll_self : ∀ {ds : List D}, PyData.canLayAll0 ds = true → PyData.eqvAll ds ds = true
  | [], _ => by simp [PyData.eqvAll]
  | d :: r, h => by
    simp only [PyData.canLayAll0, Bool.and_eq_true] at h
    simp only [PyData.eqvAll, Bool.and_eq_true]
    exact ⟨eqv_self h.1, eqvAll_self h.2⟩
end
/-! ### comprehensions -/
section
variable {items : List D} {p : D → Bool} {f : D → D} {i : Nat} {d : D}
theorem take_at {α : Type} {items : List α} {d : α} (h : items[i]? = some d) : items.take (i + 1) = items.take i ++ [d] := by
  rw [List.take_add_one, h]; rfl
theorem fm_yes (h : items[i]? = some d) (hp : p d = true) : ((items.take (i + 1)).filter p).map f = ((items.take i).filter p).map f ++ [f d] := by
  rw [take_at h, List.filter_append, List.map_append]
  simp [hp]
theorem fm_no (h : items[i]? = some d) (hp : p d = false) : ((items.take (i + 1)).filter p).map f = ((items.take i).filter p).map f := by
  rw [take_at h, List.filter_append, List.map_append]
  simp [hp]
theorem m_step (h : items[i]? = some d) : (items.take (i + 1)).map f = (items.take i).map f ++ [f d] := by
  rw [take_at h, List.map_append]; rfl
end
theorem sl_of {n : Nat} (h : n ≤ 1000000) : n ≤ sizeLine := Nat.le_trans h (by decide)
end Fc
namespace Fc
open PySem L2
/-! ### readings: small words -/
theorem draw_eq {n : Int} {Q : D → Prop} : ds_law_draw [.int n] Q = (0 < n ∧ n < 2 ^ 200 ∧ ∀ r : Int, 0 ≤ r → r < n → Q (.int r)) := by
  apply propext
  constructor
  · rintro ⟨m, e, h⟩
    cases e
    exact h
  · intro h
    exact ⟨n, rfl, h⟩
theorem atI_some {α : Type} {xs : List α} {i : Int} (h0 : 0 ≤ i) (h1 : i < (xs.length : Int)) : ∃ d, atI xs i = some d ∧ xs[i.toNat]? = some d := by
  have hl : i.toNat < xs.length := by omega
  refine ⟨xs[i.toNat], ?_, List.getElem?_eq_getElem hl⟩
  unfold atI ixN
  rw [if_pos h0, if_pos h1]
  exact List.getElem?_eq_getElem hl
theorem ix_list {xs : List D} {i : Int} {Q : D → Prop} (h0 : 0 ≤ i) (h1 : i < (xs.length : Int)) (h : ∀ d, xs[i.toNat]? = some d → Q d) : fIx (.list xs) (.int i) Q := by
  obtain ⟨d, e, e2⟩ := atI_some h0 h1
  unfold fIx
  simp only [e]
  exact h d e2
theorem ix_tuple {xs : List D} {i : Int} {Q : D → Prop} (h0 : 0 ≤ i) (h1 : i < (xs.length : Int)) (h : ∀ d, xs[i.toNat]? = some d → Q d) : fIx (.tuple xs) (.int i) Q := by
  obtain ⟨d, e, e2⟩ := atI_some h0 h1
  unfold fIx
  simp only [e]
  exact h d e2
theorem ix_str {x : Str} {i : Int} {Q : D → Prop} (hs : x.length ≤ sizeLine) (h0 : 0 ≤ i) (h1 : i < (x.length : Int)) (h : ∀ k, (cl x)[i.toNat]? = some k → Q (.str ⟨#[k]⟩)) : fIx (.str x) (.int i) Q := by
  obtain ⟨d, e, e2⟩ := atI_some (xs := cl x) h0 (by rw [cl_len]; exact h1)
  unfold fIx
  refine ⟨hs, ?_⟩
  simp only [e]
  exact h d e2
theorem mem_get {α : Type} {xs : List α} {i : Nat} {d : α} (h : xs[i]? = some d) : d ∈ xs := List.mem_of_getElem? h
theorem all_snoc {α : Type} {P : α → Prop} {xs : List α} {y : α} (h : ∀ x ∈ xs, P x) (hy : P y) : ∀ x ∈ xs ++ [y], P x := fun x hx => by
  rcases List.mem_append.mp hx with hx | hx
  · exact h x hx
  · rw [List.mem_singleton.mp hx]; exact hy
def lineB (l : List Nat) : Bool := !l.isEmpty && decide (l.length ≤ 30) && l.all signL && decide (l.head? ≠ some 32) && decide (l.getLast? ≠ some 32)
theorem lineB_iff {l : List Nat} : lineB l = true ↔ LineL l := by
  unfold lineB
  simp only [Bool.and_eq_true, decide_eq_true_eq, List.all_eq_true, Bool.not_eq_true', List.isEmpty_eq_false_iff]
  constructor
  · rintro ⟨⟨⟨⟨h1, h2⟩, h3⟩, h4⟩, h5⟩
    exact ⟨h1, h2, h3, h4, h5⟩
  · rintro ⟨h1, h2, h3, h4, h5⟩
    exact ⟨⟨⟨⟨h1, h2⟩, h3⟩, h4⟩, h5⟩
/-- texts of one sign, a list of data -/
theorem signs_of : ∀ {acc : List D}, (∀ y ∈ acc, ∃ k, signL k = true ∧ y = .str ⟨#[k]⟩) → ∃ l : List Nat, acc = l.map (fun k => PyData.str ⟨#[k]⟩) ∧ ∀ k ∈ l, signL k = true
  | [], _ => ⟨[], rfl, fun _ h => nomatch h⟩
  | y :: r, h => by
    obtain ⟨k, hk, rfl⟩ := h y (List.mem_cons_self ..)
    obtain ⟨l, rfl, hl⟩ := signs_of (acc := r) fun z hz => h z (List.mem_cons_of_mem _ hz)
    refine ⟨k :: l, rfl, fun j hj => ?_⟩
    rcases List.mem_cons.mp hj with rfl | hj
    · exact hk
    · exact hl j hj
theorem join_signs (l : List Nat) : cl (Txt.join ⟨#[]⟩ (l.map fun k => (⟨#[k]⟩ : Str))) = l := by
  rw [cl_join0]
  induction l with
  | nil => rfl
  | cons a r ih => simp only [List.map_cons, List.flatten_cons, ih]; rfl
theorem sum_ones (l : List Nat) : ((l.map fun k => (⟨#[k]⟩ : Str)).map (·.length)).sum = l.length := by
  induction l with
  | nil => rfl
  | cons a r ih => simp only [List.map_cons, List.sum_cons, ih, List.length_cons]; show 1 + r.length = _; omega
/-- what is left of signs without the blanks at their ends is a line, or nothing -/
theorem line_strip {l : List Nat} {p : Nat → Bool} (hp : p 32 = true) (hl : l.length ≤ 30) (ha : ∀ k ∈ l, signL k = true) (hn : stripL p l ≠ []) : LineL (stripL p l) :=
  ⟨hn, Nat.le_trans (strip_len p l) hl, fun k hk => ha k (strip_mem hk), fun e => (by
    have h := strip_head e
    rw [hp] at h; exact Bool.noConfusion h), fun e => (by
    have h := strip_last e
    rw [hp] at h; exact Bool.noConfusion h)⟩
/-- a body as a datum -/
def bodyD (xs : List Str) : D := .tuple (xs.map PyData.str)
def ds_law_a_line : Ds := fun ds Q => ds = [] ∧ ∀ x, LineS x → Q (.str x)
theorem len_law_a_line : ∀ ds Qd, ds_law_a_line ds Qd → ds.length + 1 = 1 := by rintro ds Qd ⟨rfl, _⟩; rfl
theorem aline_eq {Q : D → Prop} : ds_law_a_line [] Q = ∀ x, LineS x → Q (.str x) := propext ⟨fun h => h.2, fun h => ⟨rfl, h⟩⟩
def ds_law_a_body : Ds := fun ds Q => ∃ m : Int, ds = [.int m] ∧ 0 ≤ m ∧ m ≤ 1000 ∧ ∀ xs : List Str, (xs.length : Int) ≤ m → (∀ x ∈ xs, LineS x) → Q (bodyD xs)
theorem len_law_a_body : ∀ ds Qd, ds_law_a_body ds Qd → ds.length + 1 = 2 := by rintro ds Qd ⟨m, rfl, _⟩; rfl
theorem abody_eq {m : Int} {Q : D → Prop} : ds_law_a_body [.int m] Q = (0 ≤ m ∧ m ≤ 1000 ∧ ∀ xs : List Str, (xs.length : Int) ≤ m → (∀ x ∈ xs, LineS x) → Q (bodyD xs)) := by
  apply propext
  constructor
  · rintro ⟨n, e, h⟩; cases e; exact h
  · intro h; exact ⟨m, rfl, h⟩
theorem strs_of : ∀ {acc : List D}, (∀ y ∈ acc, ∃ x, LineS x ∧ y = .str x) → ∃ l : List Str, acc = l.map PyData.str ∧ ∀ x ∈ l, LineS x
  | [], _ => ⟨[], rfl, fun _ h => nomatch h⟩
  | y :: r, h => by
    obtain ⟨k, hk, rfl⟩ := h y (List.mem_cons_self ..)
    obtain ⟨l, rfl, hl⟩ := strs_of (acc := r) fun z hz => h z (List.mem_cons_of_mem _ hz)
    refine ⟨k :: l, rfl, fun j hj => ?_⟩
    rcases List.mem_cons.mp hj with rfl | hj
    · exact hk
    · exact hl j hj
end Fc

namespace Fc
open PySem L2
/-! ### own lists: made, grown, changed, frozen -/
section
variable {K : PySem.W.Frag} {c : Ctx K}
abbrev rListOf (K : PySem.W.Frag) : List V → Hp → VK → Prop := fun xs H Q => ∃ p ys, xs = [V.ref p] ∧ (SqL K H p ys ∨ SqT K H p ys) ∧ ∀ l, H l = none → Q (V.ref l) (upd H l (HO.lst ys))
theorem Rel.ownNew {ε : En} {σ : St} {G H : Hp} (r : Rel c ε σ G H) {i : Nat} {p : Addr} {vs : List V} {ds : List D} (hp : H p = none) (hv : RvA K G vs ds) : Rel c (ε.set i (.own ds)) (σ.set i (some (.ref p))) G (upd H p (.lst vs)) := by
  obtain ⟨_, hg, h0⟩ := r.fresh (o := .lst vs) hp
  exact r.putOwn hp ⟨p, vs, rfl, upd_same, hv, hg, h0⟩
theorem Rel.ownAt {ε : En} {σ : St} {G H : Hp} (r : Rel c ε σ G H) {i : Nat} {ds : List D} (h : ε[i]? = some (.own ds)) : ∃ p vs, σ[i]? = some (some (.ref p)) ∧ H p = some (.lst vs) ∧ RvA K G vs ds ∧ G p = none ∧ c.H0 p = none := by
  obtain ⟨o, ho, p, vs, rfl, h1, h2, h3, h4⟩ := r.cell i _ h
  exact ⟨p, vs, ho, h1, h2, h3, h4⟩
theorem Rel.ownSet {ε : En} {σ : St} {G H : Hp} (r : Rel c ε σ G H) {i : Nat} {ds es : List D} {p : Addr} {us : List V} (h : ε[i]? = some (.own ds)) (hs : σ[i]? = some (some (.ref p))) (hg : G p = none) (h0 : c.H0 p = none) (hv : RvA K G us es) : Rel c (ε.set i (.own es)) σ G (upd H p (.lst us)) :=
  r.mut h rfl hs hg h0 ⟨p, us, rfl, upd_same, hv, hg, h0⟩
def aSetOwnLst (i : Nat) (r : AA) : AS := fun E ε => r ε fun xs => xs.length ≤ sizeLine ∧ E.nx (ε.set i (.own xs))
theorem as_setOwnLst (i : Nat) {tr : TA} {ar : AA} (hr : AbsA c tr ar) : AbsS c (tAsg (tLst tr) (gName i)) (aSetOwnLst i ar) := by
  intro ε σ G H rl E D' h k
  refine hr ε σ G H rl _ _ h fun vs ds G1 H1 s1 r1 h1 => ⟨by rw [r1.length]; exact h1.1, fun p hp => ?_⟩
  exact k.nx _ _ G1 _ ((rl.step s1).ownNew hp r1) s1.gg h1.2
def aSetOwnList (i : Nat) (a : AE) : AS := fun E ε => a ε fun d => match d with
  | .list xs => E.nx (ε.set i (.own xs))
  | .tuple xs => E.nx (ε.set i (.own xs))
  | _ => False
theorem as_setOwnList (i : Nat) {ta : TE} {a : AE} (ha : AbsE c ta a) : AbsS c (tAsg (tCB (rListOf K) (tCons ta tNil)) (gName i)) (aSetOwnList i a) := by
  intro ε σ G H rl E D' h k
  refine ha ε σ G H rl _ _ h fun v d G1 H1 s1 r1 h1 => ?_
  have o1 := (rl.step s1).ok
  cases r1 with
  | @lst q us ds hq hA => exact ⟨q, us, rfl, .inl (SqL.of (o1.ex _ _ hq)), fun p hp => k.nx _ _ G1 _ ((rl.step s1).ownNew hp hA) s1.gg h1⟩
  | @tup q us ds hq hA => exact ⟨q, us, rfl, .inr (o1.ex.sqt hq), fun p hp => k.nx _ _ G1 _ ((rl.step s1).ownNew hp hA) s1.gg h1⟩
  | _ => exact h1.elim
def aSetOwnRev (i j : Nat) : AS := fun E ε => match ε[j]? with | some (.own xs) => E.nx (ε.set i (.own xs.reverse)) | _ => False
theorem as_setOwnRev (i j : Nat) : AbsS c (tAsg (tRevL K (tVar j)) (gName i)) (aSetOwnRev i j) := by
  intro ε σ G H rl E D' h k
  unfold aSetOwnRev at h
  split at h
  · rename_i xs hx
    obtain ⟨p, vs, h1, h2, h3, h4, h5⟩ := rl.ownAt hx
    exact ⟨.ref p, h1, p, vs, rfl, SqL.of h2, fun q hq => k.nx _ _ G _ (rl.ownNew hq h3.reverse) (Ex.refl _) h⟩
  · exact h.elim
def aAppend (i : Nat) (a : AE) : AS := fun E ε => match ε[i]? with
  | some (.own xs) => a ε fun d => xs.length < sizeLine ∧ E.nx (ε.set i (.own (xs ++ [d])))
  | _ => False
theorem as_append (i : Nat) {te : TE} {a : AE} (ha : AbsE c te a) : AbsS c (tDrop (tBM K "list" rAppend (tVar i) (tCons te tNil))) (aAppend i a) := by
  intro ε σ G H rl E D' h k
  unfold aAppend at h
  split at h
  · rename_i xs hx
    obtain ⟨p, vs, h1, h2, h3, h4, h5⟩ := rl.ownAt hx
    refine ⟨.ref p, h1, .inl ⟨rfl, vs, SqL.of h2⟩, ?_⟩
    refine ha ε σ G H rl _ _ h fun v d G1 H1 s1 r1 q1 => ?_
    obtain ⟨p', vs', g1, g2, g3, g4, g5⟩ := (rl.step s1).ownAt hx
    have e := g1.symm.trans h1
    cases e
    refine ⟨p, vs', v, rfl, rfl, g2, by rw [g3.length]; exact q1.1, ?_⟩
    exact k.nx _ _ G1 _ ((rl.step s1).ownSet hx g1 g4 g5 (g3.append (.one r1))) s1.gg q1.2
  · exact h.elim
def aSetAt (i : Nat) (a b : AE) : AS := fun E ε => match ε[i]? with
  | some (.own xs) => a ε fun d => b ε fun kd => (match kd with
    | .int k => (match ixN xs.length k with | some j => E.nx (ε.set i (.own (xs.set j d))) | none => False)
    | _ => False)
  | _ => False
theorem as_setAt (i : Nat) {te ti : TE} {a b : AE} (ha : AbsE c te a) (hb : AbsE c ti b) : AbsS c (tAsg te (gSub (tVar i) ti rSetL)) (aSetAt i a b) := by
  intro ε σ G H rl E D' h k
  unfold aSetAt at h
  split at h
  · rename_i xs hx
    refine ha ε σ G H rl _ _ h fun v d G1 H1 s1 r1 q1 => ?_
    obtain ⟨p, vs, h1, h2, h3, h4, h5⟩ := (rl.step s1).ownAt hx
    refine ⟨.ref p, h1, ?_⟩
    refine hb ε σ G1 H1 (rl.step s1) _ _ q1 fun y dy G2 H2 s2 r2 q2 => ?_
    have rl2 := (rl.step s1).step s2
    obtain ⟨p', vs', g1, g2, g3, g4, g5⟩ := rl2.ownAt hx
    have e := g1.symm.trans h1
    cases e
    cases r2 with
    | int z =>
      cases hj : ixN xs.length z with
      | some j =>
        simp only [hj] at q2
        refine ⟨p, vs', z, j, rfl, rfl, g2, by rw [g3.length]; exact hj, ?_⟩
        exact k.nx _ _ G2 _ (rl2.ownSet hx g1 g4 g5 (g3.set j (r1.mono s2.gg))) (s1.gg.trans s2.gg) q2
      | none => simp only [hj] at q2
    | _ => exact q2.elim
  · exact h.elim
def aPop (i : Nat) (a : AE) : AS := fun E ε => match ε[i]? with
  | some (.own xs) => a ε fun kd => (match kd with
    | .int k => 0 ≤ k ∧ k < (xs.length : Int) ∧ k < 2 ^ 63 ∧ E.nx (ε.set i (.own (xs.eraseIdx k.toNat)))
    | _ => False)
  | _ => False
theorem RvA.erase {G : Hp} : ∀ {vs : List V} {ds : List D} (n : Nat), RvA K G vs ds → RvA K G (vs.eraseIdx n) (ds.eraseIdx n)
  | _, _, _, .nil => by simp only [List.eraseIdx_nil]; exact .nil
  | _, _, 0, .cons h r => r
  | _, _, n + 1, .cons h r => .cons h (RvA.erase n r)
theorem as_pop (i : Nat) {te : TE} {a : AE} (ha : AbsE c te a) : AbsS c (tDrop (tBM K "list" rPopAt (tVar i) (tCons te tNil))) (aPop i a) := by
  intro ε σ G H rl E D' h k
  unfold aPop at h
  split at h
  · rename_i xs hx
    obtain ⟨p, vs, h1, h2, h3, h4, h5⟩ := rl.ownAt hx
    refine ⟨.ref p, h1, .inl ⟨rfl, vs, SqL.of h2⟩, ?_⟩
    refine ha ε σ G H rl _ _ h fun v d G1 H1 s1 r1 q1 => ?_
    obtain ⟨p', vs', g1, g2, g3, g4, g5⟩ := (rl.step s1).ownAt hx
    have e := g1.symm.trans h1
    cases e
    cases r1 with
    | int z =>
      obtain ⟨z0, z1, z2, q1⟩ : 0 ≤ z ∧ z < (xs.length : Int) ∧ z < 2 ^ 63 ∧ E.nx (ε.set i (.own (xs.eraseIdx z.toNat))) := q1
      have hl : z.toNat < vs'.length := by rw [g3.length]; omega
      refine ⟨p, vs', z, z.toNat, vs'[z.toNat], rfl, rfl, g2, by omega, z2, ?_, List.getElem?_eq_getElem hl, ?_⟩
      · unfold seqIndex?
        rw [g3.length]
        simp only [show ¬ z < 0 by omega, if_false]
        rw [if_pos (by simp; omega)]
      · exact k.nx _ _ G1 _ ((rl.step s1).ownSet hx g1 g4 g5 (g3.erase _)) s1.gg q1
    | _ => exact q1.elim
  · exact h.elim
def aInsert (i : Nat) (a b : AE) : AS := fun E ε => match ε[i]? with
  | some (.own xs) => a ε fun kd => b ε fun d => (match kd with
    | .int k => 0 ≤ k ∧ k < 2 ^ 63 ∧ xs.length < sizeLine ∧ E.nx (ε.set i (.own (xs.take k.toNat ++ [d] ++ xs.drop k.toNat)))
    | _ => False)
  | _ => False
theorem as_insert (i : Nat) {tk te : TE} {a b : AE} (ha : AbsE c tk a) (hb : AbsE c te b) : AbsS c (tDrop (tBM K "list" (fun x vs H Q => ∃ (l : Addr) (xs : List V) (i : Int) (y : V), x = .ref l ∧ vs = [.int i, y] ∧ H l = some (.lst xs) ∧ xs.length < sizeLine ∧ 0 ≤ i ∧ i < 2 ^ 63 ∧ Q .non (upd H l (.lst (xs.take i.toNat ++ [y] ++ xs.drop i.toNat)))) (tVar i) (tCons tk (tCons te tNil)))) (aInsert i a b) := by
  intro ε σ G H rl E D' h k
  unfold aInsert at h
  split at h
  · rename_i xs hx
    obtain ⟨p, vs, h1, h2, h3, h4, h5⟩ := rl.ownAt hx
    refine ⟨.ref p, h1, .inl ⟨rfl, vs, SqL.of h2⟩, ?_⟩
    refine ha ε σ G H rl _ _ h fun v d G1 H1 s1 r1 q1 => ?_
    refine hb ε σ G1 H1 (rl.step s1) _ _ q1 fun y dy G2 H2 s2 r2 q2 => ?_
    have rl2 := (rl.step s1).step s2
    obtain ⟨p', vs', g1, g2, g3, g4, g5⟩ := rl2.ownAt hx
    have e := g1.symm.trans h1
    cases e
    cases r1 with
    | int z =>
      obtain ⟨z0, z1, z2, q2⟩ : 0 ≤ z ∧ z < 2 ^ 63 ∧ xs.length < sizeLine ∧ E.nx (ε.set i (.own (xs.take z.toNat ++ [dy] ++ xs.drop z.toNat))) := q2
      refine ⟨p, vs', z, y, rfl, rfl, g2, by rw [g3.length]; exact z2, z0, z1, ?_⟩
      exact k.nx _ _ G2 _ (rl2.ownSet hx g1 g4 g5 (((g3.take _).append (.one r2)).append (g3.drop _))) (s1.gg.trans s2.gg) q2
    | _ => exact q2.elim
  · exact h.elim
def aFreeze (i : Nat) (s : AS) : AS := fun E ε => match ε[i]? with | some (.own xs) => s E (ε.set i (.d (.list xs))) | _ => False
theorem as_freeze (i : Nat) {t : TS} {s : AS} (hs : AbsS c t s) : AbsS c t (aFreeze i s) := by
  intro ε σ G H rl E D' h k
  unfold aFreeze at h
  split at h
  · rename_i xs hx
    obtain ⟨G', r', e⟩ := rl.freeze hx
    exact hs _ σ G' H r' E D' h (k.mono e)
  · exact h.elim
def aRetOwn (i : Nat) : AS := aFreeze i (aRet (aVar i))
theorem as_retOwn (i : Nat) : AbsS c (tRet (tVar i)) (aRetOwn i) := as_freeze i (as_ret (ae_var i))
def aAug (f : Int → Int → Int) (i : Nat) (a : AE) : AS := fun E ε => match ε[i]? with
  | some (.d (.int x)) => a ε fun d => (match d with | .int y => E.nx (ε.set i (.d (.int (f x y)))) | _ => False)
  | _ => False
theorem as_aug (i : Nat) {f : Int → Int → Int} {te : TE} {a : AE} (ha : AbsE c te a) : AbsS c (tAug i te (ipI f)) (aAug f i a) := by
  intro ε σ G H rl E D' h k
  unfold aAug at h
  split at h
  · rename_i x hx
    obtain ⟨o, ho, v, rfl, rv⟩ := rl.cell i _ hx
    cases rv
    refine ⟨.int x, ho, ?_⟩
    refine ha ε σ G H rl _ _ h fun y dy G1 H1 s1 r1 q1 => ?_
    cases r1 with
    | int z => exact ⟨x, z, rfl, rfl, k.nx _ _ G1 H1 ((rl.step s1).put (x := .d (.int (f x z))) ⟨_, rfl, .int _⟩ rfl) s1.gg q1⟩
    | _ => exact q1.elim
  · exact h.elim
/-- len, an item of a name that may be an own list -/
def aLenV (i : Nat) : AE := fun ε Q => match ε[i]? with | some (.own xs) => Q (.int (xs.length : Nat)) | some (.d d) => fLen [d] Q | _ => False
theorem ae_lenV (i : Nat) : AbsE c (tCB (fun xs H Q => ∃ x n, xs = [x] ∧ LenV K x H n ∧ Q (V.int ↑n) H) (tCons (tVar i) tNil)) (aLenV i) := by
  intro ε σ G H rl Qd Q h q
  unfold aLenV at h
  split at h
  · rename_i xs hx
    obtain ⟨p, vs, h1, h2, h3, h4, h5⟩ := rl.ownAt hx
    refine ⟨.ref p, h1, .ref p, vs.length, rfl, .inl ⟨vs, SqL.of h2, rfl⟩, q _ _ G H (.refl rl.ok) (.int _) ?_⟩
    rw [h3.length]; exact h
  · rename_i d hd
    obtain ⟨o, ho, v, rfl, rv⟩ := rl.cell i _ hd
    exact ⟨v, ho, ac_len G H [v] [d] rl.ok (.one rv) Qd Q h q⟩
  · exact h.elim
def aIxOwn (i : Nat) (b : AE) : AE := fun ε Q => match ε[i]? with
  | some (.own xs) => b ε fun y => fIx (.list xs) y Q
  | some (.d (.list xs)) => b ε fun y => fIx (.list xs) y Q
  | _ => False
theorem ae_ixOwn (i : Nat) {tb : TE} {b : AE} (hb : AbsE c tb b) : AbsE c (tOp (rIxL K) (tVar i) tb) (aIxOwn i b) := by
  intro ε σ G H rl Qd Q h q
  have fin : ∀ (xs : List D) (p : Addr), σ[i]? = some (some (.ref p)) → (∀ G1 H1, Step c G H G1 H1 → ∃ vs, SqL K H1 p vs ∧ RvA K G1 vs xs) → (b ε fun y => fIx (.list xs) y Qd) → tOp (rIxL K) (tVar i) tb σ H Q := fun xs p hp hl h => by
    refine ⟨.ref p, hp, ?_⟩
    refine hb ε σ G H rl _ _ h fun y dy G1 H1 s1 r1 h1 => ?_
    obtain ⟨vs, hS, hA⟩ := hl G1 H1 s1
    cases r1 with
    | int z =>
      unfold fIx at h1
      simp only at h1
      split at h1
      · rename_i d hd
        obtain ⟨v, e1, e2⟩ := at_get hA hd
        exact ⟨p, vs, z, v, rfl, rfl, hS, e1, q _ _ G1 H1 s1 e2 h1⟩
      · exact h1.elim
    | _ => exact h1.elim
  unfold aIxOwn at h
  split at h
  · rename_i xs hx
    obtain ⟨p, vs, h1, h2, h3, h4, h5⟩ := rl.ownAt hx
    refine fin xs p h1 (fun G1 H1 s1 => ⟨vs, SqL.of (s1.hh p _ (nM c h5) h2), h3.mono s1.gg⟩) h
  · rename_i xs hx
    obtain ⟨o, ho, v, rfl, rv⟩ := rl.cell i _ hx
    cases rv with
    | @lst p vs _ hp hA => exact fin xs p ho (fun G1 H1 s1 => ⟨vs, SqL.of (s1.gh _ _ (s1.gg _ _ hp)), hA.mono s1.gg⟩) h
  · exact h.elim
end
/-! ### a list or a tuple is walked -/
def iAny (K : PySem.W.Frag) (tl : TE) : TI := fun σ H R => tl σ H fun x H1 => ∃ a, x = .ref a ∧ (((∃ xs, SqL K H1 a xs) ∧ R (Itl K a) H1) ∨ ((∃ xs, SqT K H1 a xs) ∧ R (Itt K a) H1))
section
variable {X : Cx} {pins : List (Addr × Obj)} {σ : St} {H : Hp} {s : Shared} {tg : Expr} {R : It → Hp → Prop} {a : Addr} {xs : List V}
theorem it_list (J : L2.Inv X pins σ H s) (hs : SqL X.K H a xs) (q : R (Itl X.K a) H) : wpAny (model X.prog X.w) X.A (pyIter (.ref a)) (PIE X pins σ tg R) X.xe s := by
  obtain ⟨us, _, il, _⟩ := J.list hs
  refine wpAny_pyIter_list il.isList ⟨_, [s.heap.objs.size], _, _, H, rfl, J.kept (t' := s.toks) fun b o e => ?_, turn_list a _, ⟨_, Heap.get?_push_size _ rfl, rfl, rfl⟩, fun b hb => ?_, q⟩
  · exact Heap.get?_push_of_some _ e
  · cases List.mem_singleton.mp hb
    exact J.fpOk (Nat.le_refl _) (J.hok.fresh (Nat.le_refl _))
theorem it_tup (J : L2.Inv X pins σ H s) (hs : SqT X.K H a xs) (q : R (Itt X.K a) H) : wpAny (model X.prog X.w) X.A (pyIter (.ref a)) (PIE X pins σ tg R) X.xe s := by
  obtain ⟨us, _, il, _⟩ := J.tuple hs
  refine wpAny_pyIter_tuple (show s.heap.IsTuple a us.toArray from il) ⟨_, [s.heap.objs.size], _, _, H, rfl, J.kept (t' := s.toks) fun b o e => ?_, turn_tuple a _, ⟨_, Heap.get?_push_size _ rfl, rfl, rfl⟩, fun b hb => ?_, q⟩
  · exact Heap.get?_push_of_some _ e
  · cases List.mem_singleton.mp hb
    exact J.fpOk (Nat.le_refl _) (J.hok.fresh (Nat.le_refl _))
theorem pi_any {l : Expr} {tl : TE} (hl : PE X l tl) : PI X tg l (iAny X.K tl) := ⟨fun pins s σ H R I h => thn (hl.run pins s σ H _ I h) fun v s1 ⟨x, H1, I1, r1, b, e, q⟩ => by
  subst e
  cases r1
  rcases q with ⟨⟨xs, hs⟩, q⟩ | ⟨⟨xs, hs⟩, q⟩
  · exact it_list I1 hs q
  · exact it_tup I1 hs q⟩
end
section
variable {K : PySem.W.Frag} {c : Ctx K} {ta : TE} {a : AE}
theorem walk_list {p : Addr} {xs : List V} {ds : List D} {g : Hp} (hp : g p = some (.lst xs)) (hA : RvA K g xs ds) : Walk c (Itl K p) ds g := fun i G H e k => ⟨fun hi => by
    have hS : SqL K H p xs := SqL.of (k.ex _ _ (e _ _ hp))
    have hl : i < xs.length := by rw [hA.length]; exact hi
    refine ⟨⟨xs, xs[i], hS, List.getElem?_eq_getElem hl⟩, fun x H' hy => ?_⟩
    obtain ⟨rfl, hy⟩ := hy
    obtain ⟨d, hd, hr⟩ := (hA.mono e).getV (hy xs hS)
    exact ⟨G, .refl k, d, hd, hr⟩, fun hi => ⟨xs, SqL.of (k.ex _ _ (e _ _ hp)), by rw [hA.length]; exact hi⟩⟩
theorem walk_tup {p : Addr} {xs : List V} {ds : List D} {g : Hp} (hp : SqT K g p xs) (hA : RvA K g xs ds) : Walk c (Itt K p) ds g := fun i G H e k => ⟨fun hi => by
    have hS : SqT K H p xs := k.ex.sqt (e.sqt hp)
    have hl : i < xs.length := by rw [hA.length]; exact hi
    refine ⟨⟨xs, xs[i], hS, List.getElem?_eq_getElem hl⟩, fun x H' hy => ?_⟩
    obtain ⟨rfl, hy⟩ := hy
    obtain ⟨d, hd, hr⟩ := (hA.mono e).getV (hy xs hS)
    exact ⟨G, .refl k, d, hd, hr⟩, fun hi => ⟨xs, k.ex.sqt (e.sqt hp), by rw [hA.length]; exact hi⟩⟩
def aiAny (a : AE) : AI := fun ε Q => a ε fun d => match d with | .list ds => Q ds | .tuple ds => Q ds | _ => False
theorem ai_any (ha : AbsE c ta a) : AbsI c (iAny K ta) (aiAny a) := by
  intro ε σ G H rl Qd R h q
  refine ha ε σ G H rl _ _ h fun x dx G1 H1 s1 r1 h1 => ?_
  have k1 := (rl.step s1).ok
  cases r1 with
  | @lst p xs ds hp hA => exact ⟨p, rfl, .inl ⟨⟨xs, SqL.of (k1.ex _ _ hp)⟩, q _ ds G1 H1 s1 (walk_list hp hA) h1⟩⟩
  | @tup p xs ds hp hA => exact ⟨p, rfl, .inr ⟨⟨xs, k1.ex.sqt hp⟩, q _ ds G1 H1 s1 (walk_tup hp hA) h1⟩⟩
  | _ => exact h1.elim
/-! list(range(n)) -/
def aListRg1 (a : AE) : AE := fun ε Q => a ε fun d => match d with | .int n => 0 ≤ n ∧ n ≤ 1000000 ∧ Q (.list (rngD 0 n.toNat)) | _ => False
theorem rgV_rv {G : Hp} (n : Nat) : RvA K G ((List.range n).map fun (i : Nat) => V.int (0 + (i : Nat))) (rngD 0 n) := by
  unfold rngD
  induction n with
  | zero => exact .nil
  | succ n ih =>
    rw [List.range_succ, List.map_append, List.map_append]
    exact ih.append (.one (.int _))
theorem ae_listRg1 (ha : AbsE c ta a) : AbsE c (tLstRg (tRg1 ta)) (aListRg1 a) := by
  intro ε σ G H rl Qd Q h q
  refine ha ε σ G H rl _ _ h fun x dx G1 H1 s1 r1 h1 => ?_
  cases r1 with
  | int n =>
    obtain ⟨n0, n1, h1⟩ : 0 ≤ n ∧ n ≤ 1000000 ∧ Qd (.list (rngD 0 n.toNat)) := h1
    refine ⟨n, rfl, ⟨by omega, by omega, by omega, by omega, by omega⟩, fun p hp => ?_⟩
    have s2 := Step.new (o := .lst (rgV 0 n)) (rl.step s1).ok hp
    refine q _ _ _ _ (s1.trans s2) (.lst upd_same ?_) h1
    unfold rgV
    rw [Int.sub_zero]
    exact rgV_rv _
  | _ => exact h1.elim
end
/-! ### products -/
def rMulS : R2 := fun x y H Q => ∃ z n, x = V.str z ∧ y = V.int n ∧ 0 ≤ n ∧ n ≤ 1000 ∧ z.length ≤ 1000 ∧ Q (V.str (Txt.mul z n)) H
theorem op_mulS {X : Cx} : OpR X (binaryOp .Mult) rMulS := by
  intro pins s σ H x y v u Q J rx ry ⟨z, n, ex, ey, n0, n1, hz, q⟩
  subst ex ey
  obtain ⟨t, et⟩ := rx
  obtain ⟨t2, et2⟩ := ry
  subst et et2
  exact SB.mul (PyProof.Rows.mulOk_of 1000 1000 hz (by omega) (by omega) (by decide) (by decide)) fun t' k => ⟨.str (Txt.mul z n), H, J.tok _, ⟨_, rfl⟩, q⟩
def rMulP (K : PySem.W.Frag) : R2 := fun x y H Q => rI CMul (fun i j => V.int (i * j)) x y H Q ∨ rMulS x y H Q ∨ rRepT K x y H Q
theorem kMul (K : PySem.W.Frag) {X : Cx} (h : X.K = K := by rfl) : OpR X (binaryOp .Mult) (rMulP K) := fun pins s σ H x y v u Q J rx ry hq => by
  subst h
  rcases hq with hq | hq | hq
  · exact op_mul pins s σ H x y v u Q J rx ry hq
  · exact op_mulS pins s σ H x y v u Q J rx ry hq
  · exact op_repT pins s σ H x y v u Q J rx ry hq
def fMulP : A2 := fun x y Q => match x, y with
  | .int i, .int j => CMul i j ∧ Q (.int (i * j))
  | .str z, .int n => 0 ≤ n ∧ n ≤ 1000 ∧ z.length ≤ 1000 ∧ Q (.str (Txt.mul z n))
  | .tuple xs, .int n => xs ≠ [] ∧ 2 ≤ n ∧ n ≤ 1000 ∧ xs.length ≤ 1000 ∧ Q (.tuple (List.replicate n.toNat xs).flatten)
  | _, _ => False
theorem ar_mulP {K : PySem.W.Frag} {c : Ctx K} : AbsR2 c (rMulP K) fMulP := by
  intro G H x y dx dy k rx ry Qd Q h q
  unfold fMulP at h
  split at h
  · cases rx; cases ry; exact .inl ⟨_, _, rfl, rfl, h.1, q _ _ G H (.refl k) (.int _) h.2⟩
  · cases rx; cases ry; exact .inr (.inl ⟨_, _, rfl, rfl, h.1, h.2.1, h.2.2.1, q _ _ G H (.refl k) (.str _) h.2.2.2⟩)
  · rename_i xs n
    cases ry
    cases rx with
    | @tup p us ds hp hA =>
      obtain ⟨h1, h2, h3, h4, h5⟩ := h
      refine .inr (.inr ⟨p, _, us, rfl, rfl, k.ex.sqt hp, fun e => h1 (by subst e; cases hA; rfl), h2, h3, by rw [hA.length]; exact h4, fun t ht => ?_⟩)
      have s := Step.new (o := .tup (List.replicate n.toNat us).flatten) k ht
      exact q _ _ _ _ s (.tup (SqT.of upd_same) ((hA.flat _).mono s.gg)) h5
  · exact h.elim
/-! ### in, not in -/
section
variable {K : PySem.W.Frag} {c : Ctx K}
def fInS : A2 := fun x y Q => ∃ (k : Nat) (z : Str), x = .str ⟨#[k]⟩ ∧ y = .str z ∧ Q (.bool (decide (k ∈ cl z)))
def fNotInS : A2 := fun x y Q => ∃ (k : Nat) (z : Str), x = .str ⟨#[k]⟩ ∧ y = .str z ∧ Q (.bool (!decide (k ∈ cl z)))
theorem ar_inS : AbsR2 c (fun x y H Q => ∃ (k : Nat) (z : Str), x = .str ⟨#[k]⟩ ∧ y = .str z ∧ Q (.bl (decide (k ∈ z.cps.toList))) H) fInS := by
  intro G H x y dx dy k rx ry Qd Q h q
  obtain ⟨j, z, rfl, rfl, h⟩ := h
  cases rx; cases ry
  exact ⟨j, z, rfl, rfl, q _ _ G H (.refl k) (.bl _) h⟩
theorem ar_notInS : AbsR2 c (fun x y H Q => ∃ (k : Nat) (z : Str), x = .str ⟨#[k]⟩ ∧ y = .str z ∧ Q (.bl (!decide (k ∈ z.cps.toList))) H) fNotInS := by
  intro G H x y dx dy k rx ry Qd Q h q
  obtain ⟨j, z, rfl, rfl, h⟩ := h
  cases rx; cases ry
  exact ⟨j, z, rfl, rfl, q _ _ G H (.refl k) (.bl _) h⟩
def flatD : D → Bool
  | .none => true | .bool _ => true | .int _ => true | .str _ => true | _ => false
def inD (x : D) (xs : List D) : Bool := xs.any fun y => PyData.eqv y x
theorem flat_of {G : Hp} {v : V} {d : D} (r : Rv K G v d) : flatV v = flatD d := by cases r <;> rfl
theorem eqV_of {G : Hp} {v w : V} {d e : D} (r : Rv K G v d) (r' : Rv K G w e) (h : flatD d = true) (h' : flatD e = true) : eqV v w = PyData.eqv d e := by
  cases r <;> cases r' <;> first | (simp [flatD] at h h'; done) | (simp [eqV, PyData.eqv])
theorem all_flat {G : Hp} : ∀ {vs : List V} {ds : List D}, RvA K G vs ds → ds.all flatD = true → vs.all flatV = true
  | _, _, .nil, _ => rfl
  | _, _, .cons h r, e => by
    simp only [List.all_cons, Bool.and_eq_true] at e ⊢
    exact ⟨by rw [flat_of h]; exact e.1, all_flat r e.2⟩
theorem inV_of {G : Hp} {x : V} {dx : D} (rx : Rv K G x dx) (hx : flatD dx = true) : ∀ {vs : List V} {ds : List D}, RvA K G vs ds → ds.all flatD = true → inV x vs = inD dx ds
  | _, _, .nil, _ => rfl
  | _, _, .cons h r, e => by
    simp only [List.all_cons, Bool.and_eq_true] at e
    unfold inV inD
    simp only [List.any_cons]
    rw [eqV_of h rx e.1 hx]
    exact congrArg _ (inV_of rx hx r e.2)
def fInG (neg : Bool) : A2 := fun x y Q => match y with
  | .list xs => flatD x = true ∧ xs.all flatD = true ∧ Q (.bool (if neg then !inD x xs else inD x xs))
  | .tuple xs => flatD x = true ∧ xs.all flatD = true ∧ Q (.bool (if neg then !inD x xs else inD x xs))
  | _ => False
abbrev fIn : A2 := fInG false
abbrev fNotIn : A2 := fInG true
theorem ar_inG {neg : Bool} : AbsR2 c (rIn K neg) (fInG neg) := by
  intro G H x y dx dy k rx ry Qd Q h q
  unfold fInG at h
  split at h
  · obtain ⟨h1, h2, h3⟩ := h
    cases ry with
    | @lst p us ds hp hA =>
      refine ⟨p, us, rfl, .inl (SqL.of (k.ex _ _ hp)), by rw [flat_of rx]; exact h1, all_flat hA h2, ?_⟩
      rw [inV_of rx h1 hA h2]
      exact q _ _ G H (.refl k) (.bl _) h3
  · obtain ⟨h1, h2, h3⟩ := h
    cases ry with
    | @tup p us ds hp hA =>
      refine ⟨p, us, rfl, .inr (k.ex.sqt hp), by rw [flat_of rx]; exact h1, all_flat hA h2, ?_⟩
      rw [inV_of rx h1 hA h2]
      exact q _ _ G H (.refl k) (.bl _) h3
  · exact h.elim
theorem ar_in : AbsR2 c (rIn K false) fIn := ar_inG
theorem ar_notIn : AbsR2 c (rIn K true) fNotIn := ar_inG
/-! isinstance(x, (T, U)) -/
def aIsi2 (T U : String) (a : AE) : AE := fun ε Q => a ε fun d => ∃ b b', kitB (tyD d) T = some b ∧ kitB (tyD d) U = some b' ∧ Q (.bool (b || b'))
theorem ae_isi2 {T U : String} {ta : TE} {a : AE} (ha : AbsE c ta a) : AbsE c (tCB (rIsiT K) (tCons ta (tCons (tTup (tCons (tC (.ty T)) (tCons (tC (.ty U)) tNil))) tNil))) (aIsi2 T U a) := by
  intro ε σ G H rl Qd Q h q
  refine ha ε σ G H rl _ _ h fun x dx G1 H1 s1 r1 h1 => ?_
  obtain ⟨b, b', hb, hb', h1⟩ := h1
  refine ⟨by show 2 ≤ sizeLine; decide, fun p hp => ?_⟩
  have k1 := (rl.step s1).ok
  have s2 := Step.new (o := .tup [.ty T, .ty U]) k1 hp
  refine ⟨x, p, [.ty T, .ty U], _, [.type T, .type U], b || b', rfl, upd_same, .cons (.ty T) (.cons (.ty U) .nil), ty_of (s2.ok k1).ex (r1.mono s2.gg), ?_, q _ _ _ _ (s1.trans s2) (.bl _) h1⟩
  refine kitAny_cons (kit_ty hb) (fun e => ?_) (fun e => by rw [e, Bool.true_or])
  refine kitAny_cons (kit_ty hb') (fun e' => ?_) (fun e' => by rw [e', Bool.or_true])
  rw [e, e']
  rfl
/-! truth of lists ahead of or, and -/
def aAndT (a b : AE) : AE := fun ε Q => a ε fun d => truOk d ∧ if truD d = true then b ε Q else Q d
theorem ae_andT {ta tb : TE} {a b : AE} (ha : AbsE c ta a) (hb : AbsE c tb b) : AbsE c (tAndT K ta tb) (aAndT a b) := by
  intro ε σ G H rl Qd Q h q
  refine ha ε σ G H rl _ _ h fun x dx G1 H1 s1 r1 h1 => ⟨truD dx, tru_of (rl.step s1).ok.ex r1 h1.1, ?_⟩
  have h2 := h1.2
  cases e : truD dx with
  | false => rw [e, if_neg Bool.false_ne_true] at h2; exact iteF (q _ _ G1 H1 s1 r1 h2)
  | true => rw [e, if_pos rfl] at h2; exact iteT (hb ε σ G1 H1 (rl.step s1) _ _ h2 fun v d G2 H2 s2 r2 h2 => q v d G2 H2 (s1.trans s2) r2 h2)
/-! reversed by a slice -/
def aRevL (a : AE) : AE := fun ε Q => a ε fun d => match d with | .list xs => Q (.list xs.reverse) | _ => False
theorem ae_revL {ta : TE} {a : AE} (ha : AbsE c ta a) : AbsE c (tRevL K ta) (aRevL a) := by
  intro ε σ G H rl Qd Q h q
  refine ha ε σ G H rl _ _ h fun x dx G1 H1 s1 r1 h1 => ?_
  cases r1 with
  | @lst p us ds hp hA =>
    refine ⟨p, us, rfl, SqL.of ((rl.step s1).ok.ex _ _ hp), fun t ht => ?_⟩
    have s2 := Step.new (o := .lst us.reverse) (rl.step s1).ok ht
    exact q _ _ _ _ (s1.trans s2) (.lst upd_same (hA.reverse.mono s2.gg)) h1
  | _ => exact h1.elim
/-! tuples of ints in order -/
def fLtT : A2 := fun x y Q => ∃ ns ms : List Int, x = .tuple (ns.map PyData.int) ∧ y = .tuple (ms.map PyData.int) ∧ Q (.bool (HT.lexLt ns ms))
theorem ar_ltT : AbsR2 c (rLtT K) fLtT := by
  intro G H x y dx dy k rx ry Qd Q h q
  obtain ⟨ns, ms, rfl, rfl, h⟩ := h
  cases rx with
  | @tup p us _ hp hA =>
    cases ry with
    | @tup p2 us2 _ hp2 hA2 =>
      have e := hA.ints
      have e2 := hA2.ints
      subst e e2
      exact ⟨p, p2, ns, ms, rfl, rfl, k.ex.sqt hp, k.ex.sqt hp2, q _ _ G H (.refl k) (.bl _) h⟩
end
end Fc

namespace Fc
open PySem L2
/-! ### more small words of readings -/
section
variable {Q : D → Prop} {a b e : D} {r : List D}
theorem atI_nat' {α : Type} {xs : List α} {i : Nat} {x : α} (h : xs[i]? = some x) : atI xs (i : Int) = some x := atI_nat h
theorem ixt0 : fIx (.tuple (a :: r)) (.int 0) Q = Q a := by
  have e : atI (a :: r) 0 = some a := atI_nat' (i := 0) rfl
  unfold fIx
  simp only [e]
theorem ixt1 : fIx (.tuple (a :: b :: r)) (.int 1) Q = Q b := by
  have e : atI (a :: b :: r) 1 = some b := atI_nat' (i := 1) rfl
  unfold fIx
  simp only [e]
theorem ixt2 : fIx (.tuple (a :: b :: e :: r)) (.int 2) Q = Q e := by
  have e : atI (a :: b :: e :: r) 2 = some e := atI_nat' (i := 2) rfl
  unfold fIx
  simp only [e]
theorem ixl0 : fIx (.list (a :: r)) (.int 0) Q = Q a := by
  have e : atI (a :: r) 0 = some a := atI_nat' (i := 0) rfl
  unfold fIx
  simp only [e]
theorem ixl1 : fIx (.list (a :: b :: r)) (.int 1) Q = Q b := by
  have e : atI (a :: b :: r) 1 = some b := atI_nat' (i := 1) rfl
  unfold fIx
  simp only [e]
theorem ix_nat {xs : List D} {i : Nat} {d : D} (h : xs[i]? = some d) (q : Q d) : fIx (.tuple xs) (.int (i : Int)) Q := by
  have e := atI_nat' h
  unfold fIx
  simp only [e]; exact q
theorem ixl_nat {xs : List D} {i : Nat} {d : D} (h : xs[i]? = some d) (q : Q d) : fIx (.list xs) (.int (i : Int)) Q := by
  have e := atI_nat' h
  unfold fIx
  simp only [e]; exact q
theorem ix_map {α : Type} {xs : List α} {f : α → D} {i : Nat} {x : α} (h : xs[i]? = some x) (q : Q (f x)) : fIx (.tuple (xs.map f)) (.int (i : Int)) Q := ix_nat (d := f x) (by rw [List.getElem?_map, h]; rfl) q
theorem ixl_map {α : Type} {xs : List α} {f : α → D} {i : Nat} {x : α} (h : xs[i]? = some x) (q : Q (f x)) : fIx (.list (xs.map f)) (.int (i : Int)) Q := ixl_nat (d := f x) (by rw [List.getElem?_map, h]; rfl) q
theorem ixl_last {xs : List D} {d : D} (h : xs.getLast? = some d) (q : Q d) : fIx (.list xs) (.int (-1)) Q := by
  unfold fIx
  have hn : xs ≠ [] := fun z => by rw [z] at h; cases h
  have hl : 0 < xs.length := List.length_pos_iff.mpr hn
  have e : atI xs (-1) = some d := by
    unfold atI ixN
    rw [if_neg (by omega), if_pos (by omega)]
    show xs[((-1 : Int) + (xs.length : Int)).toNat]? = some d
    rw [List.getLast?_eq_getElem?] at h
    rw [show ((-1 : Int) + (xs.length : Int)).toNat = xs.length - 1 by omega]
    exact h
  simp only [e]; exact q
/-- == and != of two ints, two texts -/
theorem eq_int {i j : Int} : fEq (.int i) (.int j) Q ↔ Q (.bool (decide (i = j))) := by
  constructor
  · rintro (⟨_, h⟩ | ⟨_, _, h⟩)
    · exact h
    · simp only [PyData.eqv] at h
      have e : (i == j) = decide (i = j) := rfl
      rwa [e] at h
  · intro h; exact .inl ⟨rfl, h⟩
theorem ne_int {i j : Int} : fNe (.int i) (.int j) Q ↔ Q (.bool (!decide (i = j))) := by
  constructor
  · rintro (⟨_, h⟩ | ⟨_, _, h⟩)
    · exact h
    · simp only [PyData.eqv] at h
      have e : (i == j) = decide (i = j) := rfl
      rwa [e] at h
  · intro h; exact .inl ⟨rfl, h⟩
theorem eq_str {i j : Str} (h : Q (.bool (decide (i = j)))) : fEq (.str i) (.str j) Q := .inl ⟨rfl, h⟩
theorem ne_str {i j : Str} (h : Q (.bool (!decide (i = j)))) : fNe (.str i) (.str j) Q := .inl ⟨rfl, h⟩
theorem ne_same {n : Nat} {d : D} (h : Sh n d) (hn : n ≤ 64) (q : Q (.bool false)) : fNe d d Q := by
  refine .inr ⟨h.shaped hn, h.shaped hn, ?_⟩
  rw [eqv_self h.lay]; exact q
theorem eq_same {n : Nat} {d : D} (h : Sh n d) (hn : n ≤ 64) (q : Q (.bool true)) : fEq d d Q := by
  refine .inr ⟨h.shaped hn, h.shaped hn, ?_⟩
  rw [eqv_self h.lay]; exact q
end
theorem rng_at {n i : Nat} {d : D} (h : (rngD 0 n)[i]? = some d) : i < n ∧ d = .int (i : Int) := by
  have hl := (List.getElem?_eq_some_iff.mp h).1
  rw [rngD_len] at hl
  rw [rngD_get hl, Int.zero_add] at h
  exact ⟨hl, (Option.some.inj h).symm⟩
theorem kb_tuple : kitB "tuple" "tuple" = some true := by decide +kernel
theorem kb_int : kitB "int" "int" = some true := by decide +kernel
theorem kb_intb : kitB "int" "bool" = some false := by decide +kernel
theorem kb_bb : kitB "bool" "bool" = some true := by decide +kernel
/-- _law_whole -/
def wholeD : D → Bool | .int _ => true | _ => false
def ds_law_whole : Ds := fun ds Q => ∃ d, ds = [d] ∧ (∀ x, d ≠ .dict x) ∧ Q (.bool (wholeD d))
theorem len_law_whole : ∀ ds Qd, ds_law_whole ds Qd → ds.length = 1 := by rintro ds Qd ⟨d, rfl, _⟩; rfl
theorem whole_eq {d : D} {Q : D → Prop} : ds_law_whole [d] Q ↔ ((∀ x, d ≠ .dict x) ∧ Q (.bool (wholeD d))) := by
  constructor
  · rintro ⟨e, h, h2⟩; cases h; exact h2
  · intro h; exact ⟨d, rfl, h⟩
theorem kit_whole : ∀ d : D, (∀ x, d ≠ .dict x) → ∃ b b', kitB (tyD d) "int" = some b ∧ kitB (tyD d) "bool" = some b' ∧ (b && !b') = wholeD d
  | .none, _ => ⟨false, false, by decide +kernel, by decide +kernel, rfl⟩
  | .bool _, _ => ⟨true, true, (show kitB "bool" "int" = some true by decide +kernel), (show kitB "bool" "bool" = some true by decide +kernel), rfl⟩
  | .int _, _ => ⟨true, false, (show kitB "int" "int" = some true by decide +kernel), (show kitB "int" "bool" = some false by decide +kernel), rfl⟩
  | .str _, _ => ⟨false, false, (show kitB "str" "int" = some false by decide +kernel), (show kitB "str" "bool" = some false by decide +kernel), rfl⟩
  | .list _, _ => ⟨false, false, (show kitB "list" "int" = some false by decide +kernel), (show kitB "list" "bool" = some false by decide +kernel), rfl⟩
  | .tuple _, _ => ⟨false, false, (show kitB "tuple" "int" = some false by decide +kernel), (show kitB "tuple" "bool" = some false by decide +kernel), rfl⟩
  | .dict x, h => (h x rfl).elim
/-! ### slips -/
abbrev Slips := List (Nat × Str)
def slipsD (sl : Slips) : D := .tuple (sl.map fun p => PyData.tuple [.int (p.1 : Int), .str p.2])
def numsD (rs : List Nat) : List D := rs.map fun n : Nat => PyData.int (n : Int)
theorem rngD_nums (n : Nat) : rngD 0 n = numsD (List.range n) := by
  unfold rngD numsD
  apply List.map_congr_left
  intro i _
  rw [Int.zero_add]
def readsL (body : List Str) (sl : Slips) (rs : List Nat) : List Str := rs.foldl (fun acc r => match sl[r]? with | some p => acc.set p.1 p.2 | none => acc) body
theorem readsL_len (body : List Str) (sl : Slips) (rs : List Nat) : (readsL body sl rs).length = body.length := by
  unfold readsL
  induction rs generalizing body with
  | nil => rfl
  | cons r t ih =>
    rw [List.foldl_cons, ih]
    split
    · rw [List.length_set]
    · rfl
/-- the lines that slips put right tell of line k -/
def toldL (sl : Slips) (rs : List Nat) (k : Nat) : List Str := rs.filterMap fun r => match sl[r]? with | some p => if p.1 = k then some p.2 else none | none => none
theorem readsL_get (body : List Str) (sl : Slips) (rs : List Nat) (k : Nat) (hk : k < body.length) : (readsL body sl rs)[k]? = some ((toldL sl rs k).getLast?.getD (body[k]'hk)) := by
  induction rs generalizing body with
  | nil => show body[k]? = _; rw [List.getElem?_eq_getElem hk]; rfl
  | cons r t ih =>
    unfold readsL toldL
    rw [List.foldl_cons, List.filterMap_cons]
    cases hr : sl[r]? with
    | none => simp only; exact ih body hk
    | some p =>
      simp only
      have h2 := ih (body.set p.1 p.2) (by rw [List.length_set]; exact hk)
      unfold readsL toldL at h2
      rw [h2]
      by_cases e : p.1 = k
      · simp only [e, if_true]
        congr 1
        rw [List.getElem_set]
        simp only [e, if_true]
        generalize (List.filterMap _ t) = m
        cases m with
        | nil => rfl
        | cons x y => rw [List.getLast?_cons_cons, List.getLast?_eq_some_getLast (List.cons_ne_nil x y)]; rfl
      · simp only [e, if_false]
        congr 2
        rw [List.getElem_set, if_neg e]
def lawReads (body : List Str) (sl : Slips) (rs : List Nat) : List Str := (List.range body.length).map fun k => (toldL sl rs k).getLast?.getD (body.getD k ⟨#[]⟩)
theorem reads_same (body : List Str) (sl : Slips) (rs : List Nat) : readsL body sl rs = lawReads body sl rs := by
  apply List.ext_getElem?
  intro k
  by_cases hk : k < body.length
  · rw [readsL_get body sl rs k hk]
    unfold lawReads
    rw [List.getElem?_map, List.getElem?_range hk]
    simp only [Option.map_some]
    rw [List.getD_eq_getElem?_getD, List.getElem?_eq_getElem hk]
    rfl
  · rw [List.getElem?_eq_none (by rw [readsL_len]; omega), List.getElem?_eq_none (by unfold lawReads; rw [List.length_map, List.length_range]; omega)]
structure SlipsOk (n : Nat) (sl : Slips) : Prop where
  lt : ∀ p ∈ sl, p.1 < n
  ln : ∀ p ∈ sl, LineS p.2
theorem toldL_mem {sl : Slips} {rs : List Nat} {k : Nat} {x : Str} (h : x ∈ toldL sl rs k) : ∃ p ∈ sl, p.2 = x := by
  unfold toldL at h
  obtain ⟨r, _, hr⟩ := List.mem_filterMap.mp h
  split at hr
  · rename_i p hp
    split at hr
    · cases hr; exact ⟨p, List.mem_of_getElem? hp, rfl⟩
    · cases hr
  · cases hr
theorem readsL_line {body : List Str} {sl : Slips} {rs : List Nat} (hb : ∀ x ∈ body, LineS x) (hs : ∀ p ∈ sl, LineS p.2) : ∀ x ∈ readsL body sl rs, LineS x := by
  unfold readsL
  induction rs generalizing body with
  | nil => exact hb
  | cons r t ih =>
    rw [List.foldl_cons]
    refine ih ?_
    split
    · rename_i p hp
      intro x hx
      rcases List.mem_or_eq_of_mem_set hx with hx | rfl
      · exact hb x hx
      · exact hs p (List.mem_of_getElem? hp)
    · exact hb
theorem Sh.body {n : Nat} {xs : List Str} (h : ∀ x ∈ xs, LineS x) : Sh (n + 1) (bodyD xs) := .strs fun x hx => (h x hx).ok
/-- a word of numbers: a tuple or a list -/
def NumsIs (d : D) (rs : List Nat) : Prop := d = .tuple (numsD rs) ∨ d = .list (numsD rs)
def ds_reads : Ds := fun ds Q => ∃ (body : List Str) (sl : Slips) (d : D) (rs : List Nat), ds = [bodyD body, slipsD sl, d] ∧ NumsIs d rs ∧ (∀ r ∈ rs, r < sl.length) ∧ SlipsOk body.length sl ∧ Q (bodyD (readsL body sl rs))
theorem len_reads : ∀ ds Qd, ds_reads ds Qd → ds.length = 3 := by rintro ds Qd ⟨_, _, _, _, rfl, _⟩; rfl
def ds_law_reads : Ds := fun ds Q => ∃ (body : List Str) (sl : Slips) (d : D) (rs : List Nat), ds = [bodyD body, slipsD sl, d] ∧ body.length ≤ 1000 ∧ rs.length ≤ 1000 ∧ NumsIs d rs ∧ (∀ r ∈ rs, r < sl.length) ∧ Q (bodyD (lawReads body sl rs))
theorem len_law_reads : ∀ ds Qd, ds_law_reads ds Qd → ds.length = 3 := by rintro ds Qd ⟨_, _, _, _, rfl, _⟩; rfl
def ds_law_slipped : Ds := fun ds Q => ∃ (n : Nat) (m : Int), ds = [.int (n : Int), .int m] ∧ n ≤ 1000 ∧ 0 ≤ m ∧ m ≤ 1000 ∧ ∀ sl : Slips, SlipsOk n sl → (sl.length : Int) ≤ m → Q (slipsD sl)
theorem len_law_slipped : ∀ ds Qd, ds_law_slipped ds Qd → ds.length + 1 = 3 := by rintro ds Qd ⟨_, _, rfl, _⟩; rfl
def ds_law_rights : Ds := fun ds Q => ∃ (sl : Slips) (m : Int), ds = [slipsD sl, .int m] ∧ sl.length ≤ 1000 ∧ 0 < m ∧ m ≤ 1000 ∧ ∀ rs : List Nat, rs.Pairwise (· < ·) → (∀ r ∈ rs, r < sl.length) → rs.length ≤ sl.length → Q (.tuple (numsD rs))
theorem len_law_rights : ∀ ds Qd, ds_law_rights ds Qd → ds.length + 1 = 3 := by rintro ds Qd ⟨_, _, rfl, _⟩; rfl
end Fc
namespace Fc
theorem ite_no {c A B : Prop} [Decidable c] (h : ¬ c) (b : B) : if c then A else B := by rw [if_neg h]; exact b
theorem ite_yes {c A B : Prop} [Decidable c] (h : c) (a : A) : if c then A else B := by rw [if_pos h]; exact a
end Fc
namespace Fc
open PySem L2
theorem spT_never {P : Program} {w : World} {K : PySem.W.Frag} {mg : Str → Option Value} {base : Heap} {CX : CXT} {k : Nat} {f : Addr} {fd : FuncData} {ps : List Str} : FnOk P w K mg base CX k f fd ps (spT K fun _ _ => False) :=
  ⟨fun _ _ _ _ h => by obtain ⟨_, _, _, _, _, _, _, _, _, _, _, _, _, h, _⟩ := h; exact h.elim, fun _ _ _ _ _ _ _ _ _ _ _ _ _ h => by obtain ⟨_, _, _, _, _, _, _, _, _, _, _, _, _, h, _⟩ := h; exact h.elim⟩
theorem spP_never {P : Program} {w : World} {K : PySem.W.Frag} {mg : Str → Option Value} {base : Heap} {CX : CXT} {k : Nat} {f : Addr} {fd : FuncData} {ps : List Str} : FnOk P w K mg base CX k f fd ps (spP K fun _ _ => False) :=
  ⟨fun _ _ _ _ h => by obtain ⟨_, _, _, _, _, h, _⟩ := h; exact h.elim, fun _ _ _ _ _ _ _ _ _ _ _ _ _ h => by obtain ⟨_, _, _, _, _, h, _⟩ := h; exact h.elim⟩
end Fc

namespace Fc
open PySem L2
/-! ### enumerate(t), t a tuple -/
theorem enumT_new (t : Addr) (its : Array Value) (n : Nat) (dd : Option Addr) (sl : Array (Option Value)) :
    Meets (Builtin.«enumerate.__new__» ⟨[.type "enumerate", .ref t], []⟩) (fun _ R s => s.heap.get? t = some ⟨.type "tuple", dd, .seq its n, sl⟩ ∧
      R (.ok (.ret (.ref (s.heap.push { cls := .type "tuple_iterator", data := .fields #[.ref t, .int 0 0] }).objs.size))) { s with heap := (s.heap.push { cls := .type "tuple_iterator", data := .fields #[.ref t, .int 0 0] }).push { cls := .type "enumerate", data := .fields #[.none, .bool false, .ref s.heap.objs.size, rawInt 0, .none, .none] } }) :=
  .of_wp fun prog w A R s h0 => by
    obtain ⟨hp, g, d, tk, os⟩ := s
    obtain ⟨ht, h⟩ := h0
    have hsub := sub_enumerate
    have hT : Heap.IsTuple (Shared.heap ⟨hp, g, d, tk, os⟩) t its := ⟨_, ht, rfl, n, rfl⟩
    wp_walk using AutoSeq1.wpAny_loadPart' ht
    refine wpAny_stack_any fun st => wpAny_pure ?_
    split
    · rename_i c _ _ _ _ _
      cases (c == Value.type "enumerate") <;> (wp_walk using AutoSeq1.wpAny_loadPart' ht, wpAny_pyIter_tuple hT; exact ⟨_, rfl, h⟩)
    · wp_walk using AutoSeq1.wpAny_loadPart' ht, wpAny_pyIter_tuple hT
      exact ⟨_, rfl, h⟩
theorem call_enumT {prog : Program} {w : World} {A : Around} {E : Value → Shared → Prop} {s : Shared} {t : Addr} {its : Array Value} {Q : Value → Shared → Prop} (ht : s.heap.IsTuple t its)
    (q : ∀ h', IsEnum h' (s.heap.objs.size + 1) s.heap.objs.size 0 .none → h'.IsTupleIter s.heap.objs.size t 0 → (∀ b o, s.heap.get? b = some o → h'.get? b = some o) → Q (.ref (s.heap.objs.size + 1)) { s with heap := h' }) :
    wpAny (model prog w) A (call (.type "enumerate") [.ref t]) Q E s := by
  obtain ⟨⟨c, dd, dt, sl⟩, hl, hc, n, hd⟩ := ht
  cases (show c = .type "tuple" from hc)
  cases (show dt = .seq its n from hd)
  refine callType_new F.called_enumerate (by decide) (F.typeCall_enumerate_1 _) (F.newCall_enumerate_1 _) (fun obj => F.args_object_init_2 obj _) F.entry_enumerate_new (enumT_new t its n dd sl) ⟨hl, ?_⟩
  generalize eo : (⟨.type "tuple_iterator", none, .fields #[.ref t, .int 0 0], #[]⟩ : Obj) = oi
  have fr : oi.isFreed = false := by rw [← eo]; rfl
  have hz : (s.heap.push oi).objs.size = s.heap.objs.size + 1 := Heap.size_push ..
  show _ ∧ _
  rw [hz]
  have he : IsEnum ((s.heap.push oi).push { cls := .type "enumerate", data := .fields #[.none, .bool false, .ref s.heap.objs.size, rawInt 0, .none, .none] }) (s.heap.objs.size + 1) s.heap.objs.size 0 .none := by
    have g := Heap.get?_push_size (s.heap.push oi) (o := { cls := .type "enumerate", data := .fields #[.none, .bool false, .ref s.heap.objs.size, rawInt 0, .none, .none] }) rfl
    rw [hz] at g
    exact g
  refine ⟨⟨_, he, rfl⟩, q _ he ⟨oi, Heap.get?_push_of_some _ (Heap.get?_push_size _ fr), by rw [← eo], by rw [← eo]; rfl⟩ fun b o x => Heap.get?_push_of_some _ (Heap.get?_push_of_some _ x)⟩
def IteT (K : PySem.W.Frag) (a : Addr) : It :=
  ⟨fun i H => ∃ (xs : List V) (x : V), SqT K H a xs ∧ xs[i]? = some x,
   fun i H v H' => ∃ T x, v = .ref T ∧ H T = none ∧ H' = upd H T (.tup [.int (i : Nat), x]) ∧ ∀ xs, SqT K H a xs → xs[i]? = some x,
   fun i H => ∃ xs : List V, SqT K H a xs ∧ xs.length ≤ i⟩
theorem turn_enumT {P : Program} {w : World} {K : PySem.W.Frag} {elts : List Expr} {kk : Nat} {tpos : Pos} (a e it : Addr) (hei : e ≠ it) (hai : a ≠ it) (hea : e ≠ a) :
    Turn P w K (.Tuple elts kk tpos) (IteT K a) [e, it] e (fun i h => (∃ old, IsEnum h e it ((i : Nat) : Int) old) ∧ h.IsTupleIter it a i) where
  mem := List.mem_cons_self ..
  obj := fun i h st b hb => by
    obtain ⟨⟨old, he⟩, o, ho, hc, hd⟩ := st
    rcases List.mem_cons.mp hb with rfl | hb
    · exact ⟨_, he, fun v q => nomatch q⟩
    · cases List.mem_singleton.mp hb
      exact ⟨o, ho, fun v q => by rw [hd] at q; cases q⟩
  keep := fun i h h' st k => by
    obtain ⟨⟨old, he⟩, o, ho, r⟩ := st
    exact ⟨⟨old, k e (List.mem_cons_self ..) _ he⟩, o, k it (List.mem_cons_of_mem _ (List.mem_singleton.mpr rfl)) _ ho, r⟩
  item := by
    intro X hP hw hK hc i pins s σ H E J hf st hg
    subst hP hw hK
    obtain ⟨⟨old, he⟩, hit⟩ := st
    obtain ⟨xs, x, hq, hx⟩ := hg
    obtain ⟨us, rv, p, hz⟩ := J.tuple hq
    obtain ⟨u, hu, ru⟩ := rv.get hx
    have hel : e < s.heap.objs.size := Heap.lt_size he
    have hil : it < s.heap.objs.size := by obtain ⟨_, q, _⟩ := hit; exact Heap.lt_size q
    have Dr := Draws.tuple (prog := X.prog) (w := X.w) (A := X.A.in1) (J.ok.hd hc) it a hai us.toArray
    have hlt : i < us.toArray.size := by
      have := (List.getElem?_eq_some_iff.mp hu).1
      rw [List.size_toArray]; exact this
    refine wpAny_pyNext_enum_itemD Dr he ⟨hit, p⟩ hlt hei (fun z => ?_) fun y h' tk hy ho hst hT hsz hk => ?_
    · rcases List.mem_cons.mp z with z | z
      · exact hei z
      · exact hea (List.mem_singleton.mp z)
    have ey : y = u := by
      rw [List.getElem?_toArray, hu] at hy
      exact (Option.some.inj hy).symm
    subst ey
    refine ⟨_, rfl, wpAny_letOwnedTupleGo_enum (s := { s with heap := h', toks := tk + 1 }) ho fun h'' he' sb => ?_⟩
    have hT2 : h''.get? s.heap.objs.size = some { cls := .type "tuple", data := .seq #[.int i tk, y] } := (sb.2 _ (Nat.ne_of_gt hel)).trans hT
    have new : ObjOk X.prog X.w (upd H s.heap.objs.size (.tup [.int (i : Nat), x])) h'' s.heap.objs.size (.tup [.int (i : Nat), x]) := ⟨by show 2 ≤ sizeLine; decide, [.int i tk, y], .cons ⟨_, rfl⟩ (.cons ru .nil), ⟨_, hT2, rfl, _, rfl⟩⟩
    have ch : ∀ b, b ∉ ([e, it] : List Addr) → b ≠ e ∧ b ≠ it := fun b hb => ⟨fun z => hb (by simp [z]), fun z => hb (by simp [z])⟩
    have J1 := J.turnedNew (t' := tk + 1) (ch := [e, it]) (fun b ob hb q => (sb.2 b (ch b hb).1).trans (hk b ob (ch b hb).1 (ch b hb).2 q)) hf (Nat.le_refl _) new
    refine ⟨.ref s.heap.objs.size, _, J1, rfl, ⟨_, x, rfl, J.hok.fresh (Nat.le_refl _), rfl, fun ys hy' => by rw [J.tuple_inj hy' hq]; exact hx⟩, ⟨⟨y, ?_⟩, ?_⟩, fun b hb => ?_⟩
    · have e1 : ((i + 1 : Nat) : Int) = (i : Int) + 1 := by omega
      rw [e1]; exact he'
    · obtain ⟨⟨o, ho', r⟩, _⟩ := hst
      exact ⟨o, (sb.2 it hei.symm).trans ho', r⟩
    · have hlt' : b < s.heap.objs.size := by
        rcases List.mem_cons.mp hb with z | z
        · rw [z]; exact hel
        · rw [List.mem_singleton.mp z]; exact hil
      rw [upd_ne (Nat.ne_of_lt hlt')]
      exact (hf b hb).1
  done := by
    intro X hP hw hK hc i pins s σ H E J hf st hg
    subst hP hw hK
    obtain ⟨⟨old, he⟩, hit⟩ := st
    obtain ⟨xs, hq, hx⟩ := hg
    obtain ⟨us, rv, p, hz⟩ := J.tuple hq
    obtain ⟨f0, f1, f2, f3, f4, f5⟩ := hf it (List.mem_cons_of_mem _ (List.mem_singleton.mpr rfl))
    have Dr : Draws X.prog X.w X.A.in1 it [it, a] i (fun _ _ => True) (fun j h => h.IsTupleIter it a i ∧ h.IsTuple a us.toArray ∧ j = i) := {
      live := fun _ _ st => let ⟨o, ho, _⟩ := st.1; ⟨o, ho⟩
      frame := fun _ _ _ st hk => ⟨st.1.at fun o e => hk it (by simp) o e, st.2.1.at fun o e => hk a (by simp) o e, st.2.2⟩
      item := fun j s Q E hi st hQ => absurd hi (by rw [st.2.2]; exact Nat.lt_irrefl _)
      done := fun s Q E st hE => wpAny_nextOf_tuple_end (J.ok.hd hc) st.1 st.2.1 (by rw [List.getElem?_toArray]; exact List.getElem?_eq_none (by rw [← rv.length]; exact hx)) hE }
    exact wpAny_pyNext_enum_endD Dr he ⟨hit, p, rfl⟩ fun h' eb => ⟨rfl, J.turned (t' := s.toks) (fun b o hb q => eb b o hb q) f0 f1 f3 f4 f5⟩
  self := fun A i s Q E st h => by
    obtain ⟨⟨_, he⟩, _⟩ := st
    exact wpAny_pyIter_enum he h
def iEnumT (K : PySem.W.Frag) (ta : TA) : TI := fun σ H R => ta σ H fun vs H1 => ∃ a xs, vs = [.ref a] ∧ SqT K H1 a xs ∧ R (IteT K a) H1
theorem pi_enumT {X : Cx} {e : Expr} {ta : TA} {p pos tpos : Pos} {elts : List Expr} {kk : Nat} (hg : Gl X "enumerate") (hm : X.mg "enumerate" = none) (ha : PA X [e] ta) (hs : starEach [e] X.env = [(false, eval e X.env)] := by rfl) :
    PI X (.Tuple elts kk tpos) (.Call (.Name "enumerate" p) [e] [] pos) (iEnumT X.K ta) := ⟨fun pins s σ H R J h => by
  refine PyProof.Rows.Call_ (ld_blt J hg hm PyProof.Rows.boot_enumerate (PyProof.Rows.callWith_type1 (thn (ha.run pos pins s σ H _ J h) fun us s1 ⟨vs, H1, J1, r1, a, xs, ex, hq, q⟩ => ?_) hs rfl))
  subst ex
  cases r1 with
  | cons r rr =>
    cases rr
    cases r
    obtain ⟨ws, rv, p', hz⟩ := J1.tuple hq
    have hal : a < s1.heap.objs.size := by obtain ⟨o, ho, _⟩ := p'; exact Heap.lt_size ho
    refine call_enumT (show s1.heap.IsTuple a ws.toArray from p') fun h' he hit hk => wpAny_pyIter_enum he ?_
    have J2 : L2.Inv X pins σ H1 { s1 with heap := h' } := J1.kept (t' := s1.toks) hk
    refine ⟨s1.heap.objs.size + 1, [s1.heap.objs.size + 1, s1.heap.objs.size], _, _, H1, rfl, J2, turn_enumT a (s1.heap.objs.size + 1) s1.heap.objs.size (Nat.succ_ne_self _) (Nat.ne_of_lt hal) (Nat.ne_of_gt (Nat.lt_succ_of_lt hal)), ⟨⟨.none, he⟩, hit⟩, fun b hb => ?_, q⟩
    have hle : s1.heap.objs.size ≤ b := by
      rcases List.mem_cons.mp hb with z | z
      · rw [z]; exact Nat.le_succ _
      · rw [List.mem_singleton.mp z]; exact Nat.le_refl _
    exact J1.fpOk hle (J1.hok.fresh hle)⟩
section
variable {K : PySem.W.Frag} {c : Ctx K}
def enumD (xs : List D) : List D := xs.mapIdx fun i x => PyData.tuple [.int (i : Int), x]
def aiEnumT (r : AA) : AI := fun ε Q => r ε fun ds => match ds with | [.tuple xs] => Q (enumD xs) | _ => False
theorem ai_enumT {tr : TA} {ar : AA} (hr : AbsA c tr ar) : AbsI c (iEnumT K tr) (aiEnumT ar) := by
  intro ε σ G H rl Qd R h q
  refine hr ε σ G H rl _ _ h fun vs ds G1 H1 s1 r1 h1 => ?_
  split at h1
  · rename_i xs
    cases r1 with
    | cons a b =>
      cases b
      cases a with
      | @tup p us _ hp hA =>
        have k1 := (rl.step s1).ok
        refine ⟨p, us, rfl, k1.ex.sqt hp, q (IteT K p) _ G1 H1 s1 (fun i G2 H2 e k2 => ?_) h1⟩
        have hS : SqT K H2 p us := k2.ex.sqt (e.sqt hp)
        unfold enumD
        rw [List.length_mapIdx]
        refine ⟨fun hi => ?_, fun hi => ⟨us, hS, by rw [hA.length]; exact hi⟩⟩
        have hl : i < us.length := by rw [hA.length]; exact hi
        refine ⟨⟨us, us[i], hS, List.getElem?_eq_getElem hl⟩, fun x H' hy => ?_⟩
        obtain ⟨T, y, rfl, hT, rfl, hy⟩ := hy
        obtain ⟨d, hd, hr⟩ := (hA.mono e).getV (hy us hS)
        have s3 := Step.new (o := .tup [.int (i : Nat), y]) k2 hT
        refine ⟨_, s3, _, ?_, .tup (SqT.of upd_same) (.cons (.int _) (.cons (hr.mono s3.gg) .nil))⟩
        rw [List.getElem?_mapIdx, hd]; rfl
  · exact h1.elim
theorem enum_at {xs : List D} {i : Nat} {d : D} (h : (enumD xs)[i]? = some d) : ∃ x, xs[i]? = some x ∧ d = .tuple [.int (i : Int), x] := by
  unfold enumD at h
  rw [List.getElem?_mapIdx] at h
  cases hx : xs[i]? with
  | none => rw [hx] at h; cases h
  | some x => rw [hx] at h; exact ⟨x, rfl, (Option.some.inj h).symm⟩
theorem enumD_len (xs : List D) : (enumD xs).length = xs.length := by unfold enumD; rw [List.length_mapIdx]
end
/-! ### own dicts -/
def putD (kds : List (Key × D)) (k : Key) (v : D) : List (Key × D) :=
  if (kds.any fun kv => decide (kv.1 = k)) = true then kds.map (fun kv => if kv.1 = k then (kv.1, v) else kv) else kds ++ [(k, v)]
def getD' (kds : List (Key × D)) (k : Key) : Option D := (kds.find? fun kv => decide (kv.1 = k)).map (·.2)
theorem keyOf_inj {a b : Key} (h : kD a = kD b) : a = b := by
  cases a <;> cases b <;> simp [kD] at h <;> rw [h]
section
variable {K : PySem.W.Frag} {G : Hp}
theorem RvK.cases {kvs : List (Key × V)} {kds : List (Key × D)} (h : RvK K G kvs kds) : (kvs = [] ∧ kds = []) ∨ ∃ k v d r s, kvs = (k, v) :: r ∧ kds = (k, d) :: s ∧ Rv K G v d ∧ RvK K G r s := by
  obtain ⟨h1, h2⟩ := h
  cases kvs with
  | nil =>
    cases kds with
    | nil => exact .inl ⟨rfl, rfl⟩
    | cons a b => cases h1
  | cons a r =>
    cases kds with
    | nil => cases h1
    | cons b s =>
      obtain ⟨k, v⟩ := a
      obtain ⟨k', d⟩ := b
      simp only [List.map_cons, List.cons.injEq] at h1
      obtain ⟨rfl, h1⟩ := h1
      cases h2 with
      | cons hv hr => exact .inr ⟨k, v, d, r, s, rfl, rfl, hv, h1, hr⟩
theorem RvK.nil : RvK K G [] [] := ⟨rfl, .nil⟩
theorem RvK.cons {k : Key} {v : V} {d : D} {r : List (Key × V)} {s : List (Key × D)} (h : Rv K G v d) (hr : RvK K G r s) : RvK K G ((k, v) :: r) ((k, d) :: s) := ⟨by simp only [List.map_cons, hr.1], .cons h hr.2⟩
theorem RvK.len {kvs : List (Key × V)} {kds : List (Key × D)} (h : RvK K G kvs kds) : kvs.length = kds.length := by
  have := congrArg List.length h.1
  simpa using this
theorem RvK.get (kvs : List (Key × V)) : ∀ {kds : List (Key × D)}, RvK K G kvs kds → ∀ k : Key, (valV kvs k = none ∧ getD' kds k = none) ∨ ∃ v d, valV kvs k = some v ∧ getD' kds k = some d ∧ Rv K G v d := by
  induction kvs with
  | nil =>
    intro kds h k
    rcases h.cases with ⟨_, rfl⟩ | ⟨_, _, _, _, _, e, _⟩
    · exact .inl ⟨rfl, rfl⟩
    · cases e
  | cons a r ih =>
    intro kds h k
    rcases h.cases with ⟨e, _⟩ | ⟨k', v, d, r', s, e, rfl, hv, hr⟩
    · cases e
    · cases e
      unfold valV getD'
      by_cases q : k' = k
      · subst q
        exact .inr ⟨v, d, by simp, by simp, hv⟩
      · have := ih hr k
        unfold valV getD' at this
        simpa [q] using this
theorem RvK.any {kvs : List (Key × V)} {kds : List (Key × D)} (h : RvK K G kvs kds) (k : Key) : (kvs.any fun kv => decide (kv.1 = k)) = (kds.any fun kv => decide (kv.1 = k)) := by
  have e : ∀ {α : Type} (l : List (Key × α)), (l.any fun kv => decide (kv.1 = k)) = ((l.map (·.1)).any fun x => decide (x = k)) := fun l => by rw [List.any_map]; rfl
  rw [e, e, h.1]
theorem RvK.put {kvs : List (Key × V)} {kds : List (Key × D)} {k : Key} {v : V} {d : D} (h : RvK K G kvs kds) (hv : Rv K G v d) : RvK K G (putK kvs k v) (putD kds k d) := by
  unfold putK putD
  rw [h.any k]
  split
  · have go : ∀ (l : List (Key × V)) {m : List (Key × D)}, RvK K G l m → RvK K G (l.map fun kv => if kv.1 = k then (kv.1, v) else kv) (m.map fun kv => if kv.1 = k then (kv.1, d) else kv) := by
      intro l
      induction l with
      | nil =>
        intro m hm
        rcases hm.cases with ⟨_, rfl⟩ | ⟨_, _, _, _, _, e, _⟩
        · exact .nil
        · cases e
      | cons a r ih =>
        intro m hm
        rcases hm.cases with ⟨e, _⟩ | ⟨k', u, e', r', s, e, rfl, hu, hr⟩
        · cases e
        · cases e
          simp only [List.map_cons]
          by_cases q : k' = k
          · simp only [q, if_true]; exact .cons hv (ih hr)
          · simp only [q, if_false]; exact .cons hu (ih hr)
    exact go kvs h
  · refine ⟨by simp only [List.map_append, h.1, List.map_cons, List.map_nil], ?_⟩
    simp only [List.map_append, List.map_cons, List.map_nil]
    exact h.2.append (.one hv)
theorem RvK.ofDic {kvs : List (Key × V)} {kds : List (Key × D)} (h1 : kvs.map (·.1) = kds.map (·.1)) (h2 : RvA K G (kvs.map (·.2)) (kds.map (·.2))) : RvK K G kvs kds := ⟨h1, h2⟩
theorem key_of {v : V} {k : Key} (r : Rv K G v (kD k)) : v = kV k := by
  cases k with
  | inl i => cases r; rfl
  | inr x => cases r; rfl
end
section
variable {K : PySem.W.Frag} {c : Ctx K}
theorem Rel.dicAt {ε : En} {σ : St} {G H : Hp} (r : Rel c ε σ G H) {i : Nat} {kds : List (Key × D)} (h : ε[i]? = some (.dic kds)) : ∃ p kvs, σ[i]? = some (some (.ref p)) ∧ H p = some (.dK kvs) ∧ RvK K G kvs kds ∧ G p = none ∧ c.H0 p = none := by
  obtain ⟨o, ho, p, vs, rfl, h1, h2, h3, h4⟩ := r.cell i _ h
  exact ⟨p, vs, ho, h1, h2, h3, h4⟩
def aSetDic (i : Nat) : AS := fun E ε => E.nx (ε.set i (.dic []))
theorem as_setDic (i : Nat) : AbsS c (tAsg tDNewK (gName i)) (aSetDic i) := by
  intro ε σ G H rl E D' h k p hp
  obtain ⟨_, hg, h0⟩ := rl.fresh (o := .dK []) hp
  exact k.nx _ _ G _ (rl.putOwn (x := .dic []) hp ⟨p, [], rfl, upd_same, RvK.nil, hg, h0⟩) (Ex.refl _) h
/-- a key as a datum -/
def keyOf : D → Option Key | .int i => some (.inl i) | .str x => some (.inr x) | _ => none
theorem keyOf_some {d : D} {k : Key} (h : keyOf d = some k) : d = kD k := by
  cases d <;> simp [keyOf] at h <;> rw [← h] <;> rfl
def aDPut (i : Nat) (ak av : AE) : AS := fun E ε => match ε[i]? with
  | some (.dic kds) => av ε fun v => ak ε fun kd => (match keyOf kd with | some k => kds.length < sizeLine ∧ E.nx (ε.set i (.dic (putD kds k v))) | none => False)
  | _ => False
theorem as_dput (i : Nat) {tk tv : TE} {ak av : AE} (hk : AbsE c tk ak) (hv : AbsE c tv av) : AbsS c (sDPut (tVar i) tk tv) (aDPut i ak av) := by
  intro ε σ G H rl E D' h k
  unfold aDPut at h
  split at h
  · rename_i kds hx
    refine hv ε σ G H rl _ _ h fun v d G1 H1 s1 r1 q1 => ?_
    obtain ⟨p, vs, h1, h2, h3, h4, h5⟩ := (rl.step s1).dicAt hx
    refine ⟨.ref p, h1, ?_⟩
    refine hk ε σ G1 H1 (rl.step s1) _ _ q1 fun y dy G2 H2 s2 r2 q2 => ?_
    have rl2 := (rl.step s1).step s2
    obtain ⟨p', kvs, g1, g2, g3, g4, g5⟩ := rl2.dicAt hx
    have e := g1.symm.trans h1
    cases e
    cases hkey : keyOf dy with
    | none => simp only [hkey] at q2
    | some key =>
      simp only [hkey] at q2
      have ey := keyOf_some hkey
      subst ey
      have eq := key_of r2
      subst eq
      refine ⟨p, _, rfl, .inl ⟨kvs, key, g2, rfl, by rw [g3.len]; exact q2.1, rfl⟩, ?_⟩
      exact k.nx _ _ G2 _ (rl2.mut (x' := .dic (putD kds key d)) hx rfl g1 g4 g5 ⟨p, _, rfl, upd_same, g3.put (r1.mono s2.gg), g4, g5⟩) (s1.gg.trans s2.gg) q2.2
  · exact h.elim
/-- an own dict is from now on a datum -/
theorem Rel.freezeD {ε : En} {σ : St} {G H : Hp} (r : Rel c ε σ G H) {i : Nat} {kds : List (Key × D)} (hi : ε[i]? = some (.dic kds)) : ∃ G', Rel c (ε.set i (.d (dictD kds))) σ G' H ∧ Ex G G' := by
  obtain ⟨p, kvs, hs, hp, ha, hg, h0⟩ := r.dicAt hi
  have k := r.ok
  have eg : Ex G (upd G p (.dK kvs)) := Ex.new hg
  refine ⟨upd G p (.dK kvs), ⟨⟨r.his.gg.trans eg, fun b u e => ?_, r.his.hh, fun b g h => ?_, r.his.r⟩, by rw [List.length_set]; exact r.len, fun j y e => ?_, fun j l y z q ey ez oy oz sj sk => ?_⟩, eg⟩
  · by_cases q : b = p
    · subst q; rw [upd_same] at e; cases e; exact hp
    · rw [upd_ne q] at e; exact k.ex b u e
  · rw [upd_ne (fun q => h (by rw [q]; exact h0))]; exact r.his.fr b g h
  · rcases set_get e with ⟨rfl, hl, rfl⟩ | ⟨n, e⟩
    · exact ⟨_, hs, _, rfl, .dic upd_same (ha.mono eg).1 (ha.mono eg).2⟩
    · obtain ⟨w, w1, w2⟩ := r.cell j y e
      refine ⟨w, w1, ?_⟩
      cases y with
      | un => trivial
      | d x => obtain ⟨v, e1, e2⟩ := w2; exact ⟨v, e1, e2.mono eg⟩
      | own ys =>
        obtain ⟨q, us, e', g1, g2, g3, g4⟩ := w2
        refine ⟨q, us, e', g1, g2.mono eg, ?_, g4⟩
        rw [upd_ne (fun z => n (r.inj j i _ _ p e hi rfl rfl (by rw [w1, e', z]) hs))]; exact g3
      | dic kds =>
        obtain ⟨q, us, e', g1, g2, g3, g4⟩ := w2
        refine ⟨q, us, e', g1, g2.mono eg, ?_, g4⟩
        rw [upd_ne (fun z => n (r.inj j i _ _ p e hi rfl rfl (by rw [w1, e', z]) hs))]; exact g3
      | tape => exact w2
      | raw v => exact w2
  · rcases set_get ey with ⟨rfl, _, rfl⟩ | ⟨n, ey⟩
    · cases oy
    · rcases set_get ez with ⟨rfl, _, rfl⟩ | ⟨n2, ez⟩
      · cases oz
      · exact r.inj j l y z q ey ez oy oz sj sk
def aFreezeD (i : Nat) (s : AS) : AS := fun E ε => match ε[i]? with | some (.dic kds) => s E (ε.set i (.d (dictD kds))) | _ => False
theorem as_freezeD (i : Nat) {t : TS} {s : AS} (hs : AbsS c t s) : AbsS c t (aFreezeD i s) := by
  intro ε σ G H rl E D' h k
  unfold aFreezeD at h
  split at h
  · rename_i xs hx
    obtain ⟨G', r', e⟩ := rl.freezeD hx
    exact hs _ σ G' H r' E D' h (k.mono e)
  · exact h.elim
/-! d[k], k in d, d.get(k, x), of a dict that is a datum -/
def fDGet : A2 := fun x y Q => ∃ kds k, x = dictD kds ∧ keyOf y = some k ∧ ∃ d, getD' kds k = some d ∧ Q d
def aDGet (a b : AE) : AE := fun ε Q => a ε fun x => b ε fun y => fDGet x y Q
theorem dic_of {G : Hp} {x : V} {kds : List (Key × D)} (r : Rv K G x (dictD kds)) : ∃ p kvs, x = .ref p ∧ G p = some (.dK kvs) ∧ RvK K G kvs kds := by
  generalize e : dictD kds = d at r
  cases r with
  | @dic p kvs kds' h1 h2 h3 =>
    unfold dictD at e
    have e2 : kds = kds' := by
      have e3 := PyData.dict.inj e
      clear e h1 h2 h3
      induction kds generalizing kds' with
      | nil => cases kds' with
        | nil => rfl
        | cons a b => cases e3
      | cons a b ih => cases kds' with
        | nil => cases e3
        | cons a' b' =>
          simp only [List.map_cons, List.cons.injEq, Prod.mk.injEq] at e3
          obtain ⟨⟨e4, e5⟩, e6⟩ := e3
          rw [ih e6]
          obtain ⟨k1, d1⟩ := a
          obtain ⟨k2, d2⟩ := a'
          rw [show k1 = k2 from keyOf_inj e4, show d1 = d2 from e5]
    subst e2
    exact ⟨p, kvs, rfl, h1, h2, h3⟩
  | _ => cases e
theorem ae_dget {ta tb : TE} {a b : AE} (ha : AbsE c ta a) (hb : AbsE c tb b) : AbsE c (tDGet ta tb) (aDGet a b) := by
  intro ε σ G H rl Qd Q h q
  refine ha ε σ G H rl _ _ h fun x dx G1 H1 s1 r1 h1 => ?_
  refine hb ε σ G1 H1 (rl.step s1) _ _ h1 fun y dy G2 H2 s2 r2 h2 => ?_
  obtain ⟨kds, key, rfl, hk, d, hd, h3⟩ := h2
  have ey := keyOf_some hk
  subst ey
  have eq := key_of r2
  subst eq
  obtain ⟨p, kvs, rfl, e1, e2⟩ := dic_of (r1.mono s2.gg)
  have k2 := ((rl.step s1).step s2).ok
  rcases e2.get kvs key with ⟨_, z⟩ | ⟨v, d', g1, g2, g3⟩
  · rw [hd] at z; cases z
  · rw [hd] at g2; cases g2
    exact ⟨p, v, rfl, .inl ⟨kvs, key, .inl (k2.ex _ _ e1), rfl, g1.symm⟩, q _ _ G2 H2 (s1.trans s2) g3 h3⟩
def aDIn (neg : Bool) (b a : AE) : AE := fun ε Q => b ε fun y => a ε fun x => ∃ kds k, x = dictD kds ∧ keyOf y = some k ∧ Q (.bool (if neg then !(getD' kds k).isSome else (getD' kds k).isSome))
theorem ae_din {ta tb : TE} {a b : AE} (hb : AbsE c tb b) (ha : AbsE c ta a) : AbsE c (tDIn tb ta) (aDIn false b a) := by
  intro ε σ G H rl Qd Q h q
  refine hb ε σ G H rl _ _ h fun y dy G1 H1 s1 r1 h1 => ?_
  refine ha ε σ G1 H1 (rl.step s1) _ _ h1 fun x dx G2 H2 s2 r2 h2 => ?_
  obtain ⟨kds, key, rfl, hk, h3⟩ := h2
  have ey := keyOf_some hk
  subst ey
  have eq := key_of r1
  subst eq
  obtain ⟨p, kvs, rfl, e1, e2⟩ := dic_of r2
  have k2 := ((rl.step s1).step s2).ok
  refine ⟨p, _, rfl, .inl ⟨kvs, key, .inl (k2.ex _ _ e1), rfl, rfl⟩, q _ _ G2 H2 (s1.trans s2) (.bl _) ?_⟩
  rcases e2.get kvs key with ⟨z1, z⟩ | ⟨v, d', g1, g2, g3⟩
  · rw [z1]; rw [z] at h3; exact h3
  · rw [g1]; rw [g2] at h3; exact h3
theorem ae_dnotin {ta tb : TE} {a b : AE} (hb : AbsE c tb b) (ha : AbsE c ta a) : AbsE c (tDNotIn tb ta) (aDIn true b a) := by
  intro ε σ G H rl Qd Q h q
  refine hb ε σ G H rl _ _ h fun y dy G1 H1 s1 r1 h1 => ?_
  refine ha ε σ G1 H1 (rl.step s1) _ _ h1 fun x dx G2 H2 s2 r2 h2 => ?_
  obtain ⟨kds, key, rfl, hk, h3⟩ := h2
  have ey := keyOf_some hk
  subst ey
  have eq := key_of r1
  subst eq
  obtain ⟨p, kvs, rfl, e1, e2⟩ := dic_of r2
  have k2 := ((rl.step s1).step s2).ok
  refine ⟨p, _, rfl, .inl ⟨kvs, key, .inl (k2.ex _ _ e1), rfl, rfl⟩, q _ _ G2 H2 (s1.trans s2) (.bl _) ?_⟩
  rcases e2.get kvs key with ⟨z1, z⟩ | ⟨v, d', g1, g2, g3⟩
  · rw [z1]; rw [z] at h3; exact h3
  · rw [g1]; rw [g2] at h3; exact h3
def aDGet2 (a b e : AE) : AE := fun ε Q => a ε fun x => (∃ kds, x = dictD kds) ∧ b ε fun y => e ε fun z => ∃ kds k, x = dictD kds ∧ keyOf y = some k ∧ Q ((getD' kds k).getD z)
theorem ae_dget2 {ta tb te : TE} {a b e : AE} (ha : AbsE c ta a) (hb : AbsE c tb b) (he : AbsE c te e) : AbsE c (tDGet2 ta tb te) (aDGet2 a b e) := by
  intro ε σ G H rl Qd Q h q
  refine ha ε σ G H rl _ _ h fun x dx G1 H1 s1 r1 h1 => ?_
  obtain ⟨⟨kds0, rfl⟩, h1⟩ := h1
  obtain ⟨p, kvs, rfl, e1, e2⟩ := dic_of r1
  have k1 := (rl.step s1).ok
  refine ⟨p, rfl, .inl ⟨kvs, .inl (k1.ex _ _ e1)⟩, ?_⟩
  refine hb ε σ G1 H1 (rl.step s1) _ _ h1 fun y dy G2 H2 s2 r2 h2 => ?_
  refine he ε σ G2 H2 ((rl.step s1).step s2) _ _ h2 fun z dz G3 H3 s3 r3 h3 => ?_
  obtain ⟨kds, key, ek, hk, h4⟩ := h3
  rw [ek] at r1
  obtain ⟨p', kvs', ep, e1', e2'⟩ := dic_of r1
  cases ep
  rw [e1] at e1'
  cases e1'
  have ey := keyOf_some hk
  subst ey
  have eq := key_of r2
  subst eq
  have sg := s2.gg.trans s3.gg
  have k3 := (((rl.step s1).step s2).step s3).ok
  refine ⟨_, .inl ⟨kvs, key, .inl (k3.ex _ _ (sg _ _ e1)), rfl, rfl⟩, ?_⟩
  rcases (e2'.mono sg).get kvs key with ⟨z1, z2⟩ | ⟨v, d', g1, g2, g3⟩
  · rw [z1]; rw [z2] at h4; exact q _ _ G3 H3 ((s1.trans s2).trans s3) r3 h4
  · rw [g1]; rw [g2] at h4; exact q _ _ G3 H3 ((s1.trans s2).trans s3) g3 h4
end
end Fc

namespace Fc
open PySem L2
theorem getD_put_same (kds : List (Key × D)) (k : Key) (v : D) : getD' (putD kds k v) k = some v := by
  unfold getD' putD
  by_cases h : (kds.any fun kv => decide (kv.1 = k)) = true
  · rw [if_pos h]
    induction kds with
    | nil => simp at h
    | cons a r ih =>
      by_cases q : a.1 = k
      · simp [q]
      · simp only [List.map_cons, q, if_false, List.find?_cons, decide_false]
        exact ih (by simpa [q] using h)
  · rw [if_neg h, List.find?_append]
    have e : kds.find? (fun kv => decide (kv.1 = k)) = none := by
      rw [List.find?_eq_none]
      intro x hx z
      exact h (List.any_eq_true.mpr ⟨x, hx, z⟩)
    rw [e]; simp
theorem getD_put_other (kds : List (Key × D)) {k k' : Key} (v : D) (hk : k' ≠ k) : getD' (putD kds k v) k' = getD' kds k' := by
  unfold getD' putD
  split
  · rename_i hh
    clear hh
    induction kds with
    | nil => rfl
    | cons a r ih =>
      by_cases q : a.1 = k
      · have n : ¬ a.1 = k' := fun z => hk (z.symm.trans q)
        have n2 : ¬ k = k' := fun z => hk z.symm
        simp only [List.map_cons, q, if_true, List.find?_cons, n2, decide_false]
        exact ih
      · simp only [List.map_cons, q, if_false, List.find?_cons]
        by_cases q2 : a.1 = k'
        · simp [q2]
        · simp only [q2, decide_false]; exact ih
  · rw [List.find?_append]
    have n2 : ¬ k = k' := fun z => hk z.symm
    cases kds.find? (fun kv => decide (kv.1 = k')) with
    | none => simp [n2]
    | some x => simp
theorem putD_len (kds : List (Key × D)) (k : Key) (v : D) : (putD kds k v).length ≤ kds.length + 1 := by
  unfold putD
  split
  · rw [List.length_map]; omega
  · rw [List.length_append]; exact Nat.le_refl _
/-! ### the last slip of each line -/
def lastIx (sl : Slips) (k i : Nat) : List Nat := (List.range i).filter fun n => decide ((sl[n]?.map (·.1)) = some k)
def lastD (sl : Slips) (i : Nat) : List (Key × D) := (List.range i).foldl (fun acc n => match sl[n]? with | some p => putD acc (.inl (p.1 : Int)) (.int (n : Int)) | none => acc) []
theorem lastD_succ (sl : Slips) (i : Nat) {p : Nat × Str} (h : sl[i]? = some p) : lastD sl (i + 1) = putD (lastD sl i) (.inl (p.1 : Int)) (.int (i : Int)) := by
  unfold lastD
  rw [List.range_succ, List.foldl_append]
  simp only [List.foldl_cons, List.foldl_nil, h]
theorem lastIx_succ (sl : Slips) (k i : Nat) {p : Nat × Str} (h : sl[i]? = some p) : lastIx sl k (i + 1) = lastIx sl k i ++ (if p.1 = k then [i] else []) := by
  unfold lastIx
  rw [List.range_succ, List.filter_append]
  congr 1
  by_cases e : p.1 = k <;> simp [h, e]
theorem lastD_len (sl : Slips) (i : Nat) : (lastD sl i).length ≤ i := by
  induction i with
  | zero => exact Nat.le_refl _
  | succ i ih =>
    cases h : sl[i]? with
    | some p => rw [lastD_succ sl i h]; have := putD_len (lastD sl i) (.inl (p.1 : Int)) (.int (i : Int)); omega
    | none =>
      unfold lastD at ih ⊢
      rw [List.range_succ, List.foldl_append]
      simp only [List.foldl_cons, List.foldl_nil, h]
      omega
theorem lastD_get (sl : Slips) (k : Nat) : ∀ i, i ≤ sl.length → getD' (lastD sl i) (.inl (k : Int)) = (lastIx sl k i).getLast?.map fun n : Nat => PyData.int (n : Int)
  | 0, _ => rfl
  | i + 1, h => by
    obtain ⟨p, hp⟩ : ∃ p, sl[i]? = some p := ⟨_, List.getElem?_eq_getElem (by omega)⟩
    rw [lastD_succ sl i hp, lastIx_succ sl k i hp]
    by_cases e : p.1 = k
    · rw [e, getD_put_same, if_pos rfl, List.getLast?_append]; rfl
    · rw [getD_put_other _ _ (by intro z; have := Sum.inl.inj z; omega), if_neg e, List.append_nil, lastD_get sl k i (by omega)]
theorem told_none {sl : Slips} {rs : List Nat} {k : Nat} (h : lastIx sl k sl.length = []) : toldL sl rs k = [] := by
  unfold toldL
  rw [List.filterMap_eq_nil_iff]
  intro r _
  split
  · rename_i p hp
    rw [if_neg]
    intro e
    have hl := (List.getElem?_eq_some_iff.mp hp).1
    have : r ∈ lastIx sl k sl.length := by
      unfold lastIx
      rw [List.mem_filter]
      exact ⟨List.mem_range.mpr hl, by simp [hp, e]⟩
    rw [h] at this; cases this
  · rfl
def ds_last_slips : Ds := fun ds Q => ∃ sl : Slips, ds = [slipsD sl] ∧ sl.length ≤ 1000 ∧ Q (dictD (lastD sl sl.length))
theorem len_last_slips : ∀ ds Qd, ds_last_slips ds Qd → ds.length = 1 := by rintro ds Qd ⟨_, rfl, _⟩; rfl
def wholeL (body : List Str) (sl : Slips) : List Str := readsL body sl (List.range sl.length)
def ds_wanted : Ds := fun ds Q => ∃ (body : List Str) (sl : Slips), ds = [bodyD body, slipsD sl] ∧ sl.length ≤ 1000 ∧ SlipsOk body.length sl ∧ Q (bodyD (wholeL body sl))
theorem len_wanted : ∀ ds Qd, ds_wanted ds Qd → ds.length = 2 := by rintro ds Qd ⟨_, _, rfl, _⟩; rfl
def copiesD (cs : List (List Nat)) : D := .list (cs.map fun rs => PyData.tuple (numsD rs))
/-- copy c lacks at line k -/
def LackAt (body : List Str) (sl : Slips) (rs : List Nat) (k : Nat) : Prop := (readsL body sl rs)[k]? ≠ (wholeL body sl)[k]?
inductive SameRes (body : List Str) (sl : Slips) (cs : List (List Nat)) : D → Prop
  | lacks {c k j : Nat} {rs : List Nat} : cs[c]? = some rs → k < body.length → LackAt body sl rs k → (∀ k' : Nat, k' < k → ¬ LackAt body sl rs k') → (∀ (c' : Nat) (rs' : List Nat), c' < c → cs[c']? = some rs' → ∀ k' : Nat, k' < body.length → ¬ LackAt body sl rs' k') → (lastIx sl k sl.length).getLast? = some j →
      SameRes body sl cs (.tuple [.str (Str.ofString "lacks"), .int (c : Int), .int (k : Int), .int (j : Int)])
  | same : (∀ (c : Nat) (rs : List Nat), cs[c]? = some rs → ∀ k : Nat, k < body.length → ¬ LackAt body sl rs k) → SameRes body sl cs (.tuple [.str (Str.ofString "same"), bodyD (wholeL body sl)])
theorem SameRes.one {body : List Str} {sl : Slips} {cs : List (List Nat)} {d e : D} (h : SameRes body sl cs d) (g : SameRes body sl cs e) : d = e := by
  cases h with
  | @lacks c k j rs h1 h2 h3 h4 h5 h6 =>
    cases g with
    | @lacks c' k' j' rs' g1 g2 g3 g4 g5 g6 =>
      have ec : c = c' := by
        rcases Nat.lt_trichotomy c c' with l | l | l
        · exact absurd h3 (g5 c rs l h1 k h2)
        · exact l
        · exact absurd g3 (h5 c' rs' l g1 k' g2)
      subst ec
      rw [h1] at g1
      cases g1
      have ek : k = k' := by
        rcases Nat.lt_trichotomy k k' with l | l | l
        · exact absurd h3 (g4 k l)
        · exact l
        · exact absurd g3 (h4 k' l)
      subst ek
      rw [h6] at g6
      cases g6
      rfl
    | same g1 => exact absurd h3 (g1 c rs h1 k h2)
  | same h1 =>
    cases g with
    | @lacks c' k' j' rs' g1 g2 g3 g4 g5 g6 => exact absurd g3 (h1 c' rs' g1 k' g2)
    | same g1 => rfl
theorem lack_last {body : List Str} {sl : Slips} {rs : List Nat} {k : Nat} (hk : k < body.length) (h : LackAt body sl rs k) : ∃ j, (lastIx sl k sl.length).getLast? = some j := by
  cases e : lastIx sl k sl.length with
  | cons a r => exact ⟨_, List.getLast?_eq_some_getLast (List.cons_ne_nil a r)⟩
  | nil =>
    exfalso
    apply h
    unfold wholeL
    rw [readsL_get body sl rs k hk, readsL_get body sl _ k hk, told_none e, told_none e]
def CopiesOk (sl : Slips) (cs : List (List Nat)) : Prop := ∀ rs ∈ cs, (∀ r ∈ rs, r < sl.length) ∧ rs.length ≤ 1000
def ds_same : Ds := fun ds Q => ∃ (body : List Str) (sl : Slips) (cs : List (List Nat)), ds = [bodyD body, slipsD sl, copiesD cs] ∧ body.length ≤ 1000 ∧ sl.length ≤ 1000 ∧ SlipsOk body.length sl ∧ CopiesOk sl cs ∧ ∀ d, SameRes body sl cs d → Q d
theorem len_same : ∀ ds Qd, ds_same ds Qd → ds.length = 3 := by rintro ds Qd ⟨_, _, _, rfl, _⟩; rfl
abbrev ds_law_same : Ds := ds_same
theorem len_law_same : ∀ ds Qd, ds_law_same ds Qd → ds.length = 3 := len_same
theorem Sh.same {body : List Str} {sl : Slips} {cs : List (List Nat)} {d : D} (hb : ∀ x ∈ body, LineS x) (hs : ∀ p ∈ sl, LineS p.2) (h : SameRes body sl cs d) : Sh 3 d := by
  cases h with
  | lacks =>
    refine .tuple fun e he => ?_
    simp only [List.mem_cons, List.not_mem_nil, or_false] at he
    rcases he with rfl | rfl | rfl | rfl
    · exact .str (by decide +kernel)
    · exact .int _
    · exact .int _
    · exact .int _
  | same =>
    refine .tuple fun e he => ?_
    simp only [List.mem_cons, List.not_mem_nil, or_false] at he
    rcases he with rfl | rfl
    · exact .str (by decide +kernel)
    · exact Sh.body (readsL_line hb hs)
theorem Sh.nums {n : Nat} {rs : List Nat} : Sh (n + 1) (.tuple (numsD rs)) := .tuple fun d hd => by
  obtain ⟨x, hx, rfl⟩ := List.mem_map.mp hd
  exact .int _
theorem Sh.copies {n : Nat} {cs : List (List Nat)} : Sh (n + 2) (copiesD cs) := .list fun d hd => by
  obtain ⟨x, hx, rfl⟩ := List.mem_map.mp hd
  exact .nums
end Fc

namespace Fc
open PySem L2
/-! ### anything: data of bounded depth and size -/
inductive Gd : Nat → Nat → D → Prop
  | none {n L : Nat} : Gd n L .none
  | bool {n L : Nat} (b : Bool) : Gd n L (.bool b)
  | int {n L : Nat} (i : Int) : Gd n L (.int i)
  | str {n L : Nat} {x : Str} : x.length ≤ L → PyData.strOk x = true → Gd n L (.str x)
  | list {n L : Nat} {ds : List D} : ds.length ≤ L → (∀ d ∈ ds, Gd n L d) → Gd (n + 1) L (.list ds)
  | tuple {n L : Nat} {ds : List D} : ds.length ≤ L → (∀ d ∈ ds, Gd n L d) → Gd (n + 1) L (.tuple ds)
theorem Gd.mono {n L : Nat} {d : D} (h : Gd n L d) : ∀ {m M : Nat}, n ≤ m → L ≤ M → Gd m M d := by
  induction h with
  | none => intro m M _ _; exact .none
  | bool b => intro m M _ _; exact .bool b
  | int i => intro m M _ _; exact .int i
  | str h1 h2 => intro m M _ h; exact .str (Nat.le_trans h1 h) h2
  | @list n L ds h1 h2 ih =>
    intro m M hn hl
    obtain ⟨m', rfl⟩ : ∃ m', m = m' + 1 := ⟨m - 1, by omega⟩
    exact .list (Nat.le_trans h1 hl) fun d hd => ih d hd (by omega) hl
  | @tuple n L ds h1 h2 ih =>
    intro m M hn hl
    obtain ⟨m', rfl⟩ : ∃ m', m = m' + 1 := ⟨m - 1, by omega⟩
    exact .tuple (Nat.le_trans h1 hl) fun d hd => ih d hd (by omega) hl
theorem Gd.sh {n L : Nat} {d : D} (h : Gd n L d) : Sh n d := by
  induction h with
  | none => exact .none
  | bool b => exact .bool b
  | int i => exact .int i
  | str h1 h2 => exact .str h2
  | list h1 h2 ih => exact .list ih
  | tuple h1 h2 ih => exact .tuple ih
theorem Gd.nd {n L : Nat} {d : D} (h : Gd n L d) : ∀ x, d ≠ .dict x := by intro x e; cases h <;> cases e
theorem Gd.of_line {n L : Nat} {x : Str} (h : LineS x) (hL : 30 ≤ L) : Gd n L (.str x) := .str (Nat.le_trans h.len hL) h.ok
theorem Gd.of_body {n L : Nat} {xs : List Str} (h : ∀ x ∈ xs, LineS x) (hL : 30 ≤ L) (hl : xs.length ≤ L) : Gd (n + 1) L (bodyD xs) := .tuple (by rw [List.length_map]; exact hl) fun d hd => by
  obtain ⟨x, hx, rfl⟩ := List.mem_map.mp hd
  exact .of_line (h x hx) hL
def isStr : D → Bool | .str _ => true | _ => false
def isTup : D → Bool | .tuple _ => true | _ => false
def isLst : D → Bool | .list _ => true | _ => false
def isBool : D → Bool | .bool _ => true | _ => false
theorem kit_str {d : D} (h : ∀ x, d ≠ .dict x) : kitB (tyD d) "str" = some (isStr d) := by
  cases d with
  | none => exact (show kitB "NoneType" "str" = some false by decide +kernel)
  | bool b => exact (show kitB "bool" "str" = some false by decide +kernel)
  | int i => exact (show kitB "int" "str" = some false by decide +kernel)
  | str x => exact (show kitB "str" "str" = some true by decide +kernel)
  | list x => exact (show kitB "list" "str" = some false by decide +kernel)
  | tuple x => exact (show kitB "tuple" "str" = some false by decide +kernel)
  | dict x => exact (h x rfl).elim
theorem kit_tup {d : D} (h : ∀ x, d ≠ .dict x) : kitB (tyD d) "tuple" = some (isTup d) := by
  cases d with
  | none => exact (show kitB "NoneType" "tuple" = some false by decide +kernel)
  | bool b => exact (show kitB "bool" "tuple" = some false by decide +kernel)
  | int i => exact (show kitB "int" "tuple" = some false by decide +kernel)
  | str x => exact (show kitB "str" "tuple" = some false by decide +kernel)
  | list x => exact (show kitB "list" "tuple" = some false by decide +kernel)
  | tuple x => exact (show kitB "tuple" "tuple" = some true by decide +kernel)
  | dict x => exact (h x rfl).elim
theorem kit_lst {d : D} (h : ∀ x, d ≠ .dict x) : kitB (tyD d) "list" = some (isLst d) := by
  cases d with
  | none => exact (show kitB "NoneType" "list" = some false by decide +kernel)
  | bool b => exact (show kitB "bool" "list" = some false by decide +kernel)
  | int i => exact (show kitB "int" "list" = some false by decide +kernel)
  | str x => exact (show kitB "str" "list" = some false by decide +kernel)
  | list x => exact (show kitB "list" "list" = some true by decide +kernel)
  | tuple x => exact (show kitB "tuple" "list" = some false by decide +kernel)
  | dict x => exact (h x rfl).elim
theorem kit_bool {d : D} (h : ∀ x, d ≠ .dict x) : kitB (tyD d) "bool" = some (isBool d) := by
  cases d with
  | none => exact (show kitB "NoneType" "bool" = some false by decide +kernel)
  | bool b => exact (show kitB "bool" "bool" = some true by decide +kernel)
  | int i => exact (show kitB "int" "bool" = some false by decide +kernel)
  | str x => exact (show kitB "str" "bool" = some false by decide +kernel)
  | list x => exact (show kitB "list" "bool" = some false by decide +kernel)
  | tuple x => exact (show kitB "tuple" "bool" = some false by decide +kernel)
  | dict x => exact (h x rfl).elim
/-! ### signs -/
theorem signs_at {x : Str} {i : Nat} {d : D} (h : (signs x)[i]? = some d) : ∃ k, (cl x)[i]? = some k ∧ d = .str ⟨#[k]⟩ := by
  unfold signs at h
  rw [List.getElem?_map] at h
  cases hk : (cl x)[i]? with
  | none => rw [show x.cps.toList[i]? = (cl x)[i]? from rfl, hk] at h; cases h
  | some k => rw [show x.cps.toList[i]? = (cl x)[i]? from rfl, hk] at h; exact ⟨k, rfl, (Option.some.inj h).symm⟩
theorem cl_small : cl (Str.ofString "abcdefghijklmnopqrstuvwxyz") = List.range' 97 26 := by decide +kernel
theorem cl_small_ : cl (Str.ofString "abcdefghijklmnopqrstuvwxyz ") = List.range' 97 26 ++ [32] := by decide +kernel
theorem in_small (k : Nat) : decide (k ∈ cl (Str.ofString "abcdefghijklmnopqrstuvwxyz")) = smallS k := by
  rw [cl_small]
  unfold smallS
  rw [← Bool.decide_and]
  apply decide_eq_decide.mpr
  rw [List.mem_range'_1]
  omega
theorem in_small_ (k : Nat) : decide (k ∈ cl (Str.ofString "abcdefghijklmnopqrstuvwxyz ")) = signL k := by
  rw [cl_small_]
  unfold signL smallS
  rw [← Bool.decide_and, show (k == 32) = decide (k = 32) from rfl, ← Bool.decide_or]
  apply decide_eq_decide.mpr
  rw [List.mem_append, List.mem_range'_1, List.mem_singleton]
  omega
theorem blank_eq : Str.ofString " " = ⟨#[32]⟩ := by decide +kernel
theorem one_blank (k : Nat) : decide ((⟨#[k]⟩ : Str) = Str.ofString " ") = (k == 32) := by
  rw [blank_eq, show (k == 32) = decide (k = 32) from rfl]
  apply decide_eq_decide.mpr
  constructor
  · intro h
    have := congrArg cl h
    simpa [cl_one] using this
  · intro h; rw [h]
theorem ixs_last {x : Str} {k : Nat} {Q : D → Prop} (hs : x.length ≤ sizeLine) (h : (cl x).getLast? = some k) (q : Q (.str ⟨#[k]⟩)) : fIx (.str x) (.int (-1)) Q := by
  have hn : cl x ≠ [] := fun z => by rw [z] at h; cases h
  have hl : 0 < (cl x).length := List.length_pos_iff.mpr hn
  have e : atI (cl x) (-1) = some k := by
    unfold atI ixN
    rw [if_neg (by omega), if_pos (by omega)]
    show (cl x)[((-1 : Int) + ((cl x).length : Int)).toNat]? = some k
    rw [List.getLast?_eq_getElem?] at h
    rw [show ((-1 : Int) + ((cl x).length : Int)).toNat = (cl x).length - 1 by omega]
    exact h
  unfold fIx
  refine ⟨hs, ?_⟩
  simp only [e]; exact q
theorem ixs_first {x : Str} {k : Nat} {Q : D → Prop} (hs : x.length ≤ sizeLine) (h : (cl x).head? = some k) (q : Q (.str ⟨#[k]⟩)) : fIx (.str x) (.int 0) Q := by
  have e : atI (cl x) 0 = some k := atI_nat' (i := 0) (by rw [← List.head?_eq_getElem?]; exact h)
  unfold fIx
  refine ⟨hs, ?_⟩
  simp only [e]; exact q
/-! ### lines, bodies, names of anything -/
def isLineD : D → Bool | .str x => lineB (cl x) | _ => false
def isBodyD : D → Bool | .tuple xs => decide (xs.length ≤ 60) && xs.all isLineD | _ => false
def nameB (l : List Nat) : Bool := decide (1 ≤ l.length) && decide (l.length ≤ 8) && l.all smallS
def isNameD : D → Bool | .str x => nameB (cl x) | _ => false
def ds_of (f : D → Bool) : Ds := fun ds Q => ∃ (d : D) (n L : Nat), ds = [d] ∧ Gd n L d ∧ n ≤ 60 ∧ L ≤ 100000 ∧ Q (.bool (f d))
theorem len_of (f : D → Bool) : ∀ ds Qd, ds_of f ds Qd → ds.length = 1 := by rintro ds Qd ⟨_, _, _, rfl, _⟩; rfl
theorem dsof {f : D → Bool} {d : D} {n L : Nat} {Q : D → Prop} (h : Gd n L d) (hn : n ≤ 60) (hL : L ≤ 100000) (q : Q (.bool (f d))) : ds_of f [d] Q := ⟨d, n, L, rfl, h, hn, hL, q⟩
abbrev ds_is_line : Ds := ds_of isLineD
abbrev ds_is_body : Ds := ds_of isBodyD
abbrev ds_is_name : Ds := ds_of isNameD
abbrev ds_law_is_line : Ds := ds_of isLineD
abbrev ds_law_is_body : Ds := ds_of isBodyD
abbrev ds_law_is_name : Ds := ds_of isNameD
theorem len_is_line : ∀ ds Qd, ds_is_line ds Qd → ds.length = 1 := len_of _
theorem len_is_body : ∀ ds Qd, ds_is_body ds Qd → ds.length = 1 := len_of _
theorem len_is_name : ∀ ds Qd, ds_is_name ds Qd → ds.length = 1 := len_of _
theorem len_law_is_line : ∀ ds Qd, ds_law_is_line ds Qd → ds.length = 1 := len_of _
theorem len_law_is_body : ∀ ds Qd, ds_law_is_body ds Qd → ds.length = 1 := len_of _
theorem len_law_is_name : ∀ ds Qd, ds_law_is_name ds Qd → ds.length = 1 := len_of _
/-! ### drawn texts and anything drawn -/
def NameL (l : List Nat) (m : Nat) : Prop := 1 ≤ l.length ∧ l.length ≤ m ∧ ∀ k ∈ l, smallS k = true
def ds_law_letters : Ds := fun ds Q => ∃ m : Nat, ds = [.int (m : Int)] ∧ 1 ≤ m ∧ m ≤ 1000 ∧ ∀ x : Str, NameL (cl x) m → Q (.str x)
theorem len_law_letters : ∀ ds Qd, ds_law_letters ds Qd → ds.length + 1 = 2 := by rintro ds Qd ⟨_, rfl, _⟩; rfl
theorem small_lt {k : Nat} (h : smallS k = true) : k < 0x110000 := by
  unfold smallS at h
  simp only [Bool.and_eq_true, decide_eq_true_eq] at h
  omega
theorem NameL.gd {x : Str} {m n L : Nat} (h : NameL (cl x) m) (hL : m ≤ L) : Gd n L (.str x) := .str (by rw [← cl_len]; exact Nat.le_trans h.2.1 hL) (strOk_of fun k hk => small_lt (h.2.2 k hk))
def ds_law_any (n : Nat) : Ds := fun ds Q => ∃ deep : Int, ds = [.int deep] ∧ deep ≤ n ∧ ∀ e, Gd n 30 e → Q e
theorem len_law_any (n : Nat) : ∀ ds Qd, ds_law_any n ds Qd → ds.length + 1 = 2 := by rintro ds Qd ⟨_, rfl, _⟩; rfl
def prev_law_any : Nat → Ds | 0 => fun _ _ => False | n + 1 => ds_law_any n
def ds_law_spoilt (n : Nat) : Ds := fun ds Q => ∃ (d : D) (L : Nat), ds = [d] ∧ Gd n L d ∧ 30 ≤ L ∧ L ≤ 900 ∧ ∀ e, Gd (n + 3) (L + 30) e → Q e
theorem len_law_spoilt (n : Nat) : ∀ ds Qd, ds_law_spoilt n ds Qd → ds.length + 1 = 2 := by rintro ds Qd ⟨_, _, rfl, _⟩; rfl
def prev_law_spoilt : Nat → Ds | 0 => fun _ _ => False | n + 1 => ds_law_spoilt n
theorem small_of : ∀ {acc : List D}, (∀ y ∈ acc, ∃ k, smallS k = true ∧ y = .str ⟨#[k]⟩) → ∃ l : List Nat, acc = l.map (fun k => PyData.str ⟨#[k]⟩) ∧ ∀ k ∈ l, smallS k = true
  | [], _ => ⟨[], rfl, fun _ h => nomatch h⟩
  | y :: r, h => by
    obtain ⟨k, hk, rfl⟩ := h y (List.mem_cons_self ..)
    obtain ⟨l, rfl, hl⟩ := small_of (acc := r) fun z hz => h z (List.mem_cons_of_mem _ hz)
    refine ⟨k :: l, rfl, fun j hj => ?_⟩
    rcases List.mem_cons.mp hj with rfl | hj
    · exact hk
    · exact hl j hj
theorem strOk_append {x y : Str} (h : PyData.strOk x = true) (h' : PyData.strOk y = true) : PyData.strOk (x ++ y) = true := by
  have f : ∀ {z : Str}, PyData.strOk z = true → ∀ k ∈ cl z, k < 0x110000 := fun {z} hz k hk => by
    unfold PyData.strOk at hz
    rw [Array.all_eq_true'] at hz
    exact of_decide_eq_true (hz k (Array.mem_toList_iff.mp hk))
  refine strOk_of fun k hk => ?_
  rw [cl_append] at hk
  rcases List.mem_append.mp hk with hk | hk
  · exact f h k hk
  · exact f h' k hk
theorem strOk_cut {x : Str} {lo hi : Option Int} (h : PyData.strOk x = true) : PyData.strOk (cutS x lo hi) = true := by
  refine strOk_of fun k hk => ?_
  unfold PyData.strOk at h
  rw [Array.all_eq_true'] at h
  have hk2 : k ∈ (x.cps.toList.drop (HT.sIx x.length 0 lo)).take (HT.sIx x.length x.length hi - HT.sIx x.length 0 lo) := hk
  exact of_decide_eq_true (h k (Array.mem_toList_iff.mp (List.mem_of_mem_drop (List.mem_of_mem_take hk2))))
theorem cl_cut (x : Str) (lo hi : Option Int) : cl (cutS x lo hi) = cut (cl x) lo hi := by
  unfold cut
  rw [cl_len]; rfl
theorem len_append (x y : Str) : (x ++ y).length = x.length + y.length := by rw [← cl_len, cl_append, List.length_append, cl_len, cl_len]
theorem cut_to {α : Type} (xs : List α) (k : Nat) (h : k ≤ xs.length) : cut xs none (some (k : Int)) = xs.take k := by
  unfold cut HT.sIx
  simp only [show ¬ ((k : Int) < 0) by omega, if_false, Int.toNat_natCast, Nat.min_eq_left h, List.drop_zero, Nat.sub_zero]
theorem cut_from {α : Type} (xs : List α) (k : Nat) (h : k ≤ xs.length) : cut xs (some (k : Int)) none = xs.drop k := by
  unfold cut HT.sIx
  simp only [show ¬ ((k : Int) < 0) by omega, if_false, Int.toNat_natCast, Nat.min_eq_left h]
  rw [List.take_of_length_le (by simp)]
theorem mul_z : (Txt.mul (Str.ofString "z") 30).length = 30 ∧ PyData.strOk (Txt.mul (Str.ofString "z") 30) = true := by decide +kernel
end Fc

set_option maxHeartbeats 4000000
namespace Fc
open PySem PySem.Spec L2 PyProof.Rows
/-! ### t[::-1] of a tuple -/
section
variable {prog : Program} {w : World} {A : Around} {E : Value → Shared → Prop} {s : Shared}
theorem adjust_rev (n : Nat) : Builtin.Slice.sliceAdjust none none (-1) (n : Int) = ((n : Int) - 1, -1) := by
  unfold Builtin.Slice.sliceAdjust
  simp
theorem places_rev (n : Nat) : Builtin.Slice.slicePlaces ((n : Int) - 1) (-1) (-1) = n := by
  unfold Builtin.Slice.slicePlaces
  have h1 : ¬ ((-1 : Int) > 0) := by omega
  simp only [h1, if_false]
  split <;> simp <;> omega
theorem applied_rev {sl : Addr} {vl vu vs : Value} {n : Nat} {Q : Int × Int × Nat → Shared → Prop} (hs : s.heap.IsSliceOf sl vl vu vs) (pl : IsPart vl none) (pu : IsPart vu none) (ps : IsPart vs (some (-1)))
    (h : Q ((n : Int) - 1, -1, n) s) : wpAny (model prog w) A (Builtin.Slice.sliceApplied (.ref sl) (pure (n : Int))) Q E s := by
  obtain ⟨os, hos, hcs, hds⟩ := id hs
  unfold Builtin.Slice.sliceApplied Builtin.Slice.sliceFields
  refine wpAny_bind (wpAny_bind (wpAny_field hos hds (x := vl) rfl (wpAny_bind (wpAny_field hos hds (x := vu) rfl (wpAny_bind (wpAny_field hos hds (x := vs) rfl (wpAny_pure ?_)))))))
  refine wpAny_bind (HT.slicePart_ ps ?_)
  show wpAny _ _ (if ((-1 : Int) == 0) = true then _ else _) _ _ s
  rw [if_neg (by decide)]
  refine wpAny_bind (HT.slicePart_ pl (wpAny_bind (HT.slicePart_ pu (wpAny_bind (wpAny_pure ?_)))))
  show wpAny _ _ (match Builtin.Slice.sliceAdjust none none (-1) (n : Int) with | (lo, hi) => pure (lo, (-1 : Int), Builtin.Slice.slicePlaces lo hi (-1))) _ _ s
  rw [adjust_rev n]
  show wpAny _ _ (pure ((n : Int) - 1, (-1 : Int), Builtin.Slice.slicePlaces ((n : Int) - 1) (-1) (-1))) _ _ s
  rw [places_rev]
  exact wpAny_pure h
theorem fm_map {α β : Type} {f : α → Option β} {g : α → β} : ∀ {l : List α}, (∀ m ∈ l, f m = some (g m)) → l.filterMap f = l.map g
  | [], _ => rfl
  | x :: r, h => by
    rw [List.filterMap_cons, h x List.mem_cons_self, List.map_cons, fm_map fun m hm => h m (List.mem_cons_of_mem _ hm)]
theorem pick_rev (xs : Array Value) : ((List.range xs.size).filterMap fun (m : Nat) => xs[((xs.size : Int) - 1 + (m : Int) * (-1)).toNat]?).toArray = xs.toList.reverse.toArray := by
  congr 1
  apply List.ext_getElem?
  intro i
  have e : (List.range xs.size).filterMap (fun (m : Nat) => xs[((xs.size : Int) - 1 + (m : Int) * (-1)).toNat]?) = (List.range xs.size).map fun m => xs.toList.reverse.getD m Value.none := by
    refine fm_map fun m hm => ?_
    have hm' := List.mem_range.mp hm
    have e2 : ((xs.size : Int) - 1 + (m : Int) * (-1)).toNat = xs.size - 1 - m := by omega
    rw [e2, List.getD_eq_getElem?_getD, List.getElem?_reverse (by rw [Array.length_toList]; exact hm'), Array.length_toList, Array.getElem?_toList]
    have e3 : xs.size - 1 - m < xs.size := by omega
    rw [Array.getElem?_eq_getElem e3]
    rfl
  rw [e, List.getElem?_map]
  by_cases hi : i < xs.size
  · rw [List.getElem?_range hi]
    have e4 : i < xs.toList.reverse.length := by rw [List.length_reverse, Array.length_toList]; exact hi
    rw [List.getElem?_eq_getElem e4]
    show some (xs.toList.reverse.getD i Value.none) = _
    rw [List.getD_eq_getElem?_getD, List.getElem?_eq_getElem e4]
    rfl
  · rw [List.getElem?_eq_none (by rw [List.length_range]; omega), List.getElem?_eq_none (by rw [List.length_reverse, Array.length_toList]; omega)]
    rfl
theorem getItem_tuple_rev {t sl : Addr} {items : Array Value} {vl vu vs : Value} {Q : Value → Shared → Prop} (ht : IsTup s.heap t items) (hs : s.heap.IsSliceOf sl vl vu vs) (pl : IsPart vl none) (pu : IsPart vu none) (ps : IsPart vs (some (-1)))
    (h : Q (.ref s.heap.objs.size) { s with heap := s.heap.push { cls := .type "tuple", data := .seq items.toList.reverse.toArray } })
    (hsz : items.size ≤ sizeLine) : wpAny (model prog w) A (getItem (.ref t) (.ref sl)) Q E s := by
  have htake : sizeOk (.seq items.toList.reverse.toArray) := by
    show items.toList.reverse.toArray.size ≤ sizeLine
    rw [List.size_toArray, List.length_reverse, Array.length_toList]
    exact hsz
  obtain ⟨os, hos, hcs, hds⟩ := id hs
  have hTs : s.TypeIs (.ref sl) "slice" := ⟨os, hos, hcs⟩
  unfold getItem
  try with_reducible refine wpAny_holding ?_
  first | refine wpAny_bind (wpAny_pure ?_) | skip
  refine wpAny_bind (wpAny_sequenceKey ht.typeIs (by decide) ?_)
  refine wpAny_bind (wpAny_callSpecial?_slot (name := Str.ofString "__getitem__") ht.typeIs PyProof.Rows.slot_tuple_getitem
    (wpAny_call_entry PyProof.Rows.slot_tuple_getitem ht.typeIs PyProof.Rows.entry_tuple_getitem ?_ (PyProof.Rows.args_tuple_getitem _ _)))
  show wpAny _ _ (Builtin.Tuple.tupleItemsOf (.ref t) >>= _) _ _ s
  refine wpAny_bind (PyProof.Rows.tupleItemsOf_ ht ?_)
  refine wpAny_bind (wpAny_typeOf hTs ?_)
  rw [if_pos (by decide)]
  refine wpAny_bind (applied_rev hs pl pu ps ?_)
  have hno : ¬ ((((items.size : Int) - 1 == 0) && (-1 : Int) == 1 && items.size == items.size) = true) := by
    intro q
    rw [Bool.and_eq_true, Bool.and_eq_true] at q
    exact absurd q.1.2 (by decide)
  show wpAny _ _ (if (((items.size : Int) - 1 == 0) && (-1 : Int) == 1 && items.size == items.size) = true then _ else _) _ _ s
  rw [if_neg hno, pick_rev]
  first
    | exact wpAny_bind (m := Builtin.Tuple.tupleExact _) (wpAny_newObj_type (wpAny_pure ⟨_, rfl, wpAny_pure h⟩) htake)
    | exact wpAny_bind (m := Builtin.Tuple.tupleExact _) (wpAny_newObj_type (wpAny_bind (wpAny_pure (wpAny_pure ⟨_, rfl, wpAny_pure h⟩))) htake)
    | exact wpAny_bind (wpAny_bind (m := Builtin.Tuple.tupleExact _) (wpAny_newObj_type (wpAny_pure (wpAny_pure ⟨_, rfl, wpAny_pure h⟩)) htake))
    | exact wpAny_bind (wpAny_bind (m := Builtin.Tuple.tupleExact _) (wpAny_newObj_type (wpAny_pure ⟨_, rfl, wpAny_pure h⟩) htake))
end
def tRevT (K : PySem.W.Frag) (te : TE) : TE := fun σ H Q => te σ H fun x H1 => ∃ a xs, x = .ref a ∧ SqT K H1 a xs ∧ ∀ p, H1 p = none → Q (.ref p) (upd H1 p (.tup xs.reverse))
section
variable {X : Cx} (K : PySem.W.Frag)
theorem pe_revT {e : Expr} {te : TE} {k : Nat} {p1 p2 p3 pos : Pos} (he : PE X e te) : PE X (.Subscript e (.Slice none none (some (.UnaryOp .USub (.Constant (.int 1) k p1) p2)) p3) pos) (tRevT X.K te) := by
  refine ⟨fun pins s σ H Q I h => ?_⟩
  refine Subscript_ (thn (he.run pins s σ H _ I h) fun v s1 ⟨x, H1, I1, r1, q1⟩ => ?_)
  obtain ⟨a, xs, ex, hx, q⟩ := q1
  subst ex
  cases r1
  have hst : PO X (some (.UnaryOp .USub (.Constant (.int 1) k p1) p2)) (tPart (tUn (rU fun i => .int (-i)) (tC (.int 1)))) := po_some (pe_un un_neg pe_int)
  refine wpAny_Slice (thn (po_none.run pins s1 σ H1 (fun o H2 => o = none ∧ H2 = H1) I1 ⟨rfl, rfl⟩) fun vl s2 ⟨l, H2, I2, pl, el, e2⟩ => ?_)
  subst el e2
  refine thn (po_none.run pins s2 σ H2 (fun o H3 => o = none ∧ H3 = H2) I2 ⟨rfl, rfl⟩) fun vu s3 ⟨u, H3, I3, pu, eu, e3⟩ => ?_
  subst eu e3
  refine thn (hst.run pins s3 σ H3 (fun o H4 => o = some (-1) ∧ H4 = H3) I3 ⟨1, rfl, -1, rfl, rfl, rfl⟩) fun vs s4 ⟨o, H4, I4, ps, eo, e4⟩ => ?_
  subst eo e4
  have I5 : Inv X pins σ H4 { s4 with heap := s4.heap.push { cls := .type "slice", data := .fields #[vl, vu, vs] } } := I4.kept (t' := s4.toks) fun b ob q => Heap.get?_push_of_some _ q
  obtain ⟨its, r, ht, hz⟩ := I5.tuple hx
  have hlen := r.length
  show wpAny (model X.prog X.w) X.A (subscriptTail e (.Slice none none (some (.UnaryOp .USub (.Constant (.int 1) k p1) p2)) p3) (.ref a) (.ref s4.heap.objs.size)) (EP X pins σ Q) X.xe { s4 with heap := s4.heap.push { cls := .type "slice", data := .fields #[vl, vu, vs] } }
  refine tail_any (ops := [.ref a, .ref s4.heap.objs.size]) ht.typeIs PyProof.Rows.slot_tuple_getitem.lookup ?_ (by with_unfolding_all rfl)
  refine getItem_tuple_rev ht (Heap.IsSliceOf.new _ vl vu vs) pl pu ps ?_ (by rw [List.size_toArray]; omega)
  refine ⟨.ref _, _, I5.laid (t' := s4.toks) (o := .tup xs.reverse) (fun b ob q => Heap.get?_push_of_some _ q) (Nat.le_refl _) ?_, rfl, q _ (I5.hok.fresh (Nat.le_refl _))⟩
  exact ⟨by rw [List.length_reverse]; exact hz, _, r.reverse, IsTup.new _ _⟩
theorem kRevT {e : Expr} {te : TE} {k : Nat} {p1 p2 p3 pos : Pos} (he : PE X e te) (h : X.K = K := by rfl) : PE X (.Subscript e (.Slice none none (some (.UnaryOp .USub (.Constant (.int 1) k p1) p2)) p3) pos) (tRevT K te) := h ▸ pe_revT he
end
section
variable {K : PySem.W.Frag} {c : Ctx K}
def aRevT (a : AE) : AE := fun ε Q => a ε fun d => match d with | .tuple xs => Q (.tuple xs.reverse) | _ => False
theorem ae_revT {ta : TE} {a : AE} (ha : AbsE c ta a) : AbsE c (tRevT K ta) (aRevT a) := by
  intro ε σ G H rl Qd Q h q
  refine ha ε σ G H rl _ _ h fun x dx G1 H1 s1 r1 h1 => ?_
  cases r1 with
  | @tup p us ds hp hA =>
    refine ⟨p, us, rfl, (rl.step s1).ok.ex.sqt hp, fun t ht => ?_⟩
    have s2 := Step.new (o := .tup us.reverse) (rl.step s1).ok ht
    exact q _ _ _ _ (s1.trans s2) (.tup (SqT.of upd_same) (hA.reverse.mono s2.gg)) h1
  | _ => exact h1.elim
end
/-! ### set(list of ints), sorted(set(..)) -/
section
variable {P : Program} {w : World} {A : Around} {E : Value → Shared → Prop} {s : Shared}
abbrev newSet (w : World) : Obj := { cls := .type "set", dict := none, data := .set #[] 0 (.fresh 0 0 (!w.params.followText "set-order")) }
theorem set_of_list {l : Addr} {items : Array Value} (ns : List Int) {Q : Value → Shared → Prop} (hh : A.handled = none) (hl : s.heap.IsList l items) (hit : IntsAre items.toList ns) (hb : ns.length + 1 < scanBound)
    (h : ∀ (h' : Heap) (tk c : Nat), SetR w h' s.heap.objs.size (fun j => decide (j ∈ ns)) c → c ≤ ns.length → (∀ b o, s.heap.get? b = some o → h'.get? b = some o) → Q (.ref s.heap.objs.size) { s with heap := h', toks := tk }) :
    wpAny (model P w) A (call (.type "set") [.ref l]) Q E s := by
  have hisz : items.size = ns.length := by
    have q := IntsAre.length hit
    rw [Array.length_toList] at q
    exact q
  obtain ⟨c, tl, hmro⟩ := F.called_set.mro
  have hmade := F.called_set.made
  have hsub := F.called_set.sub
  refine wpAny_call (codeAny_of_tree ?_)
  show wpAny _ _ (callAny (.type "set") _) _ _ _
  refine wpAny_pure ⟨Code.quiet_builtin _ (by decide +kernel), codeAny_builtin F.entry_type_call ?_⟩
  rw [Around.under_plain (weight_type_call_type "set" [.ref l] []) rfl]
  have h1 := F.called_set.notType
  have h2 := F.called_set.canCreate
  have hct := F.typeCall_set_1 (.ref l)
  repeat (any_goals (first | assumption | wp_step))
  refine codeAny_mono (code_set_led1 (.ref l) (E := E) (Q₁ := fun obj s₁ => obj = .ref s.heap.objs.size ∧ s₁ = { s with heap := s.heap.push (newSet w) }) ⟨rfl, rfl⟩) fun r s₁ hr => ?_
  cases r with
  | error e => exact hr
  | ok fl =>
    cases fl with
    | ret obj =>
      obtain ⟨rfl, rfl⟩ := hr
      have hS : (s.heap.push (newSet w)).get? s.heap.objs.size = some (newSet w) := Heap.get?_push_size _ rfl
      have hT : Shared.TypeIs { s with heap := s.heap.push (newSet w) } (.ref s.heap.objs.size) "set" := ⟨_, hS, rfl⟩
      have hli := F.called_set.init.lookup
      have hbi := F.called_set.init.bind (.ref s.heap.objs.size)
      repeat (any_goals (first | assumption | wp_step))
      refine codeAny_mono (codeAny_call_builtin (R := wants (fun r s₂ => r = .none ∧ ∃ h' tk c, s₂ = { s with heap := h', toks := tk } ∧ SetR w h' s.heap.objs.size (fun j => decide (j ∈ ns)) c ∧ c ≤ ns.length ∧
          (∀ b o, s.heap.get? b = some o → h'.get? b = some o)) E) F.called_set.init.plain F.entry_set_init (check_set_init_1 hT ?_)) fun r₂ s₂ hr₂ => ?_
      · obtain ⟨ol, hol, hcl, nl, hdl⟩ := hl
        obtain ⟨ocls, odict, odata, oslots⟩ := ol
        simp only at hcl hdl
        subst hcl; subst hdl
        have hol' : (s.heap.push (newSet w)).get? l = some { cls := .type "list", dict := odict, data := .seq items nl, slots := oslots } := Heap.get?_push_of_some _ hol
        have hsls := F.sub_list_set
        have hslf := F.sub_list_frozenset
        have hne : (Value.type "list" == Value.type "dict") = false := by decide
        have hl1 : (s.heap.push (newSet w)).IsList l items := ⟨_, hol', rfl, nl, rfl⟩
        unfold Builtin.«set.__init__» noKeywords Builtin.Frozenset.updateFrom
        generalize hPI : pyIter = PI
        wp_walk
        subst hPI
        refine wpAny_pyIter_list hl1 ?_
        refine wpAny_bind (wpAny_runValue ?_)
        have hlS : l < s.heap.objs.size := Heap.lt_size hol
        have hh3 : A.in1.in1.in1.handled = none := by simp [hh]
        have hneI : l ≠ (s.heap.push (newSet w)).objs.size := by
          rw [Heap.size_push]; exact Nat.ne_of_lt (Nat.lt_succ_of_lt hlS)
        have hSf : s.heap.objs.size ∉ [(s.heap.push (newSet w)).objs.size, l] := by
          rw [Heap.size_push]; simp only [List.mem_cons, List.mem_singleton, List.not_mem_nil, or_false, not_or]
          exact ⟨Nat.ne_of_lt (Nat.lt_succ_self _), Nat.ne_of_gt hlS⟩
        have hval : ∀ (i : Nat) (v : Value), items[i]? = some v → ∃ k t, ns[i]? = some k ∧ v = .int k t := fun i v hv => by
          have hi : i < ns.length := by rw [← hisz]; exact (Array.getElem?_eq_some_iff.mp hv).1
          obtain ⟨t, e⟩ := PyProof.Rows.IntsAre.int_at hit i v (by rw [Array.getElem?_toList]; exact hv)
          refine ⟨ns[i], t, List.getElem?_eq_getElem hi, ?_⟩
          rw [e, List.getD_eq_getElem?_getD, List.getElem?_eq_getElem hi] <;> rfl
        refine set_update_ints ((Walks.list hh3 _ l hneI items).toS) s.heap.objs.size
          hSf ns hisz hb hval (items.size - 0) 0 _ (by omega) (Nat.zero_le _)
          ⟨⟨_, Heap.get?_push_size _ rfl, rfl, rfl⟩, (hl1.push _)⟩ ?hS0 ?hR
        case hS0 => exact ⟨0, Nat.le_refl 0, setR_new_at (Heap.get?_push_of_some _ hS)⟩
        case hR =>
          intro s' c' hm hc' hS'
          obtain ⟨h', g2, d', tk', os'⟩ := s'
          have eg : g2 = s.gens := hm.gens
          have ed : d' = s.drawn := hm.drawn
          have eo : os' = s.os := hm.os
          subst eg; subst ed; subst eo
          show wpAny _ _ _ _ _ _
          refine wpAny_pure ?_
          show wpAny _ _ (ret Value.none) _ _ _
          rw [hisz] at hc'
          refine wpAny_pure ⟨rfl, h', tk', c', rfl, hS', hc', fun b o e => ?_⟩
          have hb0 : b < s.heap.objs.size := Heap.lt_size e
          have hb1 : b ≠ s.heap.objs.size := Nat.ne_of_lt hb0
          have hb2 : b ≠ (s.heap.push (newSet w)).objs.size := by
            rw [Heap.size_push]; exact Nat.ne_of_lt (Nat.lt_succ_of_lt hb0)
          exact hm.heap b o (by simp only [List.mem_cons, List.mem_singleton, List.not_mem_nil, or_false, not_or]; exact ⟨hb1, hb2⟩) (Heap.get?_push_of_some _ (Heap.get?_push_of_some _ e))
      · cases r₂ with
        | error e => exact hr₂
        | ok fl₂ =>
          cases fl₂ with
          | ret r =>
            obtain ⟨rfl, h', tk, c', rfl, hS', hc', hk'⟩ := hr₂
            repeat (any_goals (first | assumption | wp_step))
            exact h _ _ _ hS' hc' hk'
          | _ => exact hr₂.elim
    | _ => exact hr.elim
end
def rSetOfI (K : PySem.W.Frag) (w : World) : List V → Hp → VK → Prop := fun vs H Q => ∃ (a : Addr) (ns : List Int), vs = [V.ref a] ∧ SqL K H a (ns.map V.int) ∧ ns.length ≤ 1000 ∧
  ∀ (p : Addr) (n : Nat), H p = none → n ≤ ns.length → Q (.ref p) (upd H p (SetO w p (fun j => decide (j ∈ ns)) n))
section
variable {X : Cx}
theorem cr_setOfI (hc : X.calm = true) : CallR X (.type "set") (rSetOfI X.K X.w) := by
  intro pins s σ H vs us Q I r h
  obtain ⟨a, ns, rfl, hs, h64, q⟩ := h
  obtain ⟨its, rv, hl, _⟩ := I.list hs
  rw [Vals.ref1 r]
  refine set_of_list ns (I.ok.hd hc) hl.isList (by simpa using rv.ints) (by unfold scanBound; omega) fun h' tk n R hn hk => ?_
  exact ⟨.ref _, upd H s.heap.objs.size (SetO X.w s.heap.objs.size (fun j => decide (j ∈ ns)) n), I.laid (t' := tk) (fun b o e => hk b o e) (Nat.le_refl _) (setO_new R), rfl, q _ n (I.hok.fresh (Nat.le_refl _)) hn⟩
end
section
variable {K : PySem.W.Frag} {c : Ctx K}
def aSortSet (a : AE) : AE := fun ε Q => a ε fun d => ∃ ns : List Int, d = .list (ns.map PyData.int) ∧ ns.length < 64 ∧ ∀ ms : List Int, ms.Pairwise (· < ·) → (∀ k, k ∈ ms ↔ k ∈ ns) → Q (.list (ms.map PyData.int))
theorem ae_sortSet {w : World} {ta : TE} {a : AE} (ha : AbsE c ta a) : AbsE c (tCB (rSortedSet w) (tCons (tCB (rSetOfI K w) (tCons ta tNil)) tNil)) (aSortSet a) := by
  intro ε σ G H rl Qd Q h q
  refine ha ε σ G H rl _ _ h fun x dx G1 H1 s1 r1 h1 => ?_
  obtain ⟨ns, rfl, h64, h1⟩ := h1
  cases r1 with
  | @lst p us ds hp hA =>
    have e := hA.ints
    subst e
    refine ⟨p, ns, rfl, SqL.of ((rl.step s1).ok.ex _ _ hp), by omega, fun t n ht hn => ?_⟩
    have s2 := Step.new (o := SetO w t (fun j => decide (j ∈ ns)) n) (rl.step s1).ok ht
    refine ⟨t, _, n, rfl, upd_same, by omega, fun ms t2 h1' h2' h3' ht2 => ?_⟩
    have s3 := Step.new (o := .lst (ms.map V.int)) (((rl.step s1).step s2).ok) ht2
    exact q _ _ _ _ ((s1.trans s2).trans s3) (.lst upd_same (RvA.ofInts ms)) (h1 ms h1' fun k => by rw [h2' k]; exact decide_eq_true_iff)
end
end Fc

namespace Fc
open PySem L2
/-! ### words -/
def isW (w : Str) : D → Bool | .str x => decide (x = w) | _ => false
theorem eqv_w {d : D} {w : Str} : PyData.eqv d (.str w) = isW w d := by
  cases d with
  | str x => show (x == w) = decide (x = w); by_cases h : x = w <;> simp [h]
  | _ => simp [PyData.eqv, isW]
section
variable {d : D} {w : Str} {n L : Nat} {Q : D → Prop}
theorem eq_w (h : Gd n L d) (hn : n ≤ 60) (hw : PyData.strOk w = true) (q : Q (.bool (isW w d))) : fEq d (.str w) Q := by
  refine .inr ⟨h.sh.shaped (by omega), (Sh.str (n := 0) hw).shaped (by omega), ?_⟩
  rw [eqv_w]; exact q
theorem ne_w (h : Gd n L d) (hn : n ≤ 60) (hw : PyData.strOk w = true) (q : Q (.bool (!isW w d))) : fNe d (.str w) Q := by
  refine .inr ⟨h.sh.shaped (by omega), (Sh.str (n := 0) hw).shaped (by omega), ?_⟩
  rw [eqv_w]; exact q
end
abbrev wPut : Str := Str.ofString "put"
abbrev wDrop : Str := Str.ofString "drop"
abbrev wTurn : Str := Str.ofString "turn"
theorem w_ok : PyData.strOk wPut = true ∧ PyData.strOk wDrop = true ∧ PyData.strOk wTurn = true := by decide +kernel
theorem w_len : wPut.length = 3 ∧ wDrop.length = 4 ∧ wTurn.length = 4 := by decide +kernel
theorem w_ne : wPut ≠ wDrop ∧ wPut ≠ wTurn ∧ wDrop ≠ wTurn := by decide +kernel
/-! ### edits and drafts, any data -/
def isEditD (many : Nat) : D → Bool
  | .tuple [.str w, .int k] => decide (w = wDrop) && (decide (0 ≤ k) && decide (k < many))
  | .tuple [.str w, .int k, z] => decide (0 ≤ k) && ((decide (w = wTurn) && (decide (k < many) && isLineD z)) || (decide (w = wPut) && (decide (k ≤ many) && (isBodyD z && (decide (1 ≤ lenD z) && decide (lenD z ≤ 5))))))
  | _ => false
where lenD : D → Nat | .tuple xs => xs.length | _ => 0
def plD : D → Int
  | .tuple (.str w :: .int k :: _) => 2 * k + (if w = wPut then 0 else 1)
  | _ => 0
def isDraftD (many : Nat) : D → Bool
  | .tuple xs => decide (xs.length ≤ 20) && (xs.all (isEditD many) && decide ((xs.map plD).Pairwise (· < ·)))
  | _ => false
section
variable {many : Nat} {x y z z2 : D} {r : List D} {w : Str} {k : Int}
theorem ed_one : isEditD many (.tuple [x]) = false := by
  unfold isEditD; split
  · rename_i h; cases h
  · rename_i h; cases h
  · rfl
theorem ed_ns (h : isStr x = false) : isEditD many (.tuple (x :: y :: r)) = false := by
  unfold isEditD; split
  · rename_i h2; cases h2; cases h
  · rename_i h2; cases h2; cases h
  · rfl
theorem ed_ni (h : wholeD y = false) : isEditD many (.tuple (x :: y :: r)) = false := by
  unfold isEditD; split
  · rename_i h2; cases h2; cases h
  · rename_i h2; cases h2; cases h
  · rfl
theorem ed_long : isEditD many (.tuple (x :: y :: z :: z2 :: r)) = false := by
  unfold isEditD; split
  · rename_i h; cases h
  · rename_i h; cases h
  · rfl
theorem ed_two : isEditD many (.tuple [.str w, .int k]) = (decide (w = wDrop) && (decide (0 ≤ k) && decide (k < many))) := rfl
theorem ed_three : isEditD many (.tuple [.str w, .int k, z]) = (decide (0 ≤ k) && ((decide (w = wTurn) && (decide (k < many) && isLineD z)) || (decide (w = wPut) && (decide (k ≤ many) && (isBodyD z && (decide (1 ≤ isEditD.lenD z) && decide (isEditD.lenD z ≤ 5))))))) := rfl
theorem ed_two_x : isEditD many (.tuple [x, .int k]) = (isW wDrop x && (decide (0 ≤ k) && decide (k < many))) := by
  cases x with
  | str w => rfl
  | _ => rw [ed_ns rfl]; rfl
theorem ed_three_x : isEditD many (.tuple [x, .int k, z]) = (decide (0 ≤ k) && ((isW wTurn x && (decide (k < many) && isLineD z)) || (isW wPut x && (decide (k ≤ many) && (isBodyD z && (decide (1 ≤ isEditD.lenD z) && decide (isEditD.lenD z ≤ 5))))))) := by
  cases x with
  | str w => rfl
  | _ => rw [ed_ns rfl]; simp [isW]
theorem isW_str (h : isW w x = true) : x = .str w := by
  cases x with
  | str y => rw [of_decide_eq_true h]
  | _ => cases h
theorem body_tup (h : isBodyD z = true) : ∃ zs, z = .tuple zs := by
  cases z with
  | tuple zs => exact ⟨zs, rfl⟩
  | _ => cases h
end
theorem edit_shape {many : Nat} {d : D} (h : isEditD many d = true) : ∃ (w : Str) (k : Int) (r : List D), d = .tuple (.str w :: .int k :: r) ∧ 0 ≤ k ∧ k ≤ many := by
  unfold isEditD at h
  split at h
  · simp only [Bool.and_eq_true, decide_eq_true_eq] at h
    exact ⟨_, _, _, rfl, by omega, by omega⟩
  · simp only [Bool.and_eq_true, Bool.or_eq_true, decide_eq_true_eq] at h
    refine ⟨_, _, _, rfl, h.1, ?_⟩
    rcases h.2 with q | q <;> omega
  · cases h
/-- strictly rising lists with the same members are the same -/
theorem rising_same : ∀ {a b : List Int}, a.Pairwise (· < ·) → b.Pairwise (· < ·) → (∀ k, k ∈ a ↔ k ∈ b) → a = b
  | [], [], _, _, _ => rfl
  | [], y :: _, _, _, h => absurd ((h y).mpr List.mem_cons_self) (List.not_mem_nil)
  | x :: _, [], _, _, h => absurd ((h x).mp List.mem_cons_self) (List.not_mem_nil)
  | x :: xs, y :: ys, ha, hb, h => by
    rw [List.pairwise_cons] at ha hb
    have e : x = y := by
      rcases List.mem_cons.mp ((h x).mp List.mem_cons_self) with e | e
      · exact e
      · rcases List.mem_cons.mp ((h y).mpr List.mem_cons_self) with e2 | e2
        · exact e2.symm
        · have := ha.1 y e2; have := hb.1 x e; omega
    subst e
    rw [rising_same ha.2 hb.2 fun k => ?_]
    constructor
    · intro hk
      rcases List.mem_cons.mp ((h k).mp (List.mem_cons_of_mem _ hk)) with e | e
      · have := ha.1 k hk; omega
      · exact e
    · intro hk
      rcases List.mem_cons.mp ((h k).mpr (List.mem_cons_of_mem _ hk)) with e | e
      · have := hb.1 k hk; omega
      · exact e
theorem eqvAll_ints : ∀ (a b : List Int), PyData.eqvAll (a.map PyData.int) (b.map PyData.int) = decide (a = b)
  | [], [] => by simp [PyData.eqvAll]
  | [], _ :: _ => by simp [PyData.eqvAll]
  | _ :: _, [] => by simp [PyData.eqvAll]
  | x :: xs, y :: ys => by
    simp only [List.map_cons, PyData.eqvAll, PyData.eqv, eqvAll_ints xs ys]
    by_cases h : x = y <;> by_cases h2 : xs = ys <;> simp [h, h2]
theorem eqv_ints (a b : List Int) : PyData.eqv (.list (a.map PyData.int)) (.list (b.map PyData.int)) = decide (a = b) := by
  simp only [PyData.eqv]; exact eqvAll_ints a b
theorem sh_ints (a : List Int) : Sh 1 (.list (a.map PyData.int)) := .list fun d hd => by
  obtain ⟨i, _, rfl⟩ := List.mem_map.mp hd
  exact .int i
theorem eq_sorted {ms ns : List Int} {Q : D → Prop} (h1 : ms.Pairwise (· < ·)) (h2 : ∀ k, k ∈ ms ↔ k ∈ ns) (q : Q (.bool (decide (ns.Pairwise (· < ·))))) : fEq (.list (ms.map PyData.int)) (.list (ns.map PyData.int)) Q := by
  refine .inr ⟨(sh_ints ms).shaped (by decide), (sh_ints ns).shaped (by decide), ?_⟩
  rw [eqv_ints, show decide (ms = ns) = decide (ns.Pairwise (· < ·)) from decide_eq_decide.mpr ⟨fun e => e ▸ h1, fun h => rising_same h1 h h2⟩]
  exact q
/-- rising from neighbour to neighbour is rising -/
theorem rising_next : ∀ {l : List Int}, (∀ i (h : i + 1 < l.length), l[i] < l[i + 1]) → l.Pairwise (· < ·)
  | [], _ => .nil
  | [x], _ => List.pairwise_singleton ..
  | x :: y :: r, h => by
    have ih : (y :: r).Pairwise (· < ·) := rising_next fun i hi => h (i + 1) (by simpa using hi)
    have h0 : x < y := h 0 (by simp)
    refine List.pairwise_cons.mpr ⟨fun z hz => ?_, ih⟩
    rcases List.mem_cons.mp hz with rfl | hz
    · exact h0
    · exact Int.lt_trans h0 ((List.pairwise_cons.mp ih).1 z hz)
theorem lex_two {a b c d : Int} (hb : b = 0 ∨ b = 1) (hd : d = 0 ∨ d = 1) : HT.lexLt [a, b] [c, d] = decide (2 * a + b < 2 * c + d) := by
  rw [HT.lexLt_cons]
  by_cases h : a = c
  · rw [if_pos h, HT.lexLt_cons]
    by_cases h2 : b = d
    · rw [if_pos h2, HT.lexLt_nil_nil]; symm; apply decide_eq_false; omega
    · rw [if_neg h2]; apply decide_eq_decide.mpr; omega
  · rw [if_neg h]; apply decide_eq_decide.mpr; omega
def plT : D → D
  | .tuple (.str w :: .int k :: _) => .tuple [.int k, .int (if w = wPut then 0 else 1)]
  | _ => .none
theorem pl_at {many : Nat} {d : D} (h : isEditD many d = true) : ∃ a b : Int, plT d = .tuple [.int a, .int b] ∧ (b = 0 ∨ b = 1) ∧ plD d = 2 * a + b := by
  obtain ⟨w, k, r, rfl, _⟩ := edit_shape h
  refine ⟨k, if w = wPut then 0 else 1, rfl, ?_, rfl⟩
  split
  · exact .inl rfl
  · exact .inr rfl
theorem rising_all (l : List Int) : ((List.range (l.length - 1)).map fun j => decide (l.getD j 0 < l.getD (j + 1) 0)).all id = decide (l.Pairwise (· < ·)) := by
  rw [List.all_map, Bool.eq_iff_iff, List.all_eq_true, decide_eq_true_eq]
  constructor
  · intro h
    refine rising_next fun i hi => ?_
    have := h i (List.mem_range.mpr (by omega))
    simp only [Function.comp, id, decide_eq_true_eq] at this
    rw [List.getD_eq_getElem?_getD, List.getD_eq_getElem?_getD, List.getElem?_eq_getElem (by omega), List.getElem?_eq_getElem hi] at this
    exact this
  · intro h i hi
    have hi' := List.mem_range.mp hi
    simp only [Function.comp, id, decide_eq_true_eq]
    rw [List.getD_eq_getElem?_getD, List.getD_eq_getElem?_getD, List.getElem?_eq_getElem (by omega), List.getElem?_eq_getElem (by omega)]
    exact List.pairwise_iff_getElem.mp h i (i + 1) (by omega) (by omega) (by omega)
theorem rng_at2 {lo : Int} {n i : Nat} {d : D} (h : (rngD lo n)[i]? = some d) : i < n ∧ d = .int (lo + (i : Int)) := by
  have hl := (List.getElem?_eq_some_iff.mp h).1
  rw [rngD_len] at hl
  rw [rngD_get hl] at h
  exact ⟨hl, (Option.some.inj h).symm⟩
theorem getD_at {α : Type} {l : List α} {i : Nat} {x : α} (a : α) (h : l[i]? = some x) : l.getD i a = x := by
  rw [List.getD_eq_getElem?_getD, h]; rfl
theorem cmul_two {k : Int} (h0 : 0 ≤ k) (h1 : k ≤ 1000) : CMul 2 k := by
  obtain ⟨n, rfl⟩ : ∃ n : Nat, k = n := ⟨k.toNat, by omega⟩
  have : ∀ n : Nat, n ≤ 1000 → CMul 2 (n : Int) := by unfold CMul; decide +kernel
  exact this n (by omega)
theorem lines_of : ∀ {acc : List D}, (∀ y ∈ acc, ∃ x, LineS x ∧ y = .str x) → ∃ xs : List Str, acc = xs.map PyData.str ∧ ∀ x ∈ xs, LineS x
  | [], _ => ⟨[], rfl, fun _ h => nomatch h⟩
  | y :: r, h => by
    obtain ⟨x, hx, rfl⟩ := h y List.mem_cons_self
    obtain ⟨xs, rfl, hxs⟩ := lines_of (acc := r) fun z hz => h z (List.mem_cons_of_mem _ hz)
    exact ⟨x :: xs, rfl, fun z hz => by
      rcases List.mem_cons.mp hz with rfl | hz
      · exact hx
      · exact hxs z hz⟩
theorem mem_cut {α : Type} {l : List α} {lo hi : Option Int} {x : α} (h : x ∈ cut l lo hi) : x ∈ l := by
  unfold cut at h
  exact List.mem_of_mem_drop (List.mem_of_mem_take h)
theorem cut_len {α : Type} (l : List α) (lo hi : Option Int) : (cut l lo hi).length ≤ l.length := by
  unfold cut
  rw [List.length_take, List.length_drop]
  omega
theorem kLtT {X : Cx} (K : PySem.W.Frag) (hu : X.A.units + 64 < cLine) (h : X.K = K := by rfl) : OpR X (compareOp .Lt) (rLtT K) := h ▸ op_ltT (by omega)
/-! ### specs -/
abbrev ds_is_number : Ds := ds_law_whole
theorem len_is_number : ∀ ds Qd, ds_is_number ds Qd → ds.length = 1 := by rintro ds Qd ⟨_, rfl, _⟩; rfl
def ds_place_of : Ds := fun ds Q => ∃ (w : Str) (k : Int) (r : List D), ds = [.tuple (.str w :: .int k :: r)] ∧ PyData.strOk w = true ∧ Q (.tuple [.int k, .int (if w = wPut then 0 else 1)])
theorem len_place_of : ∀ ds Qd, ds_place_of ds Qd → ds.length = 1 := by rintro ds Qd ⟨_, _, _, rfl, _⟩; rfl
def ds_edit : Ds := fun ds Q => ∃ (d : D) (n L many : Nat), ds = [d, .int (many : Int)] ∧ Gd n L d ∧ n ≤ 60 ∧ L ≤ 100000 ∧ Q (.bool (isEditD many d))
abbrev ds_is_edit : Ds := ds_edit
abbrev ds_law_is_edit : Ds := ds_edit
theorem len_is_edit : ∀ ds Qd, ds_is_edit ds Qd → ds.length = 2 := by rintro ds Qd ⟨_, _, _, _, rfl, _⟩; rfl
theorem len_law_is_edit : ∀ ds Qd, ds_law_is_edit ds Qd → ds.length = 2 := len_is_edit
def ds_is_draft : Ds := fun ds Q => ∃ (bs : List D) (d : D) (n L : Nat), ds = [.tuple bs, d] ∧ Gd n L d ∧ n ≤ 60 ∧ L ≤ 100000 ∧ Q (.bool (isDraftD bs.length d))
theorem len_is_draft : ∀ ds Qd, ds_is_draft ds Qd → ds.length = 2 := by rintro ds Qd ⟨_, _, _, _, rfl, _⟩; rfl
def ds_law_is_draft : Ds := fun ds Q => ∃ (d : D) (n L many : Nat), ds = [d, .int (many : Int)] ∧ Gd n L d ∧ n ≤ 60 ∧ L ≤ 100000 ∧ many ≤ 1000 ∧ Q (.bool (isDraftD many d))
theorem len_law_is_draft : ∀ ds Qd, ds_law_is_draft ds Qd → ds.length = 2 := by rintro ds Qd ⟨_, _, _, _, rfl, _⟩; rfl
/-! ### drawn edits and drafts -/
inductive Ed
  | put (k : Nat) (xs : List Str)
  | drop (k : Nat)
  | turn (k : Nat) (x : Str)
def Ed.d : Ed → D
  | .put k xs => .tuple [.str wPut, .int (k : Int), .tuple (xs.map PyData.str)]
  | .drop k => .tuple [.str wDrop, .int (k : Int)]
  | .turn k x => .tuple [.str wTurn, .int (k : Int), .str x]
def Ed.at : Ed → Nat | .put k _ => k | .drop k => k | .turn k _ => k
def Ed.sec : Ed → Bool | .put _ _ => false | _ => true
def Ed.pl (e : Ed) : Nat := 2 * e.at + (if e.sec then 1 else 0)
def Ed.Ok (many : Nat) : Ed → Prop
  | .put k xs => k ≤ many ∧ 1 ≤ xs.length ∧ xs.length ≤ 5 ∧ ∀ x ∈ xs, LineS x
  | .drop k => k < many
  | .turn k x => k < many ∧ LineS x
structure DraftOk (many : Nat) (es : List Ed) : Prop where
  len : es.length ≤ 20
  ok : ∀ e ∈ es, e.Ok many
  up : (es.map Ed.pl).Pairwise (· < ·)
def draftD (es : List Ed) : D := .tuple (es.map Ed.d)
theorem Ed.gd {many : Nat} {e : Ed} (h : e.Ok many) : Gd 2 30 e.d := by
  have ⟨w1, w2, w3⟩ := w_ok
  have ⟨l1, l2, l3⟩ := w_len
  cases e with
  | put k xs =>
    refine .tuple (by simp) fun d hd => ?_
    simp only [List.mem_cons, List.not_mem_nil, or_false] at hd
    rcases hd with rfl | rfl | rfl
    · exact .str (by omega) w1
    · exact .int _
    · exact Gd.of_body h.2.2.2 (by decide) (by have := h.2.2.1; omega)
  | drop k =>
    refine .tuple (by simp) fun d hd => ?_
    simp only [List.mem_cons, List.not_mem_nil, or_false] at hd
    rcases hd with rfl | rfl
    · exact .str (by omega) w2
    · exact .int _
  | turn k x =>
    refine .tuple (by simp) fun d hd => ?_
    simp only [List.mem_cons, List.not_mem_nil, or_false] at hd
    rcases hd with rfl | rfl | rfl
    · exact .str (by omega) w3
    · exact .int _
    · exact Gd.of_line h.2 (by decide)
theorem DraftOk.gd {many : Nat} {es : List Ed} (h : DraftOk many es) : Gd 3 30 (draftD es) := .tuple (by rw [List.length_map]; have := h.len; omega) fun d hd => by
  obtain ⟨e, he, rfl⟩ := List.mem_map.mp hd
  exact Ed.gd (h.ok e he)
def ds_law_an_edit : Ds := fun ds Q => ∃ (many k : Nat) (b : Bool), ds = [.int (many : Int), .int (k : Int), .bool b] ∧ ∀ e : Ed, e.at = k → e.sec = b → (∀ many', (b = true → k < many') → k ≤ many' → e.Ok many') → Q e.d
theorem len_law_an_edit : ∀ ds Qd, ds_law_an_edit ds Qd → ds.length + 1 = 4 := by rintro ds Qd ⟨_, _, _, rfl, _⟩; rfl
def ds_law_a_draft : Ds := fun ds Q => ∃ (many : Nat) (often : Int), ds = [.int (many : Int), .int often] ∧ many ≤ 1000 ∧ 0 < often ∧ often ≤ 1000 ∧ ∀ es : List Ed, DraftOk many es → Q (draftD es)
theorem len_law_a_draft : ∀ ds Qd, ds_law_a_draft ds Qd → ds.length + 1 = 3 := by rintro ds Qd ⟨_, _, rfl, _⟩; rfl
end Fc

namespace Fc
open PySem L2
/-! ### what is never reached -/
theorem ps_never {X : Cx} {st : Stmt} : PS X st (fun _ _ _ => False) := ⟨fun _ _ _ _ _ _ h => h.elim⟩
def aNever : AS := fun _ _ => False
section
variable {K : PySem.W.Frag} {c : Ctx K}
theorem as_never : AbsS c (fun _ _ _ => False) aNever := by
  intro ε σ G H rl E D' h e
  exact h.elim
/-! ### str(int), int(text), text.split(sep) -/
def fStrI : AC := fun ds Q => match ds with
  | [.int i] => i.natAbs.log2 < 1920 ∧ Q (.str (toString i))
  | _ => False
theorem ac_strI : AbsC c (fun xs H Q => ∃ i, xs = [V.int i] ∧ i.natAbs.log2 < 1920 ∧ Q (V.str (toString i)) H) fStrI := by
  intro G H xs ds k rx Qd Q h q
  unfold fStrI at h
  split at h
  · cases rx with
    | cons a b => cases b; cases a; exact ⟨_, rfl, h.1, q _ _ G H (.refl k) (.str _) h.2⟩
  · exact h.elim
def fIntS : AC := fun ds Q => match ds with
  | [.str a] => ∃ n, PySem.intText? a = some n ∧ a.length ≤ 640 ∧ Q (.int n)
  | _ => False
theorem ac_intS : AbsC c (fun xs H Q => ∃ a n, xs = [V.str a] ∧ PySem.intText? a = some n ∧ a.length ≤ 640 ∧ Q (V.int n) H) fIntS := by
  intro G H xs ds k rx Qd Q h q
  unfold fIntS at h
  split at h
  · obtain ⟨n, h1, h2, h3⟩ := h
    cases rx with
    | cons a b => cases b; cases a; exact ⟨_, n, rfl, h1, h2, q _ _ G H (.refl k) (.int _) h3⟩
  · exact h.elim
def fSplit : AM1 := fun a y Q => match y with
  | .str b => (b.length == 0) = false ∧ a.length + 2 ≤ sizeLine ∧ Q (.list ((Txt.split a b).map PyData.str))
  | _ => False
theorem am_split : AbsM1 c (fun x xs H Q => ∃ a b, x = V.str a ∧ xs = [V.str b] ∧ (b.length == 0) = false ∧ a.length + 2 ≤ sizeLine ∧ rNewStrs (Txt.split a b) H Q) fSplit := by
  intro G H u y dy k ry Qd Q h q
  cases ry with
  | str v =>
    refine ⟨u, v, rfl, rfl, h.1, h.2.1, fun p hp => ?_⟩
    have s := Step.new (o := .lst ((Txt.split u v).map V.str)) k hp
    exact q _ _ _ _ s (.lst upd_same (RvA.ofStrs _)) h.2.2
  | _ => exact h.elim
/-! ### a tuple among the globals -/
theorem ae_constT {v : V} {d : D} (h : ∀ G, Rv K G v d) : AbsE c (tC v) (aC d) := by
  intro ε σ G H rl Qd Q h2 q
  exact q v d G H (.refl rl.ok) (h G) h2
end
theorem rv_constT {K : PySem.W.Frag} {a : Addr} {us : List V} {ds : List D} (h : ∃ (o : Obj) (its : Array Value) (n : Nat), K.lookup a = some o ∧ o.cls = .type "tuple" ∧ o.data = .seq its n ∧ its.size ≤ sizeLine ∧ Vals us its.toList) (hr : ∀ G, RvA K G us ds) (G : Hp) : Rv K G (.ref a) (.tuple ds) := .tup (.inr h) (hr G)
theorem rv_rep {K : PySem.W.Frag} {a : Addr} {x : Str} {n tn : Nat} {td : Option Addr} {ts : Array (Option Value)} {us : List Value} (hl : K.lookup a = some ⟨.type "tuple", td, .seq us.toArray tn, ts⟩) (hv : Vals (List.replicate n (V.str x)) us) (hn : n ≤ 1000) (G : Hp) : Rv K G (.ref a) (.tuple (List.replicate n (.str x))) := by
  have hlen := hv.length
  rw [List.length_replicate] at hlen
  refine rv_constT (us := List.replicate n (V.str x)) ⟨_, us.toArray, tn, hl, rfl, rfl, by rw [List.size_toArray, ← hlen]; exact sl_of (by omega), by simpa using hv⟩ (fun G => ?_) G
  have := RvA.ofStrs (K := K) (G := G) (List.replicate n x)
  rwa [List.map_replicate, List.map_replicate] at this
end Fc

namespace Fc
open PySem L2
/-! ### bodies and drafts as texts -/
abbrev bar : Str := Str.ofString "|"
abbrev semi : Str := Str.ofString ";"
theorem cl_bar : cl bar = [124] := by decide +kernel
theorem cl_semi : cl semi = [59] := by decide +kernel
theorem cl_empty : cl (Str.ofString "") = [] := by decide +kernel
theorem empty_eq : Str.ofString "" = ⟨#[]⟩ := by decide +kernel
def numS (k : Nat) : Str := toString (k : Int)
def bodyText (xs : List Str) : Str := Txt.join (Str.ofString "") (xs.map fun x => bar ++ x)
def edSign : Ed → Str | .put _ _ => Str.ofString "+" | .drop _ => Str.ofString "-" | .turn _ _ => Str.ofString "="
def edRest : Ed → Str | .put _ xs => bodyText xs | .drop _ => Str.ofString "" | .turn _ x => x
def edText (e : Ed) : Str := match e with | .drop k => numS k ++ Str.ofString "-" | .put k xs => numS k ++ Str.ofString "+" ++ bodyText xs | .turn k x => numS k ++ Str.ofString "=" ++ x
def draftText (es : List Ed) : Str := Txt.join semi (es.map edText)
def digit (k : Nat) : Bool := decide (48 ≤ k) && decide (k ≤ 57)
structure NumOk (k : Nat) : Prop where
  pos : 1 ≤ (cl (numS k)).length
  len : (cl (numS k)).length ≤ 2
  dig : (cl (numS k)).all digit = true
  zero : (cl (numS k)).head? = some 48 → numS k = Str.ofString "0"
  back : PySem.intText? (numS k) = some (k : Int)
theorem num_all : ∀ k : Nat, k ≤ 60 → decide (1 ≤ (cl (numS k)).length) && decide ((cl (numS k)).length ≤ 2) && (cl (numS k)).all digit && (!decide ((cl (numS k)).head? = some 48) || decide (numS k = Str.ofString "0")) && decide (PySem.intText? (numS k) = some (k : Int)) = true := by decide +kernel
theorem num_ok {k : Nat} (h : k ≤ 60) : NumOk k := by
  have := num_all k h
  simp only [Bool.and_eq_true, Bool.or_eq_true, decide_eq_true_eq, Bool.not_eq_true', decide_eq_false_iff_not] at this
  obtain ⟨⟨⟨⟨h1, h2⟩, h3⟩, h4⟩, h5⟩ := this
  exact ⟨h1, h2, h3, fun e => h4.resolve_left fun n => n e, h5⟩
theorem cl_edText (e : Ed) : cl (edText e) = cl (numS e.at) ++ (cl (edSign e) ++ cl (edRest e)) := by
  cases e with
  | put k xs => show cl (numS k ++ Str.ofString "+" ++ bodyText xs) = _; rw [cl_append, cl_append, List.append_assoc]; rfl
  | drop k => show cl (numS k ++ Str.ofString "-") = _; rw [cl_append]; show _ = _ ++ (_ ++ cl (Str.ofString "")); rw [cl_empty, List.append_nil]; rfl
  | turn k x => show cl (numS k ++ Str.ofString "=" ++ x) = _; rw [cl_append, cl_append, List.append_assoc]; rfl
theorem cl_bodyText (xs : List Str) : cl (bodyText xs) = (xs.map fun x => 124 :: cl x).flatten := by
  unfold bodyText
  rw [empty_eq, cl_join0, List.map_map]
  congr 1
  apply List.map_congr_left
  intro x _
  show cl (bar ++ x) = _
  rw [cl_append, cl_bar]; rfl
theorem bodyText_join : ∀ {xs : List Str}, xs ≠ [] → (xs.map fun x => 124 :: cl x).flatten = 124 :: TL.joinL [124] (xs.map cl)
  | [], h => absurd rfl h
  | [x], _ => by simp [TL.joinL]
  | x :: y :: r, _ => by
    rw [List.map_cons, List.flatten_cons, bodyText_join (by simp)]
    simp [TL.joinL]
theorem line_no {x : Str} {k : Nat} (h : LineS x) (hk : signL k = false) : k ∉ cl x := fun hm => by
  have := h.all k hm
  rw [hk] at this; cases this
theorem body_back {xs : List Str} (hne : xs ≠ []) (hx : ∀ x ∈ xs, LineS x) : Txt.split (cutS (bodyText xs) (some 1) none) bar = xs := by
  have hb := cl_bodyText xs
  rw [bodyText_join hne] at hb
  have e : cutS (bodyText xs) (some 1) none = Txt.join bar xs := by
    apply str_ext
    rw [cl_cut, hb, show ((1 : Int)) = ((1 : Nat) : Int) from rfl, cut_from _ 1 (by simp), TL.join_eq]
    have t := TL.tl_join bar xs
    rw [show TL.tl bar = [124] from cl_bar] at t
    exact t.symm
  rw [e]
  refine TL.split_join (s := 124) (S := []) cl_bar (by decide +kernel) hne fun p hp => line_no (hx p hp) (by decide)
/-! sizes -/
theorem flat_len {xs : List Str} (hx : ∀ x ∈ xs, LineS x) : ((xs.map fun x => 124 :: cl x).flatten).length ≤ 31 * xs.length := by
  induction xs with
  | nil => simp
  | cons x r ih =>
    have h1 : (cl x).length ≤ 30 := by rw [cl_len]; exact (hx x List.mem_cons_self).len
    have h2 := ih fun y hy => hx y (List.mem_cons_of_mem _ hy)
    rw [List.map_cons, List.flatten_cons, List.length_append, List.length_cons, List.length_cons]
    omega
theorem bodyText_len {xs : List Str} (hx : ∀ x ∈ xs, LineS x) : (bodyText xs).length ≤ 31 * xs.length := by
  rw [← cl_len, cl_bodyText]; exact flat_len hx
theorem edText_len {e : Ed} (h : e.Ok 60) : 2 ≤ (edText e).length ∧ (edText e).length ≤ 200 := by
  have hk : e.at ≤ 60 := by cases e <;> simp only [Ed.Ok] at h <;> simp only [Ed.at] <;> omega
  have n := num_ok hk
  have n1 := n.pos; have n2 := n.len
  rw [← cl_len, cl_edText, List.length_append, List.length_append]
  have s : (cl (edSign e)).length = 1 := by
    cases e with
    | put k xs => exact (show (cl (Str.ofString "+")).length = 1 by decide +kernel)
    | drop k => exact (show (cl (Str.ofString "-")).length = 1 by decide +kernel)
    | turn k x => exact (show (cl (Str.ofString "=")).length = 1 by decide +kernel)
  have r : (cl (edRest e)).length ≤ 190 := by
    cases e with
    | put k xs =>
      have := bodyText_len h.2.2.2
      have h5 := h.2.2.1
      rw [cl_len]; show (bodyText xs).length ≤ 190; omega
    | drop k => show (cl (Str.ofString "")).length ≤ 190; rw [cl_empty]; decide
    | turn k x => rw [cl_len]; have := h.2.len; show x.length ≤ 190; omega
  omega
theorem Ed.at_le {e : Ed} (h : e.Ok 60) : e.at ≤ 60 := by cases e <;> simp only [Ed.Ok] at h <;> simp only [Ed.at] <;> omega
theorem digit_ne {k : Nat} (h : digit k = true) : 48 ≤ k ∧ k ≤ 57 := by
  unfold digit at h
  simpa using h
theorem no_semi {e : Ed} (h : e.Ok 60) : 59 ∉ cl (edText e) := by
  rw [cl_edText]
  intro hm
  rcases List.mem_append.mp hm with hm | hm
  · have := digit_ne (List.all_eq_true.mp (num_ok (Ed.at_le h)).dig 59 hm); omega
  · rcases List.mem_append.mp hm with hm | hm
    · revert hm
      cases e with
      | put k xs => exact (show ¬ 59 ∈ cl (Str.ofString "+") by decide +kernel)
      | drop k => exact (show ¬ 59 ∈ cl (Str.ofString "-") by decide +kernel)
      | turn k x => exact (show ¬ 59 ∈ cl (Str.ofString "=") by decide +kernel)
    · revert hm
      cases e with
      | put k xs =>
        show 59 ∈ cl (bodyText xs) → False
        rw [cl_bodyText]
        intro hm
        obtain ⟨l, h1, h2⟩ := List.mem_flatten.mp hm
        obtain ⟨x, hx, rfl⟩ := List.mem_map.mp h1
        rcases List.mem_cons.mp h2 with h2 | h2
        · cases h2
        · exact line_no (h.2.2.2 x hx) (by decide) h2
      | drop k => show 59 ∈ cl (Str.ofString "") → False; rw [cl_empty]; exact fun h => nomatch h
      | turn k x => exact line_no h.2 (by decide)
theorem draft_back {es : List Ed} (hne : es ≠ []) (hok : ∀ e ∈ es, e.Ok 60) : Txt.split (draftText es) semi = es.map edText :=
  TL.split_join (s := 59) (S := []) cl_semi (by decide +kernel) (fun h => hne (List.map_eq_nil_iff.mp h)) fun p hp => by
    obtain ⟨e, he, rfl⟩ := List.mem_map.mp hp
    exact no_semi (hok e he)
theorem joinL_len {S : List Nat} {m : Nat} : ∀ {ps : List (List Nat)}, (∀ p ∈ ps, p.length ≤ m) → (TL.joinL S ps).length ≤ ps.length * (m + S.length)
  | [], _ => by simp [TL.joinL]
  | [p], h => by have := h p (by simp); simp only [TL.joinL, List.length_cons, List.length_nil]; omega
  | p :: q :: r, h => by
    have h1 := h p (by simp)
    have h2 := joinL_len (S := S) (ps := q :: r) fun x hx => h x (List.mem_cons_of_mem _ hx)
    simp only [TL.joinL, List.length_append, List.length_cons] at h2 ⊢
    rw [Nat.succ_mul (r.length + 1)]
    omega
theorem draftText_len {es : List Ed} (hl : es.length ≤ 20) (hok : ∀ e ∈ es, e.Ok 60) : (draftText es).length ≤ 5000 := by
  unfold draftText
  rw [← cl_len, TL.join_eq]
  have t := TL.tl_join semi (es.map edText)
  rw [show cl (Str.join semi (es.map edText)) = TL.joinL (cl semi) ((es.map edText).map cl) from t]
  have := joinL_len (S := cl semi) (m := 200) (ps := (es.map edText).map cl) fun p hp => by
    obtain ⟨x, hx, rfl⟩ := List.mem_map.mp hp
    obtain ⟨e, he, rfl⟩ := List.mem_map.mp hx
    rw [cl_len]; exact (edText_len (hok e he)).2
  rw [cl_semi] at this ⊢
  rw [List.length_map, List.length_map] at this
  simp only [List.length_cons, List.length_nil] at this
  omega
theorem draftText_ne {es : List Ed} (hne : es ≠ []) (hok : ∀ e ∈ es, e.Ok 60) : draftText es ≠ Str.ofString "" := fun h => by
  have b := draft_back hne hok
  match es, hne with
  | e :: r, _ =>
    have h2 : draftText (e :: r) = Str.ofString "" := h
    unfold draftText at h2
    rw [TL.join_eq] at h2
    have t := TL.tl_join semi ((e :: r).map edText)
    rw [h2] at t
    have l := (edText_len (hok e (by simp))).1
    rw [← cl_len] at l
    have z : (TL.joinL (TL.tl semi) (((e :: r).map edText).map TL.tl)).length = 0 := by rw [← t]; exact (by decide +kernel)
    cases r with
    | nil => simp only [List.map_cons, List.map_nil, TL.joinL] at z; have : (cl (edText e)).length = 0 := z; omega
    | cons f r =>
      simp only [List.map_cons, TL.joinL, List.length_append] at z
      have : (cl (edText e)).length = 0 := by show (TL.tl (edText e)).length = 0; omega
      omega
theorem draftText_nil : draftText [] = Str.ofString "" := by decide +kernel
/-! a drawn draft is a draft of sixty lines -/
theorem Ed.Ok.up {m n : Nat} {e : Ed} (h : e.Ok m) (hn : m ≤ n) : e.Ok n := by
  cases e with
  | put k xs => exact ⟨Nat.le_trans h.1 hn, h.2⟩
  | drop k => exact Nat.lt_of_lt_of_le h hn
  | turn k x => exact ⟨Nat.lt_of_lt_of_le h.1 hn, h.2⟩
theorem DraftOk.to {m n : Nat} {es : List Ed} (h : DraftOk m es) (hn : m ≤ n) : DraftOk n es := ⟨h.len, fun e he => Ed.Ok.up (h.ok e he) hn, h.up⟩
theorem line_is {x : Str} (h : LineS x) : isLineD (.str x) = true := lineB_iff.mpr h
theorem body_is {xs : List Str} (h : ∀ x ∈ xs, LineS x) (hl : xs.length ≤ 60) : isBodyD (.tuple (xs.map PyData.str)) = true := by
  show (decide ((xs.map PyData.str).length ≤ 60) && (xs.map PyData.str).all isLineD) = true
  rw [List.length_map, decide_eq_true hl, Bool.true_and, List.all_eq_true]
  intro d hd
  obtain ⟨x, hx, rfl⟩ := List.mem_map.mp hd
  exact line_is (h x hx)
theorem edit_is {many : Nat} {e : Ed} (h : e.Ok many) : isEditD many e.d = true := by
  cases e with
  | put k xs =>
    obtain ⟨h1, h2, h3, h4⟩ := h
    show isEditD many (.tuple [.str wPut, .int (k : Int), .tuple (xs.map PyData.str)]) = true
    rw [ed_three, body_is h4 (by omega)]
    show (decide ((0 : Int) ≤ k) && ((decide (wPut = wTurn) && (decide ((k : Int) < many) && isLineD (.tuple (xs.map PyData.str)))) || (decide (wPut = wPut) && (decide ((k : Int) ≤ many) && (true && (decide (1 ≤ (xs.map PyData.str).length) && decide ((xs.map PyData.str).length ≤ 5))))))) = true
    rw [List.length_map, decide_eq_true (show (0 : Int) ≤ k by omega), decide_eq_true (show (k : Int) ≤ many by omega), decide_eq_true h2, decide_eq_true h3]
    simp
  | drop k =>
    have h' : k < many := h
    show isEditD many (.tuple [.str wDrop, .int (k : Int)]) = true
    rw [ed_two, decide_eq_true (show (0 : Int) ≤ k by omega), decide_eq_true (show (k : Int) < many by omega)]
    simp
  | turn k x =>
    have h' : k < many := h.1
    show isEditD many (.tuple [.str wTurn, .int (k : Int), .str x]) = true
    rw [ed_three, line_is h.2, decide_eq_true (show (0 : Int) ≤ k by omega), decide_eq_true (show (k : Int) < many by omega)]
    simp
theorem plD_ed (e : Ed) : plD e.d = (e.pl : Int) := by
  cases e with
  | put k xs => show 2 * (k : Int) + (if wPut = wPut then 0 else 1) = _; rw [if_pos rfl]; show _ = ((2 * k + 0 : Nat) : Int); omega
  | drop k => show 2 * (k : Int) + (if wDrop = wPut then 0 else 1) = _; rw [if_neg (fun h => w_ne.1 h.symm)]; show _ = ((2 * k + 1 : Nat) : Int); omega
  | turn k x => show 2 * (k : Int) + (if wTurn = wPut then 0 else 1) = _; rw [if_neg (fun h => w_ne.2.1 h.symm)]; show _ = ((2 * k + 1 : Nat) : Int); omega
theorem draft_is {many : Nat} {es : List Ed} (h : DraftOk many es) : isDraftD many (draftD es) = true := by
  show (decide ((es.map Ed.d).length ≤ 20) && ((es.map Ed.d).all (isEditD many) && decide (((es.map Ed.d).map plD).Pairwise (· < ·)))) = true
  rw [List.length_map, decide_eq_true h.len, Bool.true_and, Bool.and_eq_true, List.all_eq_true, decide_eq_true_eq]
  refine ⟨fun d hd => ?_, ?_⟩
  · obtain ⟨e, he, rfl⟩ := List.mem_map.mp hd
    exact edit_is (h.ok e he)
  · rw [List.map_map, List.pairwise_map]
    have := h.up
    rw [List.pairwise_map] at this
    exact this.imp fun {a b} hab => by
      show plD a.d < plD b.d
      rw [plD_ed, plD_ed]; omega
theorem sum_le {l : List Str} {m : Nat} (h : ∀ x ∈ l, x.length ≤ m) : (l.map (·.length)).sum ≤ l.length * m := by
  induction l with
  | nil => simp
  | cons x r ih =>
    have h1 := h x List.mem_cons_self
    have h2 := ih fun y hy => h y (List.mem_cons_of_mem _ hy)
    rw [List.map_cons, List.sum_cons, List.length_cons, Nat.succ_mul]
    omega
theorem log_small {k : Nat} (h : k ≤ 60) : ((k : Int)).natAbs.log2 < 1920 := by
  rw [Int.natAbs_natCast]
  exact Nat.lt_of_le_of_lt (Nat.log2_le_self k) (by omega)
theorem map_at {α : Type} {xs : List α} {f : α → D} {i : Nat} {d : D} (h : (xs.map f)[i]? = some d) : ∃ x, xs[i]? = some x ∧ d = f x := by
  rw [List.getElem?_map] at h
  cases hx : xs[i]? with
  | none => rw [hx] at h; cases h
  | some x => rw [hx] at h; exact ⟨x, rfl, (Option.some.inj h).symm⟩
theorem cl_digits : cl (Str.ofString "0123456789") = List.range' 48 10 := by decide +kernel
theorem in_digits (k : Nat) : decide (k ∈ cl (Str.ofString "0123456789")) = digit k := by
  rw [cl_digits]
  unfold digit
  rw [show (decide (48 ≤ k) && decide (k ≤ 57)) = decide (48 ≤ k ∧ k ≤ 57) by simp]
  apply decide_eq_decide.mpr
  rw [List.mem_range'_1]
  omega
theorem cut_mid {α : Type} (xs : List α) (a b : Nat) (ha : a ≤ b) (hb : b ≤ xs.length) : cut xs (some (a : Int)) (some (b : Int)) = (xs.drop a).take (b - a) := by
  unfold cut HT.sIx
  simp only [show ¬ ((a : Int) < 0) by omega, show ¬ ((b : Int) < 0) by omega, if_false, Int.toNat_natCast, Nat.min_eq_left hb, Nat.min_eq_left (Nat.le_trans ha hb)]
theorem cutS_len' (x : Str) (lo hi : Option Int) : (cutS x lo hi).length ≤ x.length := by
  rw [← cl_len, cl_cut, ← cl_len x]
  exact cut_len ..
/-! ### specs -/
def ds_body_text : Ds := fun ds Q => ∃ xs : List Str, ds = [.tuple (xs.map PyData.str)] ∧ xs.length ≤ 60 ∧ (∀ x ∈ xs, LineS x) ∧ Q (.str (bodyText xs))
theorem len_body_text : ∀ ds Qd, ds_body_text ds Qd → ds.length = 1 := by rintro ds Qd ⟨_, rfl, _⟩; rfl
def ds_edit_text : Ds := fun ds Q => ∃ e : Ed, ds = [e.d] ∧ e.Ok 60 ∧ Q (.str (edText e))
theorem len_edit_text : ∀ ds Qd, ds_edit_text ds Qd → ds.length = 1 := by rintro ds Qd ⟨_, rfl, _⟩; rfl
abbrev ds_law_edit_text : Ds := ds_edit_text
theorem len_law_edit_text : ∀ ds Qd, ds_law_edit_text ds Qd → ds.length = 1 := len_edit_text
def ds_draft_text : Ds := fun ds Q => ∃ es : List Ed, ds = [draftD es] ∧ DraftOk 60 es ∧ Q (.str (draftText es))
theorem len_draft_text : ∀ ds Qd, ds_draft_text ds Qd → ds.length = 1 := by rintro ds Qd ⟨_, rfl, _⟩; rfl
def ds_need_text : Ds := fun ds Q => ∃ x : Str, ds = [.str x] ∧ Q .none
theorem len_need_text : ∀ ds Qd, ds_need_text ds Qd → ds.length = 1 := by rintro ds Qd ⟨_, rfl, _⟩; rfl
def ds_read_number : Ds := fun ds Q => ∃ k : Nat, ds = [.str (numS k)] ∧ k ≤ 60 ∧ Q (.int (k : Int))
theorem len_read_number : ∀ ds Qd, ds_read_number ds Qd → ds.length = 1 := by rintro ds Qd ⟨_, rfl, _⟩; rfl
def ds_read_body : Ds := fun ds Q => ∃ xs : List Str, ds = [.str (bodyText xs)] ∧ 1 ≤ xs.length ∧ xs.length ≤ 60 ∧ (∀ x ∈ xs, LineS x) ∧ Q (.tuple (xs.map PyData.str))
theorem len_read_body : ∀ ds Qd, ds_read_body ds Qd → ds.length = 1 := by rintro ds Qd ⟨_, rfl, _⟩; rfl
def ds_read_edit : Ds := fun ds Q => ∃ e : Ed, ds = [.str (edText e)] ∧ e.Ok 60 ∧ Q e.d
theorem len_read_edit : ∀ ds Qd, ds_read_edit ds Qd → ds.length = 1 := by rintro ds Qd ⟨_, rfl, _⟩; rfl
def ds_read_draft : Ds := fun ds Q => ∃ es : List Ed, ds = [.str (draftText es)] ∧ DraftOk 60 es ∧ Q (draftD es)
theorem len_read_draft : ∀ ds Qd, ds_read_draft ds Qd → ds.length = 1 := by rintro ds Qd ⟨_, rfl, _⟩; rfl
end Fc

open PySem L2 Fc in
local macro_rules | `(tactic| walk_at "vc") => `(tactic| simp only [aSeq, aSet, aRet, aRetN, aDrop, aIfS, aNext, aTest, aOp, aUn, aVar, aC, aCons, aNil, aCall, aCallT, aTup, aLst, aAnd, aOr, aNot, aAndV, aOrV, aNotV, aIf, aTru, aOrT, aM1, aM0, aSl, aoSome, aoNo, aLc, aFor, aWhile, aiRng1, aiRng2, aiRng3, aiList, aiTup, aiStr, aiEnum, agName, agTup, agCons, agNil, atYes, aAsg, aChain, aIsi, fI0, fI, fNeg, fAdd, fLen, fTuple, fList, fSl, fInt, fMax2, fMin2, fMulP, fInG, aSetOwnLst, aSetOwnList, aSetOwnRev, aAppend, aSetAt, aPop, aInsert, aFreeze, aRetOwn, aAug, aLenV, aIxOwn, aiAny, aListRg1, aiEnumT, aSetDic, aDPut, aFreezeD, aDGet, aIsi2, aRevL, aAndT, aBreak, aCont, fStrip, fIsN, fNotN, wipeE, List.getElem?_cons_succ, List.getElem?_cons_zero, List.set_cons_succ, List.set_cons_zero, bodyD, ixt0, ixt1, ixt2, ixl0, ixl1, eq_int, ne_int, whole_eq, draw_eq, aline_eq, abody_eq, if_true, decide_eq_true_eq, List.length_cons, List.length_nil])
namespace Lw
open PySem PySem.Spec PyProof.Rows L2 Fc
def topS (i : Nat) : Stmt := PySem.Challenge.pw_faircopy_k31_drafts_as_texts.main.body.getD i (.Pass ⟨0, 0, 0, 0⟩)
abbrev s_is_number : Stmt := topS 4
abbrev N_is_number : List Str := ["thing"]
abbrev ps_is_number : List Str := ["thing"]
theorem sc_is_number : FnScope N_is_number ps_is_number (defScope s_is_number) := ⟨rfl, rfl, rfl, by decide +kernel, rfl, by decide +kernel, by decide +kernel⟩
abbrev s_is_line : Stmt := topS 5
abbrev N_is_line : List Str := ["thing", "sign"]
abbrev ps_is_line : List Str := ["thing"]
theorem sc_is_line : FnScope N_is_line ps_is_line (defScope s_is_line) := ⟨rfl, rfl, rfl, by decide +kernel, rfl, by decide +kernel, by decide +kernel⟩
abbrev s_is_body : Stmt := topS 6
abbrev N_is_body : List Str := ["thing", "line"]
abbrev ps_is_body : List Str := ["thing"]
theorem sc_is_body : FnScope N_is_body ps_is_body (defScope s_is_body) := ⟨rfl, rfl, rfl, by decide +kernel, rfl, by decide +kernel, by decide +kernel⟩
abbrev s_place_of : Stmt := topS 13
abbrev N_place_of : List Str := ["edit"]
abbrev ps_place_of : List Str := ["edit"]
theorem sc_place_of : FnScope N_place_of ps_place_of (defScope s_place_of) := ⟨rfl, rfl, rfl, by decide +kernel, rfl, by decide +kernel, by decide +kernel⟩
abbrev s_is_edit : Stmt := topS 14
abbrev N_is_edit : List Str := ["thing", "many", "word", "k"]
abbrev ps_is_edit : List Str := ["thing", "many"]
theorem sc_is_edit : FnScope N_is_edit ps_is_edit (defScope s_is_edit) := ⟨rfl, rfl, rfl, by decide +kernel, rfl, by decide +kernel, by decide +kernel⟩
abbrev s_is_draft : Stmt := topS 15
abbrev N_is_draft : List Str := ["body", "thing", "edit", "places", "k"]
abbrev ps_is_draft : List Str := ["body", "thing"]
theorem sc_is_draft : FnScope N_is_draft ps_is_draft (defScope s_is_draft) := ⟨rfl, rfl, rfl, by decide +kernel, rfl, by decide +kernel, by decide +kernel⟩
abbrev s_body_text : Stmt := topS 20
abbrev N_body_text : List Str := ["body", "line"]
abbrev ps_body_text : List Str := ["body"]
theorem sc_body_text : FnScope N_body_text ps_body_text (defScope s_body_text) := ⟨rfl, rfl, rfl, by decide +kernel, rfl, by decide +kernel, by decide +kernel⟩
abbrev s_edit_text : Stmt := topS 21
abbrev N_edit_text : List Str := ["edit"]
abbrev ps_edit_text : List Str := ["edit"]
theorem sc_edit_text : FnScope N_edit_text ps_edit_text (defScope s_edit_text) := ⟨rfl, rfl, rfl, by decide +kernel, rfl, by decide +kernel, by decide +kernel⟩
abbrev s_draft_text : Stmt := topS 22
abbrev N_draft_text : List Str := ["draft", "edit"]
abbrev ps_draft_text : List Str := ["draft"]
theorem sc_draft_text : FnScope N_draft_text ps_draft_text (defScope s_draft_text) := ⟨rfl, rfl, rfl, by decide +kernel, rfl, by decide +kernel, by decide +kernel⟩
abbrev s_need_text : Stmt := topS 23
abbrev N_need_text : List Str := ["text"]
abbrev ps_need_text : List Str := ["text"]
theorem sc_need_text : FnScope N_need_text ps_need_text (defScope s_need_text) := ⟨rfl, rfl, rfl, by decide +kernel, rfl, by decide +kernel, by decide +kernel⟩
abbrev s_read_number : Stmt := topS 24
abbrev N_read_number : List Str := ["word", "sign"]
abbrev ps_read_number : List Str := ["word"]
theorem sc_read_number : FnScope N_read_number ps_read_number (defScope s_read_number) := ⟨rfl, rfl, rfl, by decide +kernel, rfl, by decide +kernel, by decide +kernel⟩
abbrev s_read_body : Stmt := topS 25
abbrev N_read_body : List Str := ["text", "body"]
abbrev ps_read_body : List Str := ["text"]
theorem sc_read_body : FnScope N_read_body ps_read_body (defScope s_read_body) := ⟨rfl, rfl, rfl, by decide +kernel, rfl, by decide +kernel, by decide +kernel⟩
abbrev s_read_edit : Stmt := topS 26
abbrev N_read_edit : List Str := ["text", "figures", "k", "sign", "rest"]
abbrev ps_read_edit : List Str := ["text"]
theorem sc_read_edit : FnScope N_read_edit ps_read_edit (defScope s_read_edit) := ⟨rfl, rfl, rfl, by decide +kernel, rfl, by decide +kernel, by decide +kernel⟩
abbrev s_read_draft : Stmt := topS 27
abbrev N_read_draft : List Str := ["text", "draft", "part"]
abbrev ps_read_draft : List Str := ["text"]
theorem sc_read_draft : FnScope N_read_draft ps_read_draft (defScope s_read_draft) := ⟨rfl, rfl, rfl, by decide +kernel, rfl, by decide +kernel, by decide +kernel⟩
abbrev s_law_draw : Stmt := topS 29
abbrev N_law_draw : List Str := ["tape", "many", "prime", "cell", "found"]
abbrev ps_law_draw : List Str := ["tape", "many"]
theorem sc_law_draw : FnScope N_law_draw ps_law_draw (defScope s_law_draw) := ⟨rfl, rfl, rfl, by decide +kernel, rfl, by decide +kernel, by decide +kernel⟩
abbrev s_law_a_line : Stmt := topS 30
abbrev N_law_a_line : List Str := ["tape", "way", "notes", "k"]
abbrev ps_law_a_line : List Str := ["tape"]
theorem sc_law_a_line : FnScope N_law_a_line ps_law_a_line (defScope s_law_a_line) := ⟨rfl, rfl, rfl, by decide +kernel, rfl, by decide +kernel, by decide +kernel⟩
abbrev s_law_an_edit : Stmt := topS 31
abbrev N_law_an_edit : List Str := ["tape", "many", "k", "second", "j"]
abbrev ps_law_an_edit : List Str := ["tape", "many", "k", "second"]
theorem sc_law_an_edit : FnScope N_law_an_edit ps_law_an_edit (defScope s_law_an_edit) := ⟨rfl, rfl, rfl, by decide +kernel, rfl, by decide +kernel, by decide +kernel⟩
abbrev s_law_a_draft : Stmt := topS 32
abbrev N_law_a_draft : List Str := ["tape", "many", "often", "found", "k", "second"]
abbrev ps_law_a_draft : List Str := ["tape", "many", "often"]
theorem sc_law_a_draft : FnScope N_law_a_draft ps_law_a_draft (defScope s_law_a_draft) := ⟨rfl, rfl, rfl, by decide +kernel, rfl, by decide +kernel, by decide +kernel⟩
abbrev s_law_edit_text : Stmt := topS 33
abbrev N_law_edit_text : List Str := ["edit", "line"]
abbrev ps_law_edit_text : List Str := ["edit"]
theorem sc_law_edit_text : FnScope N_law_edit_text ps_law_edit_text (defScope s_law_edit_text) := ⟨rfl, rfl, rfl, by decide +kernel, rfl, by decide +kernel, by decide +kernel⟩
abbrev s_law : Stmt := topS 34
abbrev N_law : List Str := ["script", "tape", "turn", "many", "draft", "text", "edit", "found"]
abbrev ps_law : List Str := ["script"]
theorem sc_law : FnScope N_law ps_law (defScope s_law) := ⟨rfl, rfl, rfl, by decide +kernel, rfl, by decide +kernel, by decide +kernel⟩
def a_law_a_line_5 : AS :=
  (aRet (aOrT (aM1 fStrip (aM1 fJoin (aC (.str (Str.ofString ""))) (aLc (aiRng1 (aCons (aOp fIx (aLst (aCons (aC (.int 30)) (aCons (aC (.int 9)) aNil))) (aOp fSub (aVar 1) (aC (.int 2)))) aNil)) (agName 3) atYes (aOp fIx (aVar 2) (aCallT ds_law_draw 0 (aCons (aC (.int 27)) aNil))) [3])) (aC (.str (Str.ofString " ")))) (aC (.str (Str.ofString "z")))))
def a_law_a_line_4 : AS :=
  (aSeq (aSet 2 (aC (.str (Str.ofString "abcdefghijklmnopqrstuvwxyz "))))
      a_law_a_line_5)
def a_law_a_line_2 : AS :=
  (aSeq (aIfS (aTest (aOp fLt (aVar 1) (aC (.int 2))))
      (aRet (aOp fIx (aLst (aCons (aC (.str (Str.ofString "a"))) (aCons (aC (.str (Str.ofString "b"))) (aCons (aC (.str (Str.ofString "ab"))) (aCons (aC (.str (Str.ofString "a b"))) (aCons (aC (.str (Str.ofString "b a"))) aNil)))))) (aCallT ds_law_draw 0 (aCons (aC (.int 5)) aNil))))
      aNext)
      a_law_a_line_4)
def a_law_a_line : AS :=
  (aSeq (aSet 1 (aCallT ds_law_draw 0 (aCons (aC (.int 4)) aNil)))
      a_law_a_line_2)
theorem vc_law_a_line : ∀ ds Qd, ds_law_a_line ds Qd → a_law_a_line { nx := fun _ => Qd .none, rt := Qd } (startE N_law_a_line.length (.tape :: ds.map Cell.d)) := by
  rintro ds Qd ⟨rfl, hq⟩
  show a_law_a_line _ [.tape, .un, .un, .un]
  unfold a_law_a_line
  walk_at "vc"
  refine ⟨by decide, by decide, fun w w0 w1 => ?_⟩
  unfold a_law_a_line_2
  walk_at "vc"
  split
  · refine ⟨by decide, by decide, by decide, fun r r0 r1 => ix_list r0 (by simpa using r1) fun d hd => ?_⟩
    have hm := mem_get hd
    simp only [List.mem_cons, List.not_mem_nil, or_false] at hm
    rcases hm with rfl | rfl | rfl | rfl | rfl <;> exact hq _ (lineB_iff.mp (by decide +kernel))
  · unfold a_law_a_line_4
    walk_at "vc"
    unfold a_law_a_line_5
    walk_at "vc"
    refine ⟨by decide, ix_list (by omega) (by simp; omega) fun d hd => ?_⟩
    have hm := mem_get hd
    simp only [List.mem_cons, List.not_mem_nil, or_false] at hm
    have key : ∀ j : Int, 0 ≤ j → j ≤ 30 → InRg j ∧ (rngD 0 j.toNat).length ≤ sizeLine ∧ ∃ I : Nat → List D → Prop, I 0 [] ∧ (∀ (i : Nat) (d : D) (acc : List D), (rngD 0 j.toNat)[i]? = some d → I i acc → 0 < (27 : Int) ∧ (27 : Int) < 2 ^ 200 ∧ ∀ (r : Int), 0 ≤ r → r < 27 → fIx (PyData.str (Str.ofString "abcdefghijklmnopqrstuvwxyz ")) (PyData.int r) fun y => I (i + 1) (acc ++ [y])) ∧
        ∀ (acc : List D), I (rngD 0 j.toNat).length acc → fJoin (Str.ofString "") (PyData.list acc) fun x => match x with
          | PyData.str u => u.length ≤ sizeLine ∧ truOk (PyData.str (Txt.stripChars u (Str.ofString " "))) ∧ if truD (PyData.str (Txt.stripChars u (Str.ofString " "))) = true then Qd (PyData.str (Txt.stripChars u (Str.ofString " "))) else Qd (PyData.str (Str.ofString "z"))
          | x => False := fun j j0 j1 => by
      refine ⟨⟨by omega, by omega⟩, by rw [rngD_len]; exact sl_of (by omega), fun i acc => acc.length = i ∧ ∀ y ∈ acc, ∃ k, signL k = true ∧ y = .str ⟨#[k]⟩, ⟨rfl, fun _ h => nomatch h⟩, fun i d acc _ hI => ⟨by decide, by decide, fun r r0 r1 => ix_str (by decide +kernel) r0 r1 fun k hk => ⟨by rw [List.length_append, hI.1]; rfl, all_snoc hI.2 ⟨k, ?_, rfl⟩⟩⟩, fun acc hI => ?_⟩
      · have hm := mem_get hk
        have e : (cl (Str.ofString "abcdefghijklmnopqrstuvwxyz ")).all signL = true := by decide +kernel
        exact List.all_eq_true.mp e k hm
      · rw [rngD_len] at hI
        obtain ⟨l, rfl, hl⟩ := signs_of hI.2
        have hn : l.length = j.toNat := by have h := hI.1; rwa [List.length_map] at h
        have e0 : (Str.ofString "") = ⟨#[]⟩ := by decide +kernel
        have ejl := join_signs l
        refine ⟨l.map fun k => ⟨#[k]⟩, .inl (by rw [List.map_map]; rfl), by rw [sum_ones, List.length_map, e0]; show l.length + l.length * 0 ≤ _; omega, ?_⟩
        rw [e0]
        generalize Txt.join ⟨#[]⟩ (l.map fun k => (⟨#[k]⟩ : Str)) = u at ejl
        have hu : u.length ≤ 30 := by rw [← cl_len, ejl]; omega
        have es := cl_strip u (Str.ofString " ")
        rw [ejl] at es
        have hs : (Txt.stripChars u (Str.ofString " ")).length ≤ 30 := by
          rw [← cl_len, es]; exact Nat.le_trans (strip_len _ _) (by omega)
        refine ⟨sl_of (by omega), show (Txt.stripChars u (Str.ofString " ")).length ≤ sizeLine from sl_of (by omega), ?_⟩
        split
        · rename_i ht
          refine hq _ ?_
          show LineL (cl (Txt.stripChars u (Str.ofString " ")))
          rw [es]
          refine line_strip (by decide +kernel) (by omega) hl fun e => ?_
          rw [e] at es
          have : (Txt.stripChars u (Str.ofString " ")).length = 0 := by rw [← cl_len, es]; rfl
          simp [truD, this] at ht
        · exact hq _ (lineB_iff.mp (by decide +kernel))
    rcases hm with rfl | rfl
    · exact key 30 (by decide) (by decide)
    · exact key 9 (by decide) (by decide)
def a_is_line_5 : AS :=
  (aRet (aCall fAll (aCons (aLc (aiStr (aVar 0)) (agName 1) atYes (aOrV (aOp fInS (aVar 1) (aC (.str (Str.ofString "abcdefghijklmnopqrstuvwxyz")))) (aOp fEq (aVar 1) (aC (.str (Str.ofString " "))))) [1]) aNil)))
def a_is_line_3 : AS :=
  (aSeq (aIfS (aOr (aTest (aOp fEq (aOp fIx (aVar 0) (aC (.int 0))) (aC (.str (Str.ofString " "))))) (aTest (aOp fEq (aOp fIx (aVar 0) (aUn fNeg (aC (.int 1)))) (aC (.str (Str.ofString " "))))))
      (aRet (aC (.bool false)))
      aNext)
      a_is_line_5)
def a_is_line : AS :=
  (aSeq (aIfS (aOr (aNot (aTest (aIsi "str" (aVar 0)))) (aOr (aTest (aOp fLt (aCall fLen (aCons (aVar 0) aNil)) (aC (.int 1)))) (aTest (aOp fGt (aCall fLen (aCons (aVar 0) aNil)) (aC (.int 30))))))
      (aRet (aC (.bool false)))
      aNext)
      a_is_line_3)
def a_is_body_3 : AS :=
  (aRet (aCall fAll (aCons (aLc (aiTup (aVar 0)) (agName 1) atYes (aCall ds_is_line (aCons (aVar 1) aNil)) [1]) aNil)))
def a_is_body : AS :=
  (aSeq (aIfS (aOr (aNot (aTest (aIsi "tuple" (aVar 0)))) (aTest (aOp fGt (aCall fLen (aCons (aVar 0) aNil)) (aC (.int 60)))))
      (aRet (aC (.bool false)))
      aNext)
      a_is_body_3)
theorem vc_is_line : ∀ ds Qd, ds_is_line ds Qd → a_is_line { nx := fun _ => Qd .none, rt := Qd } (startE N_is_line.length (ds.map Cell.d)) := by
  rintro ds Qd ⟨d, n, L, rfl, hd, hn, hL, hq⟩
  show a_is_line _ [.d d, .un]
  unfold a_is_line
  walk_at "vc"
  refine ⟨isStr d, kit_str hd.nd, ?_⟩
  cases hd with
  | @str _ _ x hl hok =>
    refine ite_no (show ¬ (!true) = true by decide) ?_
    have hsz : x.length ≤ sizeLine := sl_of (by omega)
    have hb : isLineD (.str x) = lineB (cl x) := rfl
    walk_at "vc"
    refine ⟨hsz, ?_⟩
    have hcl := cl_len x
    by_cases h1 : (x.length : Int) < 1
    · rw [if_pos h1]
      have e : cl x = [] := List.eq_nil_of_length_eq_zero (by omega)
      rw [hb, e] at hq
      exact hq
    · rw [if_neg h1]
      refine ⟨hsz, ?_⟩
      by_cases h2 : (30 : Int) < (x.length : Int)
      · rw [if_pos h2]
        have e : lineB (cl x) = false := by
          cases hh : lineB (cl x) with
          | false => rfl
          | true => have := (lineB_iff.mp hh).len; omega
        rw [hb, e] at hq
        exact hq
      · rw [if_neg h2]
        have hne : cl x ≠ [] := fun z => by rw [z] at hcl; simp at hcl; omega
        obtain ⟨a, ha⟩ : ∃ a, (cl x).head? = some a := by
          cases hc : cl x with
          | nil => exact absurd hc hne
          | cons a r => exact ⟨a, rfl⟩
        obtain ⟨b, hb2⟩ : ∃ b, (cl x).getLast? = some b := ⟨_, List.getLast?_eq_some_getLast hne⟩
        unfold a_is_line_3
        walk_at "vc"
        have no : ∀ k, ((cl x).head? = some k ∨ (cl x).getLast? = some k) → k = 32 → Qd (.bool false) := fun k hk ek => by
          have e : lineB (cl x) = false := by
            cases hh : lineB (cl x) with
            | false => rfl
            | true =>
              have := lineB_iff.mp hh
              subst ek
              rcases hk with hk | hk
              · exact absurd hk this.hd
              · exact absurd hk this.lst
          rw [hb, e] at hq
          exact hq
        refine ixs_first hsz ha (eq_str ?_)
        rw [one_blank]
        by_cases ea : a = 32
        · rw [show (a == 32) = true from by simpa using ea]
          exact ite_yes rfl (no a (.inl ha) ea)
        · rw [show (a == 32) = false from by simpa using ea]
          refine ite_no Bool.false_ne_true ?_
          refine ixs_last hsz hb2 (eq_str ?_)
          rw [one_blank]
          by_cases eb : b = 32
          · rw [show (b == 32) = true from by simpa using eb]
            exact ite_yes rfl (no b (.inr hb2) eb)
          · rw [show (b == 32) = false from by simpa using eb]
            refine ite_no Bool.false_ne_true ?_
            unfold a_is_line_5
            walk_at "vc"
            refine ⟨by rw [signs_len]; exact hsz, fun i acc => acc = ((cl x).take i).map fun k => PyData.bool (signL k), rfl, ?_, ?_⟩
            · rintro i d acc hdi rfl
              obtain ⟨k, hk, rfl⟩ := signs_at hdi
              refine ⟨k, _, rfl, rfl, ?_⟩
              dsimp only
              rw [in_small, take_at hk, List.map_append]
              cases hs : smallS k with
              | true =>
                refine ite_yes rfl ?_
                have : signL k = true := by unfold signL; rw [hs]; rfl
                simp [this]
              | false =>
                refine ite_no Bool.false_ne_true (eq_str ?_)
                rw [one_blank]
                have : signL k = (k == 32) := by unfold signL; rw [hs]; rfl
                simp [this]
            · rintro acc rfl
              rw [signs_len, show x.cps.size = (cl x).length from (cl_len x).symm, List.take_length]
              refine ⟨(cl x).map signL, by rw [List.map_map]; rfl, ?_⟩
              have e : ((cl x).map signL).all id = lineB (cl x) := by
                rw [List.all_map]
                show (cl x).all signL = _
                cases hh : (cl x).all signL with
                | true => exact (lineB_iff.mpr ⟨hne, by omega, fun k hk => List.all_eq_true.mp hh k hk, fun z => ea (by rw [ha] at z; exact Option.some.inj z), fun z => eb (by rw [hb2] at z; exact Option.some.inj z)⟩).symm
                | false =>
                  cases hh2 : lineB (cl x) with
                  | false => rfl
                  | true =>
                    have := List.all_eq_true.mpr (lineB_iff.mp hh2).all
                    rw [hh] at this; cases this
              rw [e, ← hb]
              exact hq
  | _ => exact ite_yes (show (!false) = true by decide) hq
theorem vc_is_body : ∀ ds Qd, ds_is_body ds Qd → a_is_body { nx := fun _ => Qd .none, rt := Qd } (startE N_is_body.length (ds.map Cell.d)) := by
  rintro ds Qd ⟨d, n, L, rfl, hd, hn, hL, hq⟩
  show a_is_body _ [.d d, .un]
  unfold a_is_body
  walk_at "vc"
  refine ⟨isTup d, kit_tup hd.nd, ?_⟩
  cases hd with
  | @tuple m _ xs hl hx =>
    refine ite_no (show ¬ (!true) = true by decide) ?_
    walk_at "vc"
    have hb : isBodyD (.tuple xs) = (decide (xs.length ≤ 60) && xs.all isLineD) := rfl
    by_cases h1 : (60 : Int) < (xs.length : Int)
    · rw [if_pos h1]
      rw [hb, decide_eq_false (by omega)] at hq
      exact hq
    · rw [if_neg h1]
      rw [hb, decide_eq_true (by omega), Bool.true_and] at hq
      unfold a_is_body_3
      walk_at "vc"
      refine ⟨sl_of (by omega), fun i acc => acc = (xs.take i).map fun y => PyData.bool (isLineD y), rfl, ?_, ?_⟩
      · rintro i d acc hdi rfl
        refine dsof (hx d (mem_get hdi)) (by omega) hL ?_
        dsimp only
        rw [take_at hdi, List.map_append]; rfl
      · rintro acc rfl
        rw [List.take_length]
        refine ⟨xs.map isLineD, by rw [List.map_map]; rfl, ?_⟩
        rw [List.all_map]
        exact hq
  | _ => exact ite_yes (show (!false) = true by decide) hq
def a_is_number : AS :=
  (aRet (aAndV (aIsi "int" (aVar 0)) (aNotV (aIsi "bool" (aVar 0)))))
def a_place_of : AS :=
  (aRet (aTup (aCons (aOp fIx (aVar 0) (aC (.int 1))) (aCons (aCall fInt (aCons (aOp fNe (aOp fIx (aVar 0) (aC (.int 0))) (aC (.str (Str.ofString "put")))) aNil)) aNil))))
def a_is_edit_10 : AS :=
  (aRet (aAndV (aOp fEq (aVar 2) (aC (.str (Str.ofString "put")))) (aAndV (aOp fLe (aVar 3) (aVar 1)) (aAndV (aCall ds_is_body (aCons (aOp fIx (aVar 0) (aC (.int 2))) aNil)) (aAndV (aOp fLe (aC (.int 1)) (aCall fLen (aCons (aOp fIx (aVar 0) (aC (.int 2))) aNil))) (aOp fLe (aCall fLen (aCons (aOp fIx (aVar 0) (aC (.int 2))) aNil)) (aC (.int 5))))))))
def a_is_edit_8 : AS :=
  (aSeq (aIfS (aTest (aOp fEq (aVar 2) (aC (.str (Str.ofString "turn")))))
      (aRet (aAndV (aOp fLt (aVar 3) (aVar 1)) (aCall ds_is_line (aCons (aOp fIx (aVar 0) (aC (.int 2))) aNil))))
      aNext)
      a_is_edit_10)
def a_is_edit_6 : AS :=
  (aSeq (aIfS (aOr (aTest (aOp fNe (aCall fLen (aCons (aVar 0) aNil)) (aC (.int 3)))) (aTest (aOp fLt (aVar 3) (aC (.int 0)))))
      (aRet (aC (.bool false)))
      aNext)
      a_is_edit_8)
def a_is_edit_4 : AS :=
  (aSeq (aIfS (aTest (aOp fEq (aVar 2) (aC (.str (Str.ofString "drop")))))
      (aRet (aAndV (aOp fEq (aCall fLen (aCons (aVar 0) aNil)) (aC (.int 2))) (aAndV (aOp fLe (aC (.int 0)) (aVar 3)) (aOp fLt (aVar 3) (aVar 1)))))
      aNext)
      a_is_edit_6)
def a_is_edit_3 : AS :=
  (aSeq (aAsg (aSl (aVar 0) aoNo (aoSome (aC (.int 2)))) (agTup 2 (agCons (agName 2) (agCons (agName 3) agNil))))
      a_is_edit_4)
def a_is_edit : AS :=
  (aSeq (aIfS (aOr (aNot (aTest (aIsi "tuple" (aVar 0)))) (aOr (aTest (aOp fLt (aCall fLen (aCons (aVar 0) aNil)) (aC (.int 2)))) (aOr (aNot (aTest (aIsi "str" (aOp fIx (aVar 0) (aC (.int 0)))))) (aNot (aTest (aCall ds_is_number (aCons (aOp fIx (aVar 0) (aC (.int 1))) aNil)))))))
      (aRet (aC (.bool false)))
      aNext)
      a_is_edit_3)
theorem vc_is_number : ∀ ds Qd, ds_is_number ds Qd → a_is_number { nx := fun _ => Qd .none, rt := Qd } (startE N_is_number.length (ds.map Cell.d)) := by
  rintro ds Qd ⟨d, rfl, hd, hq⟩
  show a_is_number _ [.d d]
  unfold a_is_number
  walk_at "vc"
  obtain ⟨b, b', h1, h2, h3⟩ := kit_whole d hd
  refine ⟨b, h1, ?_⟩
  cases b with
  | true =>
    rw [if_pos rfl]
    refine ⟨b', h2, ?_⟩
    rw [← h3] at hq; simpa using hq
  | false =>
    rw [if_neg Bool.false_ne_true]
    rw [← h3] at hq; simpa using hq
theorem vc_place_of : ∀ ds Qd, ds_place_of ds Qd → a_place_of { nx := fun _ => Qd .none, rt := Qd } (startE N_place_of.length (ds.map Cell.d)) := by
  rintro ds Qd ⟨w, k, r, rfl, hw, hq⟩
  show a_place_of _ [.d (.tuple (.str w :: .int k :: r))]
  unfold a_place_of
  walk_at "vc"
  refine ne_w (n := 0) (L := w.length) (.str (Nat.le_refl _) hw) (by decide) w_ok.1 ⟨by decide, ?_⟩
  have e : (if (!isW wPut (.str w)) = true then (1 : Int) else 0) = if w = wPut then 0 else 1 := by
    by_cases h : w = wPut <;> simp [isW, h]
  rw [e]; exact hq
theorem vc_is_edit : ∀ ds Qd, ds_is_edit ds Qd → a_is_edit { nx := fun _ => Qd .none, rt := Qd } (startE N_is_edit.length (ds.map Cell.d)) := by
  rintro ds Qd ⟨d, n, L, many, rfl, hd, hn, hL, hq⟩
  show a_is_edit _ [.d d, .d (.int many), .un, .un]
  unfold a_is_edit
  walk_at "vc"
  refine ⟨isTup d, kit_tup hd.nd, ?_⟩
  cases hd with
  | @tuple m _ xs hl hx =>
    refine ite_no (show ¬ (!true) = true by decide) ?_
    match xs, hl, hx, hq with
    | [], hl, hx, hq => exact ite_yes (by decide) hq
    | [x], hl, hx, hq => rw [ed_one] at hq; exact ite_yes (by simp) hq
    | x :: y :: r, hl, hx, hq =>
      have gx := hx x List.mem_cons_self
      have gy := hx y (List.mem_cons_of_mem _ List.mem_cons_self)
      refine ite_no (by simp; omega) ?_
      rw [ixt0]
      refine ⟨isStr x, kit_str gx.nd, ?_⟩
      cases gx with
      | @str _ _ w hlw hw =>
        refine ite_no (show ¬ (!true) = true by decide) ?_
        rw [ixt1]
        refine ⟨gy.nd, ?_⟩
        have g0 : Gd 0 L (.str w) := .str hlw hw
        cases gy with
        | int k =>
          refine ite_no (show ¬ (!true) = true by decide) ?_
          unfold a_is_edit_3
          walk_at "vc"
          have e : cut (PyData.str w :: PyData.int k :: r) none (some 2) = [PyData.str w, PyData.int k] := cut_to (PyData.str w :: PyData.int k :: r) 2 (by simp)
          rw [e]
          refine ⟨rfl, rfl, ?_⟩
          unfold a_is_edit_4
          walk_at "vc"
          refine eq_w g0 (by decide) w_ok.2.1 ?_
          by_cases hd : w = wDrop
          · refine ite_yes (by simp [isW, hd]) ?_
            match r, hl, hx, hq with
            | [], hl, hx, hq =>
              rw [ed_two, decide_eq_true hd, Bool.true_and] at hq
              refine ite_yes (by simp) ?_
              by_cases h0 : 0 ≤ k
              · rw [decide_eq_true h0, Bool.true_and] at hq
                refine ite_yes (by simpa using h0) ?_
                simpa using hq
              · rw [decide_eq_false h0, Bool.false_and] at hq
                refine ite_no (by simpa using h0) ?_
                simpa [h0] using hq
            | [z], hl, hx, hq =>
              refine ite_no (by simp) ?_
              rw [ed_three, decide_eq_false (show ¬ w = wTurn from fun e => w_ne.2.2 (hd ▸ e)), decide_eq_false (show ¬ w = wPut from fun e => w_ne.1 (hd ▸ e.symm))] at hq
              simpa using hq
            | z :: z2 :: r, hl, hx, hq =>
              refine ite_no (by simp; omega) ?_
              rw [ed_long] at hq
              exact hq
          · refine ite_no (by simp [isW, hd]) ?_
            unfold a_is_edit_6
            walk_at "vc"
            match r, hl, hx, hq with
            | [], hl, hx, hq =>
              rw [ed_two, decide_eq_false hd] at hq
              exact ite_yes (by decide) (by simpa using hq)
            | z :: z2 :: r, hl, hx, hq =>
              rw [ed_long] at hq
              exact ite_yes (by simp; omega) hq
            | [z], hl, hx, hq =>
              have gz := hx z (by simp)
              refine ite_no (by simp) ?_
              rw [ed_three] at hq
              by_cases h0 : k < 0
              · rw [decide_eq_false (by omega), Bool.false_and] at hq
                exact ite_yes h0 hq
              · rw [decide_eq_true (by omega), Bool.true_and] at hq
                refine ite_no h0 ?_
                unfold a_is_edit_8
                walk_at "vc"
                refine eq_w g0 (by decide) w_ok.2.2 ?_
                by_cases ht : w = wTurn
                · refine ite_yes (by simp [isW, ht]) ?_
                  rw [decide_eq_true ht, decide_eq_false (show ¬ w = wPut from fun e => w_ne.2.1 (e.symm.trans ht)), Bool.true_and, Bool.false_and, Bool.or_false] at hq
                  by_cases hk : k < (many : Int)
                  · rw [decide_eq_true hk, Bool.true_and] at hq
                    refine ite_yes (by simpa using hk) ?_
                    exact dsof gz (by omega) hL hq
                  · rw [decide_eq_false hk, Bool.false_and] at hq
                    refine ite_no (by simpa using hk) ?_
                    simpa [hk] using hq
                · refine ite_no (by simp [isW, ht]) ?_
                  rw [decide_eq_false ht, Bool.false_and, Bool.false_or] at hq
                  unfold a_is_edit_10
                  walk_at "vc"
                  refine eq_w g0 (by decide) w_ok.1 ?_
                  by_cases hp : w = wPut
                  · rw [decide_eq_true hp, Bool.true_and] at hq
                    refine ite_yes (by simp [isW, hp]) ?_
                    by_cases hk : k ≤ (many : Int)
                    · rw [decide_eq_true hk, Bool.true_and] at hq
                      refine ite_yes (by simpa using hk) ?_
                      refine dsof gz (by omega) hL ?_
                      cases hb : isBodyD z with
                      | false => rw [hb] at hq; exact ite_no Bool.false_ne_true hq
                      | true =>
                        rw [hb, Bool.true_and] at hq
                        obtain ⟨zs, rfl⟩ := body_tup hb
                        refine ite_yes rfl ?_
                        have e1 : isEditD.lenD (PyData.tuple zs) = zs.length := rfl
                        rw [e1] at hq
                        by_cases h1 : (1 : Int) ≤ (zs.length : Int)
                        · refine ite_yes h1 ?_
                          rw [decide_eq_true (show 1 ≤ zs.length by omega), Bool.true_and, show decide (zs.length ≤ 5) = decide ((zs.length : Int) ≤ 5) from decide_eq_decide.mpr (by omega)] at hq
                          exact hq
                        · refine ite_no h1 ?_
                          rw [decide_eq_false (show ¬ 1 ≤ zs.length by omega), Bool.false_and] at hq
                          exact hq
                    · rw [decide_eq_false hk, Bool.false_and] at hq
                      refine ite_no (by simpa using hk) ?_
                      simpa [hk] using hq
                  · rw [decide_eq_false hp, Bool.false_and] at hq
                    refine ite_no (by simp [isW, hp]) ?_
                    simpa [isW, hp] using hq
        | _ => rw [ed_ni rfl] at hq; exact ite_yes (show (!false) = true by decide) hq
      | _ => rw [ed_ns rfl] at hq; exact ite_yes (show (!false) = true by decide) hq
  | _ => exact ite_yes (show (!false) = true by decide) hq
def a_is_draft_6 : AS :=
  (aRet (aCall fAll (aCons (aLc (aiRng2 (aCons (aC (.int 1)) (aCons (aCall fLen (aCons (aVar 3) aNil)) aNil))) (agName 4) atYes (aOp fLtT (aOp fIx (aVar 3) (aOp fSub (aVar 4) (aC (.int 1)))) (aOp fIx (aVar 3) (aVar 4))) [4]) aNil)))
def a_is_draft_5 : AS :=
  (aSeq (aSet 3 (aLc (aiTup (aVar 1)) (agName 2) atYes (aCall ds_place_of (aCons (aVar 2) aNil)) [2]))
      a_is_draft_6)
def a_is_draft_3 : AS :=
  (aSeq (aIfS (aNot (aTest (aCall fAll (aCons (aLc (aiTup (aVar 1)) (agName 2) atYes (aCall ds_is_edit (aCons (aVar 2) (aCons (aCall fLen (aCons (aVar 0) aNil)) aNil))) [2]) aNil))))
      (aRet (aC (.bool false)))
      aNext)
      a_is_draft_5)
def a_is_draft : AS :=
  (aSeq (aIfS (aOr (aNot (aTest (aIsi "tuple" (aVar 1)))) (aTest (aOp fGt (aCall fLen (aCons (aVar 1) aNil)) (aC (.int 20)))))
      (aRet (aC (.bool false)))
      aNext)
      a_is_draft_3)
theorem vc_is_draft : ∀ ds Qd, ds_is_draft ds Qd → a_is_draft { nx := fun _ => Qd .none, rt := Qd } (startE N_is_draft.length (ds.map Cell.d)) := by
  rintro ds Qd ⟨bs, d, n, L, rfl, hd, hn, hL, hq⟩
  show a_is_draft _ [.d (.tuple bs), .d d, .un, .un, .un]
  unfold a_is_draft
  walk_at "vc"
  refine ⟨isTup d, kit_tup hd.nd, ?_⟩
  cases hd with
  | @tuple m _ xs hl hx =>
    refine ite_no (show ¬ (!true) = true by decide) ?_
    have hb : isDraftD bs.length (.tuple xs) = (decide (xs.length ≤ 20) && (xs.all (isEditD bs.length) && decide ((xs.map plD).Pairwise (· < ·)))) := rfl
    rw [hb] at hq
    by_cases h1 : (20 : Int) < (xs.length : Int)
    · rw [decide_eq_false (by omega)] at hq
      exact ite_yes h1 hq
    · rw [decide_eq_true (by omega), Bool.true_and] at hq
      refine ite_no h1 ?_
      unfold a_is_draft_3
      walk_at "vc"
      refine ⟨sl_of (by omega), fun i acc => acc = (xs.take i).map fun y => PyData.bool (isEditD bs.length y), rfl, ?_, ?_⟩
      · rintro i d acc hdi rfl
        refine ⟨d, m, L, bs.length, rfl, hx d (mem_get hdi), by omega, hL, ?_⟩
        dsimp only
        rw [take_at hdi, List.map_append]; rfl
      · rintro acc rfl
        rw [List.take_length]
        refine ⟨xs.map (isEditD bs.length), by rw [List.map_map]; rfl, ?_⟩
        rw [List.all_map]
        cases ha : xs.all (id ∘ isEditD bs.length) with
        | false =>
          rw [show xs.all (isEditD bs.length) = false from ha] at hq
          exact ite_yes rfl hq
        | true =>
          rw [show xs.all (isEditD bs.length) = true from ha, Bool.true_and] at hq
          have hed : ∀ y ∈ xs, isEditD bs.length y = true := List.all_eq_true.mp ha
          refine ite_no (show ¬ (!true) = true by decide) ?_
          unfold a_is_draft_5
          walk_at "vc"
          refine ⟨sl_of (by omega), fun i acc => acc = (xs.take i).map plT, rfl, ?_, ?_⟩
          · rintro i d acc hdi rfl
            obtain ⟨w, k, r, rfl, _⟩ := edit_shape (hed d (mem_get hdi))
            have hw : PyData.strOk w = true := by
              cases hx _ (mem_get hdi) with
              | tuple _ h2 =>
                cases h2 _ List.mem_cons_self with
                | str _ h => exact h
            refine ⟨w, k, r, rfl, hw, ?_⟩
            dsimp only
            rw [take_at hdi, List.map_append]; rfl
          · rintro acc rfl
            rw [List.take_length]
            unfold a_is_draft_6
            walk_at "vc"
            rw [List.length_map]
            refine ⟨⟨⟨by decide, by decide⟩, by omega, by omega⟩, by rw [rngD_len]; exact sl_of (by omega), fun i acc => acc = (List.range i).map fun j => PyData.bool (decide ((xs.map plD).getD j 0 < (xs.map plD).getD (j + 1) 0)), rfl, ?_, ?_⟩
            · rintro i d acc hdi rfl
              obtain ⟨hi, rfl⟩ := rng_at2 hdi
              have h1 : xs[i]? = some xs[i] := List.getElem?_eq_getElem (by omega)
              have h2 : xs[i + 1]? = some xs[i + 1] := List.getElem?_eq_getElem (by omega)
              obtain ⟨a, b, e1, e2, e3⟩ := pl_at (hed xs[i] (List.getElem_mem ..))
              obtain ⟨a', b', e1', e2', e3'⟩ := pl_at (hed xs[i + 1] (List.getElem_mem ..))
              show fIx (.list (xs.map plT)) (.int (1 + (i : Int) - 1)) _
              rw [show (1 + (i : Int) - 1) = (i : Int) by omega, show (1 + (i : Int)) = ((i + 1 : Nat) : Int) by omega]
              refine ixl_map h1 (ixl_map h2 ⟨[a, b], [a', b'], e1, e1', ?_⟩)
              dsimp only
              rw [List.range_succ, List.map_append, lex_two e2 e2']
              show _ = _ ++ [PyData.bool (decide ((xs.map plD).getD i 0 < (xs.map plD).getD (i + 1) 0))]
              rw [getD_at 0 (show (xs.map plD)[i]? = some (plD xs[i]) by rw [List.getElem?_map, h1]; rfl), getD_at 0 (show (xs.map plD)[i + 1]? = some (plD xs[i + 1]) by rw [List.getElem?_map, h2]; rfl), e3, e3']
            · rintro acc rfl
              rw [rngD_len]
              refine ⟨_, (List.map_map ..).symm, ?_⟩
              have e := rising_all (xs.map plD)
              rw [List.length_map] at e
              rw [show ((xs.length : Int) - 1).toNat = xs.length - 1 by omega]
              rw [← e] at hq
              exact hq
  | _ => exact ite_yes (show (!false) = true by decide) hq
def a_law_an_edit_3 : AS :=
  (aRet (aOp fIx (aLst (aCons (aTup (aCons (aC (.str (Str.ofString "drop"))) (aCons (aVar 2) aNil))) (aCons (aTup (aCons (aC (.str (Str.ofString "turn"))) (aCons (aVar 2) (aCons (aCallT ds_law_a_line 0 aNil) aNil)))) aNil))) (aCallT ds_law_draw 0 (aCons (aC (.int 2)) aNil))))
def a_law_an_edit : AS :=
  (aSeq (aIfS (aNot (aTest (aVar 3)))
      (aRet (aTup (aCons (aC (.str (Str.ofString "put"))) (aCons (aVar 2) (aCons (aCall fTuple (aCons (aLc (aiRng1 (aCons (aOp fAdd (aC (.int 1)) (aCallT ds_law_draw 0 (aCons (aOp fIx (aLst (aCons (aC (.int 2)) (aCons (aC (.int 5)) aNil))) (aCallT ds_law_draw 0 (aCons (aC (.int 2)) aNil))) aNil))) aNil)) (agName 4) atYes (aCallT ds_law_a_line 0 aNil) [4]) aNil)) aNil)))))
      aNext)
      a_law_an_edit_3)
def a_law_a_draft_4 : AS :=
  (aIfS (aAnd (aTest (aOp fLt (aLenV 3) (aC (.int 20)))) (aAnd (aTest (aOp fEq (aCallT ds_law_draw 0 (aCons (aVar 2) aNil)) (aC (.int 0)))) (aOr (aTest (aOp fLt (aVar 4) (aVar 1))) (aNot (aTest (aVar 5))))))
      (aAppend 3 (aCallT ds_law_an_edit 0 (aCons (aVar 1) (aCons (aVar 4) (aCons (aVar 5) aNil)))))
      aNext)
def a_law_a_draft_3 : AS :=
  (aFor (aiTup (aTup (aCons (aC (.bool false)) (aCons (aC (.bool true)) aNil)))) (agName 5)
      a_law_a_draft_4)
def a_law_a_draft_6 : AS :=
  (aFreeze 3 (aRet (aCall fTuple (aCons (aVar 3) aNil))))
def a_law_a_draft_2 : AS :=
  (aSeq (aFor (aiRng1 (aCons (aOp fAdd (aVar 1) (aC (.int 1))) aNil)) (agName 4)
      a_law_a_draft_3)
      a_law_a_draft_6)
def a_law_a_draft : AS :=
  (aSeq (aSetOwnLst 3 aNil)
      a_law_a_draft_2)
theorem vc_law_an_edit : ∀ ds Qd, ds_law_an_edit ds Qd → a_law_an_edit { nx := fun _ => Qd .none, rt := Qd } (startE N_law_an_edit.length (.tape :: ds.map Cell.d)) := by
  rintro ds Qd ⟨many, k, b, rfl, hq⟩
  show a_law_an_edit _ [.tape, .d (.int many), .d (.int k), .d (.bool b), .un]
  unfold a_law_an_edit
  walk_at "vc"
  cases b with
  | false =>
    refine ite_yes rfl ⟨by decide, by decide, by decide, fun r r0 r1 => ix_list r0 (by simpa using r1) fun d hd => ?_⟩
    obtain ⟨mi, rfl, m0, m1⟩ : ∃ mi : Int, d = .int mi ∧ 0 < mi ∧ mi ≤ 5 := by
      have h := mem_get hd
      simp only [List.mem_cons, List.not_mem_nil, or_false] at h
      rcases h with rfl | rfl
      · exact ⟨2, rfl, by decide, by decide⟩
      · exact ⟨5, rfl, by decide, by decide⟩
    walk_at "vc"
    refine ⟨m0, by omega, fun q q0 q1 => ⟨⟨by omega, by omega⟩, by rw [rngD_len]; exact sl_of (by omega), fun i acc => acc.length = i ∧ ∀ y ∈ acc, ∃ x, LineS x ∧ y = .str x, ⟨rfl, fun _ h => nomatch h⟩, fun i d acc _ hI x hx => ⟨by rw [List.length_append, hI.1]; rfl, all_snoc hI.2 ⟨x, hx, rfl⟩⟩, fun acc hI => ⟨by decide, ?_⟩⟩⟩
    rw [rngD_len] at hI
    obtain ⟨xs, rfl, hxs⟩ := lines_of hI.2
    rw [List.length_map] at hI
    exact hq (.put k xs) rfl rfl fun m' _ hk => ⟨hk, by omega, by omega, hxs⟩
  | true =>
    refine ite_no (by decide) ?_
    unfold a_law_an_edit_3
    walk_at "vc"
    refine ⟨by decide, fun x hx => ⟨by decide, by decide, by decide, by decide, fun r r0 r1 => ix_list r0 (by simpa using r1) fun d hd => ?_⟩⟩
    have h := mem_get hd
    simp only [List.mem_cons, List.not_mem_nil, or_false] at h
    rcases h with rfl | rfl
    · exact hq (.drop k) rfl rfl fun m' h _ => h rfl
    · exact hq (.turn k x) rfl rfl fun m' h _ => ⟨h rfl, hx⟩
theorem vc_law_a_draft : ∀ ds Qd, ds_law_a_draft ds Qd → a_law_a_draft { nx := fun _ => Qd .none, rt := Qd } (startE N_law_a_draft.length (.tape :: ds.map Cell.d)) := by
  rintro ds Qd ⟨many, often, rfl, hm, ho, ho2, hq⟩
  show a_law_a_draft _ [.tape, .d (.int many), .d (.int often), .un, .un, .un]
  unfold a_law_a_draft
  walk_at "vc"
  refine ⟨by decide, ?_⟩
  unfold a_law_a_draft_2
  walk_at "vc"
  refine ⟨⟨by omega, by omega⟩, fun i ε => ∃ (es : List Ed) (a b : Cell), ε = [.tape, .d (.int many), .d (.int often), .own (es.map Ed.d), a, b] ∧ DraftOk many es ∧ ∀ e ∈ es, e.pl < 2 * i, ⟨[], _, _, rfl, ⟨by decide, (fun _ h => nomatch h), .nil⟩, (fun _ h => nomatch h)⟩, ?_, ?_⟩
  · rintro i d ε hd ⟨es, a, b, rfl, hes, hlt⟩
    obtain ⟨hi, rfl⟩ := rng_at hd
    unfold a_law_a_draft_3
    walk_at "vc"
    refine ⟨by decide, fun j ε => ∃ (es : List Ed) (b : Cell), ε = [.tape, .d (.int many), .d (.int often), .own (es.map Ed.d), .d (.int (i : Int)), b] ∧ DraftOk many es ∧ ∀ e ∈ es, e.pl < 2 * i + j, ⟨es, _, rfl, hes, hlt⟩, ?_, ?_⟩
    · rintro j d ε hd ⟨es, b, rfl, hes, hlt⟩
      obtain ⟨sec, rfl, hj⟩ : ∃ sec : Bool, d = .bool sec ∧ j = if sec = true then 1 else 0 := by
        match j, hd with
        | 0, hd => exact ⟨false, (Option.some.inj hd).symm, rfl⟩
        | 1, hd => exact ⟨true, (Option.some.inj hd).symm, rfl⟩
        | _ + 2, hd => cases hd
      have keep : ∃ (es' : List Ed) (b : Cell), [Cell.tape, .d (.int many), .d (.int often), .own (es.map Ed.d), .d (.int (i : Int)), .d (.bool sec)] = [.tape, .d (.int many), .d (.int often), .own (es'.map Ed.d), .d (.int (i : Int)), b] ∧ DraftOk many es' ∧ ∀ e ∈ es', e.pl < 2 * i + (j + 1) := ⟨es, _, rfl, hes, fun e he => by have := hlt e he; omega⟩
      unfold a_law_a_draft_4
      walk_at "vc"
      have add : (sec = true → i < many) → es.length < 20 → ds_law_an_edit [PyData.int (many : Int), PyData.int (i : Int), PyData.bool sec] fun d => (es.map Ed.d).length < sizeLine ∧ ∃ (es' : List Ed) (b : Cell), [Cell.tape, .d (.int many), .d (.int often), .own (es.map Ed.d ++ [d]), .d (.int (i : Int)), .d (.bool sec)] = [.tape, .d (.int many), .d (.int often), .own (es'.map Ed.d), .d (.int (i : Int)), b] ∧ DraftOk many es' ∧ ∀ e ∈ es', e.pl < 2 * i + (j + 1) := by
        intro hs h20
        refine ⟨many, i, sec, rfl, fun e e1 e2 e3 => ⟨Nat.lt_of_le_of_lt (show (es.map Ed.d).length ≤ 20 by rw [List.length_map]; omega) (by decide), es ++ [e], _, by rw [List.map_append]; rfl, ?_⟩⟩
        have ep : e.pl = 2 * i + j := by unfold Ed.pl; rw [e1, e2, hj]
        refine ⟨⟨by rw [List.length_append]; simp; omega, all_snoc hes.ok (e3 many hs (by omega)), ?_⟩, all_snoc (fun e he => by have := hlt e he; omega) (by omega)⟩
        rw [List.map_append, List.pairwise_append]
        refine ⟨hes.up, List.pairwise_singleton .., fun a ha b hb => ?_⟩
        obtain ⟨e', he', rfl⟩ := List.mem_map.mp ha
        rw [List.mem_singleton.mp hb, ep]
        exact hlt e' he'
      rw [List.length_map] at *
      by_cases h20 : (es.length : Int) < 20
      · refine ite_yes h20 ⟨ho, by omega, fun r r0 r1 => ?_⟩
        split
        · split
          · exact add (fun _ => by omega) (by omega)
          · split
            · exact add (fun h => by subst h; contradiction) (by omega)
            · exact keep
        · exact ite_no Bool.false_ne_true keep
      · exact ite_no h20 (ite_no Bool.false_ne_true keep)
    · rintro ε ⟨es, b, rfl, hes, hlt⟩
      exact ⟨es, _, _, rfl, hes, fun e he => by have := hlt e he; omega⟩
  · rintro ε ⟨es, a, b, rfl, hes, _⟩
    unfold a_law_a_draft_6
    walk_at "vc"
    exact hq es hes
def a_body_text : AS :=
  (aRet (aM1 fJoin (aC (.str (Str.ofString ""))) (aLc (aiTup (aVar 0)) (agName 1) atYes (aOp fAdd (aC (.str (Str.ofString "|"))) (aVar 1)) [1])))
def a_edit_text_5 : AS :=
  (aRet (aOp fAdd (aOp fAdd (aCall fStrI (aCons (aOp fIx (aVar 0) (aC (.int 1))) aNil)) (aC (.str (Str.ofString "=")))) (aOp fIx (aVar 0) (aC (.int 2)))))
def a_edit_text_3 : AS :=
  (aSeq (aIfS (aTest (aOp fEq (aOp fIx (aVar 0) (aC (.int 0))) (aC (.str (Str.ofString "drop")))))
      (aRet (aOp fAdd (aCall fStrI (aCons (aOp fIx (aVar 0) (aC (.int 1))) aNil)) (aC (.str (Str.ofString "-")))))
      aNext)
      a_edit_text_5)
def a_edit_text : AS :=
  (aSeq (aIfS (aTest (aOp fEq (aOp fIx (aVar 0) (aC (.int 0))) (aC (.str (Str.ofString "put")))))
      (aRet (aOp fAdd (aOp fAdd (aCall fStrI (aCons (aOp fIx (aVar 0) (aC (.int 1))) aNil)) (aC (.str (Str.ofString "+")))) (aCall ds_body_text (aCons (aOp fIx (aVar 0) (aC (.int 2))) aNil))))
      aNext)
      a_edit_text_3)
def a_draft_text : AS :=
  (aRet (aM1 fJoin (aC (.str (Str.ofString ";"))) (aLc (aiTup (aVar 0)) (agName 1) atYes (aCall ds_edit_text (aCons (aVar 1) aNil)) [1])))
theorem vc_body_text : ∀ ds Qd, ds_body_text ds Qd → a_body_text { nx := fun _ => Qd .none, rt := Qd } (startE N_body_text.length (ds.map Cell.d)) := by
  rintro ds Qd ⟨xs, rfl, hl, hx, hq⟩
  show a_body_text _ [.d (.tuple (xs.map PyData.str)), .un]
  unfold a_body_text
  walk_at "vc"
  rw [List.length_map]
  refine ⟨sl_of (by omega), fun i acc => acc = (xs.take i).map fun x => PyData.str (bar ++ x), rfl, ?_, ?_⟩
  · rintro i d acc hd rfl
    obtain ⟨x, hxi, rfl⟩ := map_at hd
    have hlx := (hx x (mem_get hxi)).len
    refine ⟨sl_of (by rw [show (Str.ofString "|").length = 1 by decide +kernel]; omega), ?_⟩
    dsimp only
    rw [take_at hxi, List.map_append]; rfl
  · rintro acc rfl
    rw [List.take_length]
    refine ⟨xs.map (bar ++ ·), .inl (by rw [List.map_map]; rfl), ?_, hq⟩
    have := sum_le (l := xs.map (bar ++ ·)) (m := 31) fun y hy => by
      obtain ⟨x, hxm, rfl⟩ := List.mem_map.mp hy
      have h1 := (hx x hxm).len
      rw [len_append, show bar.length = 1 by decide +kernel]; omega
    rw [List.length_map] at this ⊢
    rw [show (Str.ofString "").length = 0 by decide +kernel]
    omega
theorem vc_edit_text : ∀ ds Qd, ds_edit_text ds Qd → a_edit_text { nx := fun _ => Qd .none, rt := Qd } (startE N_edit_text.length (ds.map Cell.d)) := by
  rintro ds Qd ⟨e, rfl, he, hq⟩
  have hn : ∀ k : Nat, k ≤ 60 → (numS k).length ≤ 2 := fun k h => by rw [← cl_len]; exact (num_ok h).len
  cases e with
  | put k xs =>
    obtain ⟨h1, h2, h3, h4⟩ := he
    show a_edit_text _ [.d (.tuple [.str wPut, .int (k : Int), .tuple (xs.map PyData.str)])]
    unfold a_edit_text
    walk_at "vc"
    refine eq_str (ite_yes (by simp) ?_)
    have l1 := hn k h1
    have l2 := bodyText_len h4
    have e1 : (Str.ofString "+").length = 1 := by decide +kernel
    refine ⟨log_small h1, sl_of (by show (numS k).length + _ ≤ _; omega), xs, rfl, by omega, h4, sl_of ?_, hq⟩
    show (numS k ++ Str.ofString "+").length + _ ≤ _
    rw [len_append]; omega
  | drop k =>
    have h1 : k < 60 := he
    show a_edit_text _ [.d (.tuple [.str wDrop, .int (k : Int)])]
    unfold a_edit_text
    walk_at "vc"
    refine eq_str (ite_no (by simp [w_ne.1.symm]) ?_)
    unfold a_edit_text_3
    walk_at "vc"
    have l1 := hn k (by omega)
    have e1 : (Str.ofString "-").length = 1 := by decide +kernel
    refine eq_str (ite_yes (by simp) ⟨log_small (by omega), sl_of (by show (numS k).length + _ ≤ _; omega), hq⟩)
  | turn k x =>
    have h1 : k < 60 := he.1
    show a_edit_text _ [.d (.tuple [.str wTurn, .int (k : Int), .str x])]
    unfold a_edit_text
    walk_at "vc"
    refine eq_str (ite_no (by simp [w_ne.2.1.symm]) ?_)
    unfold a_edit_text_3
    walk_at "vc"
    refine eq_str (ite_no (by simp [w_ne.2.2.symm]) ?_)
    unfold a_edit_text_5
    walk_at "vc"
    have l1 := hn k (by omega)
    have l2 := he.2.len
    have e1 : (Str.ofString "=").length = 1 := by decide +kernel
    refine ⟨log_small (by omega), sl_of (by show (numS k).length + _ ≤ _; omega), sl_of ?_, hq⟩
    show (numS k ++ Str.ofString "=").length + _ ≤ _
    rw [len_append]; omega
theorem vc_draft_text : ∀ ds Qd, ds_draft_text ds Qd → a_draft_text { nx := fun _ => Qd .none, rt := Qd } (startE N_draft_text.length (ds.map Cell.d)) := by
  rintro ds Qd ⟨es, rfl, hes, hq⟩
  show a_draft_text _ [.d (.tuple (es.map Ed.d)), .un]
  unfold a_draft_text
  walk_at "vc"
  have hl := hes.len
  rw [List.length_map]
  refine ⟨sl_of (by omega), fun i acc => acc = (es.take i).map fun e => PyData.str (edText e), rfl, ?_, ?_⟩
  · rintro i d acc hd rfl
    obtain ⟨e, he, rfl⟩ := map_at hd
    refine ⟨e, rfl, hes.ok e (mem_get he), ?_⟩
    dsimp only
    rw [take_at he, List.map_append]; rfl
  · rintro acc rfl
    rw [List.take_length]
    refine ⟨es.map edText, .inl (by rw [List.map_map]; rfl), ?_, hq⟩
    have := sum_le (l := es.map edText) (m := 200) fun y hy => by
      obtain ⟨e, he, rfl⟩ := List.mem_map.mp hy
      exact (edText_len (hes.ok e he)).2
    rw [List.length_map] at this ⊢
    rw [show (Str.ofString ";").length = 1 by decide +kernel]
    omega
def a_need_text : AS :=
  (aIfS (aNot (aTest (aIsi "str" (aVar 0))))
      aNever
      aNext)
def a_read_number_5 : AS :=
  (aRet (aCall fIntS (aCons (aVar 0) aNil)))
def a_read_number_3 : AS :=
  (aSeq (aIfS (aAnd (aTest (aOp fEq (aOp fIx (aVar 0) (aC (.int 0))) (aC (.str (Str.ofString "0"))))) (aTest (aOp fNe (aVar 0) (aC (.str (Str.ofString "0"))))))
      aNever
      aNext)
      a_read_number_5)
def a_read_number : AS :=
  (aSeq (aIfS (aOr (aTest (aOp fEq (aVar 0) (aC (.str (Str.ofString ""))))) (aOr (aTest (aOp fGt (aCall fLen (aCons (aVar 0) aNil)) (aC (.int 6)))) (aNot (aTest (aCall fAll (aCons (aLc (aiStr (aVar 0)) (agName 1) atYes (aOp fInS (aVar 1) (aC (.str (Str.ofString "0123456789")))) [1]) aNil))))))
      aNever
      aNext)
      a_read_number_3)
def a_read_body_6 : AS :=
  (aSet 1 (aCall fTuple (aCons (aM1 fSplit (aSl (aVar 0) (aoSome (aC (.int 1))) aoNo) (aC (.str (Str.ofString "|")))) aNil)))
def a_read_body_9 : AS :=
  (aRet (aVar 1))
def a_read_body_7 : AS :=
  (aSeq (aIfS (aNot (aTest (aCall ds_is_body (aCons (aVar 1) aNil))))
      aNever
      aNext)
      a_read_body_9)
def a_read_body_3 : AS :=
  (aSeq (aIfS (aTest (aOp fNe (aVar 0) (aC (.str (Str.ofString "")))))
      (aSeq (aIfS (aTest (aOp fNe (aOp fIx (aVar 0) (aC (.int 0))) (aC (.str (Str.ofString "|")))))
      aNever
      aNext)
      a_read_body_6)
      aNext)
      a_read_body_7)
def a_read_body_2 : AS :=
  (aSeq (aSet 1 (aTup aNil))
      a_read_body_3)
def a_read_body : AS :=
  (aSeq (aDrop (aCall ds_need_text (aCons (aVar 0) aNil)))
      a_read_body_2)
def a_read_edit_3 : AS :=
  (aAug (· + ·) 1 (aC (.int 1)))
def a_read_edit_13 : AS :=
  aNever
def a_read_edit_11 : AS :=
  (aSeq (aIfS (aTest (aOp fEq (aVar 3) (aC (.str (Str.ofString "=")))))
      (aRet (aTup (aCons (aC (.str (Str.ofString "turn"))) (aCons (aVar 2) (aCons (aVar 4) aNil)))))
      aNext)
      a_read_edit_13)
def a_read_edit_9 : AS :=
  (aSeq (aIfS (aAnd (aTest (aOp fEq (aVar 3) (aC (.str (Str.ofString "-"))))) (aTest (aOp fEq (aVar 4) (aC (.str (Str.ofString ""))))))
      (aRet (aTup (aCons (aC (.str (Str.ofString "drop"))) (aCons (aVar 2) aNil))))
      aNext)
      a_read_edit_11)
def a_read_edit_7 : AS :=
  (aSeq (aIfS (aTest (aOp fEq (aVar 3) (aC (.str (Str.ofString "+")))))
      (aRet (aTup (aCons (aC (.str (Str.ofString "put"))) (aCons (aVar 2) (aCons (aCall ds_read_body (aCons (aVar 4) aNil)) aNil)))))
      aNext)
      a_read_edit_9)
def a_read_edit_6 : AS :=
  (aSeq (aSet 4 (aSl (aVar 0) (aoSome (aOp fAdd (aVar 1) (aC (.int 1)))) aoNo))
      a_read_edit_7)
def a_read_edit_5 : AS :=
  (aSeq (aSet 3 (aSl (aVar 0) (aoSome (aVar 1)) (aoSome (aOp fAdd (aVar 1) (aC (.int 1))))))
      a_read_edit_6)
def a_read_edit_4 : AS :=
  (aSeq (aSet 2 (aCall ds_read_number (aCons (aSl (aVar 0) aoNo (aoSome (aVar 1))) aNil)))
      a_read_edit_5)
def a_read_edit_2 : AS :=
  (aSeq (aWhile (aAnd (aTest (aOp fLt (aVar 1) (aCall fLen (aCons (aVar 0) aNil)))) (aTest (aOp fInS (aOp fIx (aVar 0) (aVar 1)) (aC (.str (Str.ofString "0123456789"))))))
      a_read_edit_3)
      a_read_edit_4)
def a_read_edit : AS :=
  (aSeq (aSet 1 (aC (.int 0)))
      a_read_edit_2)
def a_read_draft_7 : AS :=
  (aRet (aVar 1))
def a_read_draft_5 : AS :=
  (aSeq (aIfS (aNot (aTest (aCall ds_is_draft (aCons (aC (.tuple (List.replicate 60 (.str (Str.ofString "a"))))) (aCons (aVar 1) aNil)))))
      aNever
      aNext)
      a_read_draft_7)
def a_read_draft_3 : AS :=
  (aSeq (aIfS (aTest (aOp fNe (aVar 0) (aC (.str (Str.ofString "")))))
      (aSet 1 (aCall fTuple (aCons (aLc (aiList (aM1 fSplit (aVar 0) (aC (.str (Str.ofString ";"))))) (agName 2) atYes (aCall ds_read_edit (aCons (aVar 2) aNil)) [2]) aNil)))
      aNext)
      a_read_draft_5)
def a_read_draft_2 : AS :=
  (aSeq (aSet 1 (aTup aNil))
      a_read_draft_3)
def a_read_draft : AS :=
  (aSeq (aDrop (aCall ds_need_text (aCons (aVar 0) aNil)))
      a_read_draft_2)
theorem vc_need_text : ∀ ds Qd, ds_need_text ds Qd → a_need_text { nx := fun _ => Qd .none, rt := Qd } (startE N_need_text.length (ds.map Cell.d)) := by
  rintro ds Qd ⟨x, rfl, hq⟩
  show a_need_text _ [.d (.str x)]
  unfold a_need_text
  walk_at "vc"
  exact ⟨true, rfl, ite_no (by decide) hq⟩
theorem vc_read_number : ∀ ds Qd, ds_read_number ds Qd → a_read_number { nx := fun _ => Qd .none, rt := Qd } (startE N_read_number.length (ds.map Cell.d)) := by
  rintro ds Qd ⟨k, rfl, hk, hq⟩
  show a_read_number _ [.d (.str (numS k)), .un]
  have n := num_ok hk
  have n1 := n.pos
  have n2 := n.len
  have n3 : (numS k).length ≤ 2 := by rw [← cl_len]; exact n2
  unfold a_read_number
  walk_at "vc"
  refine eq_str (ite_no ?_ ⟨sl_of (by omega), ite_no (by omega) ⟨sl_of ?_, fun i acc => acc = List.replicate i (PyData.bool true), rfl, ?_, ?_⟩⟩)
  · rw [decide_eq_true_eq]
    intro e
    rw [e, cl_empty] at n1
    exact absurd n1 (by decide)
  · show (Fc.signs (numS k)).length ≤ _
    unfold Fc.signs
    rw [List.length_map]; exact Nat.le_trans n2 (by decide)
  · rintro i d acc hd rfl
    obtain ⟨c, hc, rfl⟩ := signs_at hd
    refine ⟨c, _, rfl, rfl, ?_⟩
    rw [in_digits, List.all_eq_true.mp n.dig c (mem_get hc)]
    exact List.replicate_succ'.symm
  · rintro acc rfl
    refine ⟨List.replicate _ true, (List.map_replicate ..).symm, ?_⟩
    rw [show (List.replicate (Fc.signs (numS k)).length true).all id = true by simp]
    refine ite_no (by decide) ?_
    unfold a_read_number_3
    walk_at "vc"
    obtain ⟨c, r, hcr⟩ : ∃ c r, cl (numS k) = c :: r := by
      match h : cl (numS k), n1 with
      | c :: r, _ => exact ⟨c, r, rfl⟩
    have fin : a_read_number_5 { nx := fun _ => Qd .none, rt := Qd } [.d (.str (numS k)), .un] := by
      unfold a_read_number_5
      walk_at "vc"
      exact ⟨_, n.back, by omega, hq⟩
    refine ixs_first (sl_of (by omega)) (k := c) (by rw [hcr]; rfl) (eq_str ?_)
    by_cases h0 : (⟨#[c]⟩ : Str) = Str.ofString "0"
    · refine ite_yes (by simpa using h0) (ne_str ?_)
      have e0 : numS k = Str.ofString "0" := n.zero (by
        rw [hcr]
        have := congrArg cl h0
        rw [cl_one, show cl (Str.ofString "0") = [48] by decide +kernel] at this
        rw [List.head?_cons]
        exact congrArg some (List.cons.inj this).1)
      exact ite_no (by simp [e0]) fin
    · exact ite_no (by simpa using h0) (ite_no Bool.false_ne_true fin)
theorem vc_read_body : ∀ ds Qd, ds_read_body ds Qd → a_read_body { nx := fun _ => Qd .none, rt := Qd } (startE N_read_body.length (ds.map Cell.d)) := by
  rintro ds Qd ⟨xs, rfl, h1, hl, hx, hq⟩
  show a_read_body _ [.d (.str (bodyText xs)), .un]
  have hne : xs ≠ [] := fun h => by rw [h] at h1; exact absurd h1 (by decide)
  have hb := cl_bodyText xs
  rw [bodyText_join hne] at hb
  have hlen := bodyText_len hx
  unfold a_read_body
  walk_at "vc"
  refine ⟨_, rfl, ?_⟩
  unfold a_read_body_2
  walk_at "vc"
  refine ⟨by decide, ?_⟩
  unfold a_read_body_3
  walk_at "vc"
  refine ne_str (ite_yes ?_ ?_)
  · rw [Bool.not_eq_true', decide_eq_false_iff_not]
    intro e
    rw [e, cl_empty] at hb
    cases hb
  · refine ixs_first (sl_of (by omega)) (k := 124) (by rw [hb]; rfl) (ne_str (ite_no (by decide +kernel) ?_))
    unfold a_read_body_6
    walk_at "vc"
    have hback := body_back hne hx
    refine ⟨sl_of (by omega), (by decide +kernel), sl_of (Nat.le_trans (Nat.add_le_add_right (cutS_len' ..) 2) (by omega)), ?_⟩
    rw [hback]
    unfold a_read_body_7
    walk_at "vc"
    refine dsof (n := 1) (L := 60) (Gd.of_body hx (by decide) hl) (by decide) (by decide) ?_
    rw [body_is hx hl]
    refine ite_no (by decide) ?_
    unfold a_read_body_9
    walk_at "vc"
    exact hq
theorem vc_read_edit : ∀ ds Qd, ds_read_edit ds Qd → a_read_edit { nx := fun _ => Qd .none, rt := Qd } (startE N_read_edit.length (ds.map Cell.d)) := by
  rintro ds Qd ⟨e, rfl, he, hq⟩
  show a_read_edit _ [.d (.str (edText e)), .un, .un, .un, .un]
  have hk := Ed.at_le he
  have n := num_ok hk
  have n1 := n.pos
  have n2 := n.len
  have hcl := cl_edText e
  have hlen := edText_len he
  have hsg : ∃ c, cl (edSign e) = [c] ∧ digit c = false := by
    cases e with
    | put k xs => exact ⟨43, (show cl (Str.ofString "+") = [43] by decide +kernel), by decide⟩
    | drop k => exact ⟨45, (show cl (Str.ofString "-") = [45] by decide +kernel), by decide⟩
    | turn k x => exact ⟨61, (show cl (Str.ofString "=") = [61] by decide +kernel), by decide⟩
  obtain ⟨c, hc, hcd⟩ := hsg
  rw [hc] at hcl
  unfold a_read_edit
  walk_at "vc"
  unfold a_read_edit_2
  walk_at "vc"
  refine ⟨fun m ε => ∃ i : Nat, i + m = (cl (numS e.at)).length ∧ ε = [.d (.str (edText e)), .d (.int (i : Int)), .un, .un, .un], ⟨_, 0, Nat.zero_add _, rfl⟩, ?_⟩
  rintro m ε ⟨i, him, rfl⟩
  walk_at "vc"
  have hz : (edText e).length ≤ sizeLine := sl_of (by omega)
  have hL : (edText e).length = (cl (numS e.at)).length + (1 + (cl (edRest e)).length) := by
    rw [← cl_len, hcl, List.length_append, List.length_append]; rfl
  refine ⟨hz, ite_yes (by omega) (ix_str hz (by omega) (by omega) fun d hd => ?_)⟩
  rw [Int.toNat_natCast, hcl] at hd
  refine ⟨d, _, rfl, rfl, ?_⟩
  rw [in_digits]
  by_cases hm : m = 0
  · have e0 : i = (cl (numS e.at)).length := by omega
    rw [e0, List.getElem?_append_right (Nat.le_refl _), Nat.sub_self] at hd
    have : c = d := Option.some.inj hd
    subst this
    rw [hcd]
    refine ite_no Bool.false_ne_true ?_
    subst e0
    unfold a_read_edit_4
    walk_at "vc"
    have ex1 : cutS (edText e) none (some ((cl (numS e.at)).length : Int)) = numS e.at := by
      apply str_ext
      rw [cl_cut, hcl, cut_to _ _ (by rw [List.length_append]; omega), List.take_left]
    refine ⟨hz, e.at, by rw [ex1], hk, ?_⟩
    have hnl : (cl (numS e.at)).length + 1 ≤ (cl (edText e)).length := by rw [cl_len (edText e)]; omega
    have ex2 : cutS (edText e) (some ((cl (numS e.at)).length : Int)) (some ((cl (numS e.at)).length + 1 : Int)) = edSign e := by
      apply str_ext
      rw [cl_cut, show (((cl (numS e.at)).length : Int) + 1) = (((cl (numS e.at)).length + 1 : Nat) : Int) from rfl, cut_mid _ _ _ (by omega) hnl, hcl, List.drop_left, hc]
      rw [show (cl (numS e.at)).length + 1 - (cl (numS e.at)).length = 1 by omega]
      rfl
    have ex3 : cutS (edText e) (some ((cl (numS e.at)).length + 1 : Int)) none = edRest e := by
      apply str_ext
      rw [cl_cut, show (((cl (numS e.at)).length : Int) + 1) = (((cl (numS e.at)).length + 1 : Nat) : Int) from rfl, cut_from _ _ hnl, hcl, ← List.drop_drop, List.drop_left]
      rfl
    unfold a_read_edit_5
    walk_at "vc"
    refine ⟨hz, ?_⟩
    rw [ex2]
    unfold a_read_edit_6
    walk_at "vc"
    refine ⟨hz, ?_⟩
    rw [ex3]
    unfold a_read_edit_7
    walk_at "vc"
    refine eq_str ?_
    cases e with
    | put k xs =>
      refine ite_yes (by simp [edSign]) ⟨xs, rfl, he.2.1, by have := he.2.2.1; omega, he.2.2.2, by decide, hq⟩
    | drop k =>
      refine ite_no (show ¬ decide (Str.ofString "-" = Str.ofString "+") = true by decide +kernel) ?_
      unfold a_read_edit_9
      walk_at "vc"
      refine eq_str (ite_yes (by simp [edSign]) (eq_str (ite_yes (by simp [edRest]) ⟨by decide, hq⟩)))
    | turn k x =>
      refine ite_no (show ¬ decide (Str.ofString "=" = Str.ofString "+") = true by decide +kernel) ?_
      unfold a_read_edit_9
      walk_at "vc"
      refine eq_str (ite_no (show ¬ decide (Str.ofString "=" = Str.ofString "-") = true by decide +kernel) (ite_no Bool.false_ne_true ?_))
      unfold a_read_edit_11
      walk_at "vc"
      exact eq_str (ite_yes (by simp [edSign]) ⟨by decide, hq⟩)
  · have hi : i < (cl (numS e.at)).length := by omega
    rw [List.getElem?_append_left hi] at hd
    rw [List.all_eq_true.mp n.dig d (mem_get hd)]
    refine ite_yes rfl ?_
    unfold a_read_edit_3
    walk_at "vc"
    exact ⟨m - 1, by omega, i + 1, by omega, rfl⟩
theorem vc_read_draft : ∀ ds Qd, ds_read_draft ds Qd → a_read_draft { nx := fun _ => Qd .none, rt := Qd } (startE N_read_draft.length (ds.map Cell.d)) := by
  rintro ds Qd ⟨es, rfl, hes, hq⟩
  show a_read_draft _ [.d (.str (draftText es)), .un, .un]
  unfold a_read_draft
  walk_at "vc"
  refine ⟨_, rfl, ?_⟩
  unfold a_read_draft_2
  walk_at "vc"
  refine ⟨by decide, ?_⟩
  have hl := hes.len
  have fin : ∀ c : Cell, a_read_draft_5 { nx := fun _ => Qd .none, rt := Qd } [.d (.str (draftText es)), .d (draftD es), c] := fun c => by
    unfold a_read_draft_5
    walk_at "vc"
    refine ⟨List.replicate 60 (.str (Str.ofString "a")), draftD es, 3, 30, rfl, hes.gd, by decide, by decide, ?_⟩
    rw [List.length_replicate, draft_is hes]
    refine ite_no (by decide) ?_
    unfold a_read_draft_7
    walk_at "vc"
    exact hq
  unfold a_read_draft_3
  walk_at "vc"
  refine ne_str ?_
  by_cases hne : es = []
  · subst hne
    exact ite_no (by rw [draftText_nil]; simp) (fin _)
  · have hback := draft_back hne hes.ok
    have hdl := draftText_len hl hes.ok
    refine ite_yes (by simpa using draftText_ne hne hes.ok) ?_
    refine ⟨(by decide +kernel), sl_of (by omega), ?_⟩
    rw [hback]
    dsimp only
    rw [List.length_map, List.length_map]
    refine ⟨sl_of (by omega), fun i acc => acc = (es.take i).map Ed.d, rfl, ?_, ?_⟩
    · rintro i d acc hd rfl
      rw [List.map_map] at hd
      obtain ⟨e, he, rfl⟩ := map_at hd
      refine ⟨e, rfl, hes.ok e (mem_get he), ?_⟩
      dsimp only
      rw [take_at he, List.map_append]; rfl
    · rintro acc rfl
      rw [List.take_length]
      exact fin _
def a_law_edit_text_5 : AS :=
  (aRet (aOp fAdd (aOp fAdd (aCall fStrI (aCons (aOp fIx (aVar 0) (aC (.int 1))) aNil)) (aC (.str (Str.ofString "=")))) (aOp fIx (aVar 0) (aC (.int 2)))))
def a_law_edit_text_3 : AS :=
  (aSeq (aIfS (aTest (aOp fEq (aOp fIx (aVar 0) (aC (.int 0))) (aC (.str (Str.ofString "drop")))))
      (aRet (aOp fAdd (aCall fStrI (aCons (aOp fIx (aVar 0) (aC (.int 1))) aNil)) (aC (.str (Str.ofString "-")))))
      aNext)
      a_law_edit_text_5)
def a_law_edit_text : AS :=
  (aSeq (aIfS (aTest (aOp fEq (aOp fIx (aVar 0) (aC (.int 0))) (aC (.str (Str.ofString "put")))))
      (aRet (aOp fAdd (aOp fAdd (aCall fStrI (aCons (aOp fIx (aVar 0) (aC (.int 1))) aNil)) (aC (.str (Str.ofString "+")))) (aM1 fJoin (aC (.str (Str.ofString ""))) (aLc (aiTup (aOp fIx (aVar 0) (aC (.int 2)))) (agName 1) atYes (aOp fAdd (aC (.str (Str.ofString "|"))) (aVar 1)) [1]))))
      aNext)
      a_law_edit_text_3)
theorem vc_law_edit_text : ∀ ds Qd, ds_law_edit_text ds Qd → a_law_edit_text { nx := fun _ => Qd .none, rt := Qd } (startE N_law_edit_text.length (ds.map Cell.d)) := by
  rintro ds Qd ⟨e, rfl, he, hq⟩
  have hn : ∀ k : Nat, k ≤ 60 → (numS k).length ≤ 2 := fun k h => by rw [← cl_len]; exact (num_ok h).len
  cases e with
  | put k xs =>
    obtain ⟨h1, h2, h3, h4⟩ := he
    show a_law_edit_text _ [.d (.tuple [.str wPut, .int (k : Int), .tuple (xs.map PyData.str)]), .un]
    unfold a_law_edit_text
    walk_at "vc"
    refine eq_str (ite_yes (by simp) ?_)
    have l1 := hn k h1
    have l2 := bodyText_len h4
    have e1 : (Str.ofString "+").length = 1 := by decide +kernel
    refine ⟨log_small h1, sl_of (by show (numS k).length + _ ≤ _; omega), ?_⟩
    rw [List.length_map]
    refine ⟨sl_of (by omega), fun i acc => acc = (xs.take i).map fun x => PyData.str (bar ++ x), rfl, ?_, ?_⟩
    · rintro i d acc hd rfl
      obtain ⟨x, hxi, rfl⟩ := map_at hd
      have hlx := (h4 x (mem_get hxi)).len
      refine ⟨sl_of (by rw [show (Str.ofString "|").length = 1 by decide +kernel]; omega), ?_⟩
      dsimp only
      rw [take_at hxi, List.map_append]; rfl
    · rintro acc rfl
      rw [List.take_length]
      refine ⟨xs.map (bar ++ ·), .inl (by rw [List.map_map]; rfl), ?_, sl_of ?_, hq⟩
      · have := sum_le (l := xs.map (bar ++ ·)) (m := 31) fun y hy => by
          obtain ⟨x, hxm, rfl⟩ := List.mem_map.mp hy
          have h1 := (h4 x hxm).len
          rw [len_append, show bar.length = 1 by decide +kernel]; omega
        rw [List.length_map] at this ⊢
        rw [show (Str.ofString "").length = 0 by decide +kernel]
        omega
      · show (numS k ++ Str.ofString "+").length + (bodyText xs).length ≤ _
        rw [len_append]; omega
  | drop k =>
    have h1 : k < 60 := he
    show a_law_edit_text _ [.d (.tuple [.str wDrop, .int (k : Int)]), .un]
    unfold a_law_edit_text
    walk_at "vc"
    refine eq_str (ite_no (by simp [w_ne.1.symm]) ?_)
    unfold a_law_edit_text_3
    walk_at "vc"
    have l1 := hn k (by omega)
    have e1 : (Str.ofString "-").length = 1 := by decide +kernel
    refine eq_str (ite_yes (by simp) ⟨log_small (by omega), sl_of (by show (numS k).length + _ ≤ _; omega), hq⟩)
  | turn k x =>
    have h1 : k < 60 := he.1
    show a_law_edit_text _ [.d (.tuple [.str wTurn, .int (k : Int), .str x]), .un]
    unfold a_law_edit_text
    walk_at "vc"
    refine eq_str (ite_no (by simp [w_ne.2.1.symm]) ?_)
    unfold a_law_edit_text_3
    walk_at "vc"
    refine eq_str (ite_no (by simp [w_ne.2.2.symm]) ?_)
    unfold a_law_edit_text_5
    walk_at "vc"
    have l1 := hn k (by omega)
    have l2 := he.2.len
    have e1 : (Str.ofString "=").length = 1 := by decide +kernel
    refine ⟨log_small (by omega), sl_of (by show (numS k).length + _ ≤ _; omega), sl_of ?_, hq⟩
    show (numS k ++ Str.ofString "=").length + _ ≤ _
    rw [len_append]; omega
def a_law_9 : AS :=
  (aIfS (aOr (aNot (aTest (aIsi "tuple" (aVar 7)))) (aTest (aOp fNe (aVar 7) (aVar 4))))
      (aRet (aC (.bool false)))
      aNext)
def a_law_8 : AS :=
  (aSeq (aSet 7 (aCall ds_read_draft (aCons (aVar 5) aNil)))
      a_law_9)
def a_law_6 : AS :=
  (aSeq (aIfS (aOr (aNot (aTest (aIsi "str" (aVar 5)))) (aTest (aOp fNe (aVar 5) (aM1 fJoin (aC (.str (Str.ofString ";"))) (aLc (aiTup (aVar 4)) (agName 6) atYes (aCall ds_law_edit_text (aCons (aVar 6) aNil)) [6])))))
      (aRet (aC (.bool false)))
      aNext)
      a_law_8)
def a_law_5 : AS :=
  (aSeq (aSet 5 (aCall ds_draft_text (aCons (aVar 4) aNil)))
      a_law_6)
def a_law_4 : AS :=
  (aSeq (aSet 4 (aCallT ds_law_a_draft 1 (aCons (aVar 3) (aCons (aOp fAdd (aC (.int 1)) (aCallT ds_law_draw 1 (aCons (aC (.int 9)) aNil))) aNil))))
      a_law_5)
def a_law_3 : AS :=
  (aSeq (aSet 3 (aOp fIx (aLst (aCons (aCallT ds_law_draw 1 (aCons (aC (.int 9)) aNil)) (aCons (aCallT ds_law_draw 1 (aCons (aC (.int 61)) aNil)) aNil))) (aCallT ds_law_draw 1 (aCons (aC (.int 2)) aNil))))
      a_law_4)
def a_law_11 : AS :=
  (aRet (aAndV (aOp fEq (aCall ds_draft_text (aCons (aTup aNil) aNil)) (aC (.str (Str.ofString "")))) (aOp fEq (aCall ds_read_draft (aCons (aC (.str (Str.ofString ""))) aNil)) (aTup aNil))))
def a_law : AS :=
  (aSeq (aFor (aiRng1 (aCons (aC (.int 10)) aNil)) (agName 2)
      a_law_3)
      a_law_11)
theorem vc_law : a_law { nx := fun _ => False, rt := fun d => d = .bool true } (.un :: .tape :: List.replicate 6 .un) := by
  show a_law _ [.un, .tape, .un, .un, .un, .un, .un, .un]
  have ok0 : DraftOk 60 [] := ⟨by decide, (fun _ h => nomatch h), .nil⟩
  unfold a_law
  walk_at "vc"
  refine ⟨⟨by decide, by decide⟩, fun _ ε => ∃ a b c d e f, ε = [.un, .tape, a, b, c, d, e, f], ⟨_, _, _, _, _, _, rfl⟩, ?_, ?_⟩
  · rintro i d ε hd ⟨a, b, c, d', e, f, rfl⟩
    generalize hE : (fun ε => ∃ a b c d e f, ε = [Cell.un, .tape, a, b, c, d, e, f]) = I
    unfold a_law_3
    walk_at "vc"
    refine ⟨by decide, by decide, fun r r0 r1 => ⟨by decide, by decide, fun s s0 s1 => ⟨by decide, by decide, by decide, fun t t0 t1 => ix_list t0 (by simpa using t1) fun m hm => ?_⟩⟩⟩
    obtain ⟨mn, rfl, m1⟩ : ∃ mn : Nat, m = .int (mn : Int) ∧ mn ≤ 60 := by
      have h := mem_get hm
      simp only [List.mem_cons, List.not_mem_nil, or_false] at h
      rcases h with rfl | rfl
      · exact ⟨r.toNat, by rw [Int.toNat_of_nonneg r0], by omega⟩
      · exact ⟨s.toNat, by rw [Int.toNat_of_nonneg s0], by omega⟩
    unfold a_law_4
    walk_at "vc"
    refine ⟨by decide, by decide, fun q q0 q1 => ⟨mn, _, rfl, by omega, by omega, by omega, fun es hes0 => ?_⟩⟩
    have hes := hes0.to m1
    have hl := hes.len
    unfold a_law_5
    walk_at "vc"
    refine ⟨es, rfl, hes, ?_⟩
    unfold a_law_6
    walk_at "vc"
    refine ⟨true, rfl, ite_no (by decide) ?_⟩
    show (es.map Ed.d).length ≤ sizeLine ∧ _
    refine ⟨by rw [List.length_map]; exact sl_of (by omega), fun i acc => acc = (es.take i).map fun e => PyData.str (edText e), rfl, ?_, ?_⟩
    · rintro i d acc hd rfl
      obtain ⟨e, he, rfl⟩ := map_at hd
      refine ⟨e, rfl, hes.ok e (mem_get he), ?_⟩
      dsimp only
      rw [take_at he, List.map_append]; rfl
    · rintro acc rfl
      rw [List.length_map, List.take_length]
      refine ⟨es.map edText, .inl (by rw [List.map_map]; rfl), ?_, ?_⟩
      · have := sum_le (l := es.map edText) (m := 200) fun y hy => by
          obtain ⟨e, he, rfl⟩ := List.mem_map.mp hy
          exact (edText_len (hes.ok e he)).2
        rw [List.length_map] at this ⊢
        rw [show (Str.ofString ";").length = 1 by decide +kernel]
        omega
      · refine ne_str (ite_no (by simp [draftText]) ?_)
        unfold a_law_8
        walk_at "vc"
        refine ⟨es, rfl, hes, ?_⟩
        unfold a_law_9
        walk_at "vc"
        refine ⟨true, rfl, ite_no (by decide) (ne_same hes.gd.sh (by decide) (ite_no Bool.false_ne_true ?_))⟩
        rw [← hE]
        exact ⟨_, _, _, _, _, _, rfl⟩
  · rintro ε ⟨a, b, c, d', e, f, rfl⟩
    unfold a_law_11
    walk_at "vc"
    refine ⟨by decide, [], rfl, ok0, ?_⟩
    refine eq_str (ite_yes (by rw [draftText_nil]; simp) ?_)
    refine ⟨[], by rw [draftText_nil], ok0, by decide, ?_⟩
    exact eq_same (n := 1) (.tuple (fun _ h => nomatch h)) (by decide) rfl
structure Tx (K : PySem.W.Frag) (mg : Str → Option Value) where
  f_is_number : Addr
  fd_is_number : FuncData
  d_is_number : Df K mg "is_number" s_is_number ps_is_number f_is_number fd_is_number
  f_is_line : Addr
  fd_is_line : FuncData
  d_is_line : Df K mg "is_line" s_is_line ps_is_line f_is_line fd_is_line
  f_is_body : Addr
  fd_is_body : FuncData
  d_is_body : Df K mg "is_body" s_is_body ps_is_body f_is_body fd_is_body
  f_place_of : Addr
  fd_place_of : FuncData
  d_place_of : Df K mg "place_of" s_place_of ps_place_of f_place_of fd_place_of
  f_is_edit : Addr
  fd_is_edit : FuncData
  d_is_edit : Df K mg "is_edit" s_is_edit ps_is_edit f_is_edit fd_is_edit
  f_is_draft : Addr
  fd_is_draft : FuncData
  d_is_draft : Df K mg "is_draft" s_is_draft ps_is_draft f_is_draft fd_is_draft
  f_body_text : Addr
  fd_body_text : FuncData
  d_body_text : Df K mg "body_text" s_body_text ps_body_text f_body_text fd_body_text
  f_edit_text : Addr
  fd_edit_text : FuncData
  d_edit_text : Df K mg "edit_text" s_edit_text ps_edit_text f_edit_text fd_edit_text
  f_draft_text : Addr
  fd_draft_text : FuncData
  d_draft_text : Df K mg "draft_text" s_draft_text ps_draft_text f_draft_text fd_draft_text
  f_need_text : Addr
  fd_need_text : FuncData
  d_need_text : Df K mg "need_text" s_need_text ps_need_text f_need_text fd_need_text
  f_read_number : Addr
  fd_read_number : FuncData
  d_read_number : Df K mg "read_number" s_read_number ps_read_number f_read_number fd_read_number
  f_read_body : Addr
  fd_read_body : FuncData
  d_read_body : Df K mg "read_body" s_read_body ps_read_body f_read_body fd_read_body
  f_read_edit : Addr
  fd_read_edit : FuncData
  d_read_edit : Df K mg "read_edit" s_read_edit ps_read_edit f_read_edit fd_read_edit
  f_read_draft : Addr
  fd_read_draft : FuncData
  d_read_draft : Df K mg "read_draft" s_read_draft ps_read_draft f_read_draft fd_read_draft
  f_law_draw : Addr
  fd_law_draw : FuncData
  d_law_draw : Df K mg "_law_draw" s_law_draw ps_law_draw f_law_draw fd_law_draw
  f_law_a_line : Addr
  fd_law_a_line : FuncData
  d_law_a_line : Df K mg "_law_a_line" s_law_a_line ps_law_a_line f_law_a_line fd_law_a_line
  f_law_an_edit : Addr
  fd_law_an_edit : FuncData
  d_law_an_edit : Df K mg "_law_an_edit" s_law_an_edit ps_law_an_edit f_law_an_edit fd_law_an_edit
  f_law_a_draft : Addr
  fd_law_a_draft : FuncData
  d_law_a_draft : Df K mg "_law_a_draft" s_law_a_draft ps_law_a_draft f_law_a_draft fd_law_a_draft
  f_law_edit_text : Addr
  fd_law_edit_text : FuncData
  d_law_edit_text : Df K mg "_law_edit_text" s_law_edit_text ps_law_edit_text f_law_edit_text fd_law_edit_text
  b_all : mg "all" = none
  b_bool : mg "bool" = none
  b_int : mg "int" = none
  b_isinstance : mg "isinstance" = none
  b_len : mg "len" = none
  b_list : mg "list" = none
  b_range : mg "range" = none
  b_str : mg "str" = none
  b_tuple : mg "tuple" = none
  g_SMALL : ∃ u, mg "SMALL" = some u ∧ RelV (.str (Str.ofString "abcdefghijklmnopqrstuvwxyz")) u
  g_MOST_SIGNS : ∃ u, mg "MOST_SIGNS" = some u ∧ RelV (.int 30) u
  g_MOST_LINES : ∃ u, mg "MOST_LINES" = some u ∧ RelV (.int 60) u
  g_MOST_PUT : ∃ u, mg "MOST_PUT" = some u ∧ RelV (.int 5) u
  g_MOST_EDITS : ∃ u, mg "MOST_EDITS" = some u ∧ RelV (.int 20) u
  g_FIGURES : ∃ u, mg "FIGURES" = some u ∧ RelV (.str (Str.ofString "0123456789")) u
  g_MOST_FIGURES : ∃ u, mg "MOST_FIGURES" = some u ∧ RelV (.int 6) u
  a_LONGEST : Addr
  g_LONGEST : mg "LONGEST" = some (.ref a_LONGEST)
  r_LONGEST : ∀ G, Rv K G (.ref a_LONGEST) (.tuple (List.replicate 60 (.str (Str.ofString "a"))))
section
variable {P : Program} {w : World} {K : PySem.W.Frag} {mg : Str → Option Value} {base : Heap}
theorem ok_law_draw (T : Tx K mg) : FnOk P w K mg base CX0 1 T.f_law_draw T.fd_law_draw ps_law_draw (spT K ds_law_draw) := by
  refine T.d_law_draw.ok (k := 0) sc_law_draw (fun vs H Q E h => spT_len len_law_draw h) (fun cdv A outer s H vs Q E hr h => ?_)
  have lc : ∀ {X : Cx} {x : Str}, X.env.scope.names.lookup x = some .local → L2.Loc X.env.scope x := fun h => .inl h
  refine ⟨_, pss_cons (ps_set (i := 2) sc_law_draw.nd rfl (.inl rfl) pe_int)
    (Evl.pss_cut (ps_if (pt_cmpR op_lt (pe_ix ix_list (pv 0) pe_int (fun _ _ => rfl)) (pv 1) (nomark _))
      (pss_cons (ps_set (i := 3) sc_law_draw.nd rfl (.inl rfl) pe_int)
      (Evl.pss_cut (ps_if (pt_cmpR op_gt (pe_callB call_len (by rfl) T.b_len (by decide +kernel) (pa_cons (pe_ix ix_list (pv 0) pe_int (fun _ _ => rfl)) pa_nil)) pe_int (nomark _))
        (pss_one (ps_set (i := 3) sc_law_draw.nd rfl (.inl rfl) (pe_ix ix_list (pe_ix ix_list (pv 0) pe_int (fun _ _ => rfl)) (pe_op op_mod (pe_ix ix_list (pv 0) pe_int (fun _ _ => rfl)) (pe_callB call_len (by rfl) T.b_len (by decide +kernel) (pa_cons (pe_ix ix_list (pv 0) pe_int (fun _ _ => rfl)) pa_nil))) (fun _ _ => rfl)))) pss_nil)
      (Evl.pss_cut (ps_if (PW.pt (pw_or (pt_cmpR op_ge (pe_ix ix_list (pv 0) pe_int (fun _ _ => rfl)) (pe_callB call_len (by rfl) T.b_len (by decide +kernel) (pa_cons (pe_ix ix_list (pv 0) pe_int (fun _ _ => rfl)) pa_nil)) (nomark _)) (pw_or1 (pt_cmpR op_lt (pv 3) (pe_op op_pow pe_int pe_int) (nomark _)))))
        (pss_cons (ps_set (i := 3) sc_law_draw.nd rfl (.inl rfl) (pe_op op_mod (pe_op op_add (pv 3) (pe_op op_mul pe_int (pe_ix ix_list (pv 0) pe_int (fun _ _ => rfl)))) (pv 2)))
        (pss_cons (ps_set (i := 3) sc_law_draw.nd rfl (.inl rfl) (pe_op op_mod (pe_op op_add (pe_op op_add (pe_op op_mul (pv 3) (pv 3)) (pe_op op_mul pe_int (pv 3))) pe_int) (pv 2)))
        (pss_one (ps_set (i := 3) sc_law_draw.nd rfl (.inl rfl) (pe_op op_mod (pe_op op_add (pe_op op_mul (pv 3) (pv 3)) pe_int) (pv 2)))))) pss_nil)
      (pss_cons (ps_asg (pe_op op_add (pe_ix ix_list (pv 0) pe_int (fun _ _ => rfl)) pe_int) (pg_sub (pv 0) pe_int set_list))
      (pss_one (ps_asg (pv 3) (pg_sub (pv 0) pe_int set_list))))))) pss_nil)
    (pss_cons (ps_set (i := 4) sc_law_draw.nd rfl (.inl rfl) (pe_op op_mod (pe_ix ix_list (pv 0) pe_int (fun _ _ => rfl)) (pv 1)))
    (pss_cons (ps_asg (pe_op op_fdivW (pe_ix ix_list (pv 0) pe_int (fun _ _ => rfl)) (pv 1)) (pg_sub (pv 0) pe_int set_list))
    (pss_one (ps_ret (pv 4)))))), ?_⟩
  obtain ⟨t, l, ns, G, us, ds, rfl, ex, gt, gl, T0, r, Qd, ⟨n, rfl, n0, n1, hq⟩, q⟩ := h
  obtain ⟨ne, hl, i0, j0, hi0, hj0, ht⟩ := T0
  cases r with
  | cons r1 r2 =>
  cases r1; cases r2
  -- behind the first if: the tape with a rest that is not negative
  refine ⟨fun σ' H' => ∃ (y : Option V) (i j : Int), σ' = [some (.ref t), some (.int n), some (.int 2305843009213693951), y, none] ∧ 0 ≤ i ∧ 0 ≤ j ∧ H' = upd H t (.lst [.ref l, .int i, .int j]), ?_, ?_⟩
  · refine ⟨.ref t, rfl, t, _, 2, .int j0, rfl, rfl, SqL.of ht, rfl, .int n, rfl, j0, n, rfl, rfl, _, rfl, ite2 (fun _ => ?_) (fun _ => ?_)⟩
    · -- a new cell
      refine ⟨fun σ' H' => ∃ y : Int, σ' = [some (.ref t), some (.int n), some (.int 2305843009213693951), some (.int y), none] ∧ H' = H, ?_, ?_⟩
      · refine ⟨.ref t, rfl, t, _, 0, .ref l, rfl, rfl, SqL.of ht, rfl, .ref l, ns.length, rfl, .inl ⟨_, SqL.of hl, by rw [List.length_map]⟩, (ns.length : Int), 0, rfl, rfl, _, rfl, ite2 (fun hp => ?_) (fun _ => ?_)⟩
        · have hp' : (0 : Int) < (ns.length : Int) := of_decide_eq_true hp
          have hm := draw_mod (x := i0) hp'
          obtain ⟨z, hz⟩ : ∃ z, ns[(i0 % (ns.length : Int)).toNat]? = some z := by
            have hlt : (i0 % (ns.length : Int)).toNat < ns.length := by omega
            exact ⟨_, List.getElem?_eq_getElem hlt⟩
          refine ⟨.ref t, rfl, t, _, 0, .ref l, rfl, rfl, SqL.of ht, rfl, .ref t, rfl, t, _, 1, .int i0, rfl, rfl, SqL.of ht, rfl, .ref t, rfl, t, _, 0, .ref l, rfl, rfl, SqL.of ht, rfl, .ref l, ns.length, rfl, .inl ⟨_, SqL.of hl, by rw [List.length_map]⟩, i0, (ns.length : Int), rfl, rfl, hp', l, ns.map V.int, i0 % (ns.length : Int), .int z, rfl, rfl, SqL.of hl, ?_, z, rfl, rfl⟩
          have e : i0 % (ns.length : Int) = (((i0 % (ns.length : Int)).toNat : Nat) : Int) := by omega
          rw [e]
          exact atI_nat (by rw [List.getElem?_map, hz]; rfl)
        · exact ⟨0, rfl, rfl⟩
      · rintro σ' H' ⟨y, rfl, eH⟩; have eH2 := eH.symm; subst eH2
        refine ⟨fun σ' H' => ∃ y : Int, 0 ≤ y ∧ σ' = [some (.ref t), some (.int n), some (.int 2305843009213693951), some (.int y), none] ∧ H' = H, ?_, ?_⟩
        · have turn : ∀ D' : Ends, D'.nx = (fun σ' H' => ∃ y : Int, 0 ≤ y ∧ σ' = [some (.ref t), some (.int n), some (.int 2305843009213693951), some (.int y), none] ∧ H' = H) → (tSeq (tAsg (tOp (rI (fun _ j => 0 < j) fun i j => V.int (i % j)) (tOp (rI0 fun i j => V.int (i + j)) (tVar 3) (tOp (rI CMul fun i j => V.int (i * j)) (tC (V.int 1000003)) (tOp (rIxL K) (tVar 0) (tC (V.int 1))))) (tVar 2)) (gName 3)) (tSeq (tAsg (tOp (rI (fun _ j => 0 < j) fun i j => V.int (i % j)) (tOp (rI0 fun i j => V.int (i + j)) (tOp (rI0 fun i j => V.int (i + j)) (tOp (rI CMul fun i j => V.int (i * j)) (tVar 3) (tVar 3)) (tOp (rI CMul fun i j => V.int (i * j)) (tC (V.int 1181783497276652981)) (tVar 3))) (tC (V.int 2049848353892358983))) (tVar 2)) (gName 3)) (tAsg (tOp (rI (fun _ j => 0 < j) fun i j => V.int (i % j)) (tOp (rI0 fun i j => V.int (i + j)) (tOp (rI CMul fun i j => V.int (i * j)) (tVar 3) (tVar 3)) (tC (V.int 1442695040888963407))) (tVar 2)) (gName 3)))) D' [some (.ref t), some (.int n), some (.int 2305843009213693951), some (.int y), none] H := fun D' hD => by
            have p0 : (0 : Int) < 2305843009213693951 := by decide
            have m1 := draw_mod (x := y + 1000003 * i0) p0
            refine ⟨.int y, rfl, .ref t, rfl, t, _, 1, .int i0, rfl, rfl, SqL.of ht, rfl, 1000003, i0, rfl, rfl, .inl ⟨by decide, by decide⟩, y, _, rfl, rfl, _, rfl, _, _, rfl, rfl, p0, ?_⟩
            obtain ⟨y1, e1⟩ : ∃ y1, (y + 1000003 * i0) % 2305843009213693951 = y1 := ⟨_, rfl⟩
            rw [e1] at m1
            have c1 := congrArg V.int e1
            have m2 := draw_mod (x := y1 * y1 + 1181783497276652981 * y1 + 2049848353892358983) p0
            refine ⟨_, rfl, _, rfl, y1, y1, c1, c1, mulP m1.1 m1.2, _, rfl, 1181783497276652981, y1, rfl, c1, .inl ⟨by decide, by decide⟩, _, _, rfl, rfl, _, _, rfl, rfl, _, rfl, _, _, rfl, rfl, p0, ?_⟩
            obtain ⟨y2, e2⟩ : ∃ y2, (y1 * y1 + 1181783497276652981 * y1 + 2049848353892358983) % 2305843009213693951 = y2 := ⟨_, rfl⟩
            rw [e2] at m2
            have c2 := congrArg V.int e2
            have m3 := draw_mod (x := y2 * y2 + 1442695040888963407) p0
            refine ⟨_, rfl, _, rfl, y2, y2, c2, c2, mulP m2.1 m2.2, _, _, rfl, rfl, _, rfl, _, _, rfl, rfl, p0, ?_⟩
            rw [hD]
            exact ⟨_, m3.1, rfl, rfl⟩
          refine ⟨.ref t, rfl, t, _, 1, .int i0, rfl, rfl, SqL.of ht, rfl, .ref t, rfl, t, _, 0, .ref l, rfl, rfl, SqL.of ht, rfl, .ref l, ns.length, rfl, .inl ⟨_, SqL.of hl, by rw [List.length_map]⟩, i0, (ns.length : Int), rfl, rfl, _, rfl, ite2 (fun _ => ?_) (fun _ => ?_)⟩
          · exact iteT (turn _ rfl)
          · refine ⟨.int y, rfl, 10, 18, rfl, rfl, ⟨by decide, by decide, by decide⟩, y, _, rfl, rfl, _, rfl, ite2 (fun _ => turn _ rfl) (fun hy => ?_)⟩
            have hy' : ¬ y < (10 : Int) ^ (18 : Int).toNat := fun z => hy (decide_eq_true z)
            have e18 : (10 : Int) ^ (18 : Int).toNat = 1000000000000000000 := by decide
            rw [e18] at hy'
            exact ⟨y, by omega, rfl, rfl⟩
        · rintro σ' H' ⟨y, hy, rfl, eH⟩; have eH2 := eH.symm; subst eH2
          refine ⟨.ref t, rfl, t, _, 1, .int i0, rfl, rfl, SqL.of ht, rfl, i0, 1, rfl, rfl, .ref t, rfl, t, _, 1, 1, rfl, rfl, ht, rfl, ?_⟩
          refine ⟨.int y, rfl, .ref t, rfl, t, _, 2, 2, rfl, rfl, upd_same, rfl, ?_⟩
          exact ⟨_, i0 + 1, y, rfl, by omega, hy, upd_upd⟩
    · refine ⟨_, i0, j0, rfl, hi0, hj0, ?_⟩
      funext b
      by_cases hb : b = t
      · subst hb; rw [upd_same]; exact ht
      · rw [upd_ne hb]
  · rintro σ' H' ⟨y, i, j, rfl, hi, hj, rfl⟩
    have ht' : upd H t (.lst [.ref l, .int i, .int j]) t = some (.lst [.ref l, .int i, .int j]) := upd_same
    have m := draw_mod (x := j) n0
    have dv := draw_div hj n0
    refine ⟨.ref t, rfl, t, _, 2, .int j, rfl, rfl, SqL.of ht', rfl, .int n, rfl, j, n, rfl, rfl, n0, ?_⟩
    refine ⟨.ref t, rfl, t, _, 2, .int j, rfl, rfl, SqL.of ht', rfl, .int n, rfl, j, n, rfl, rfl, wide200 n0 n1, .ref t, rfl, t, _, 2, 2, rfl, rfl, ht', rfl, .int (j % n), rfl, ?_⟩
    refine q _ (.int (j % n)) G _ ⟨Ex.refl _, fun b o e => ?_, fun b o hb e => ?_, fun b hb _ => hb, ne, ?_, i, j / n, hi, dv, ?_⟩ (.int _) (hq _ m.1 m.2)
    · rw [upd_upd, upd_ne (ne_of_none e gt)]; exact ex b o e
    · rw [upd_upd, upd_ne hb]; exact e
    · rw [upd_upd, upd_ne ne.symm]; exact hl
    · exact upd_same
theorem ok_is_number (T : Tx K mg) : FnOk P w K mg base CX0 1 T.f_is_number T.fd_is_number ps_is_number (spP K ds_is_number) := by
  refine T.d_is_number.ok (k := 0) sc_is_number (fun vs H Q E h => spP_len len_is_number h) (fun cdv A outer s H vs Q E hr h => ?_)
  refine ⟨_, (pss_one (ps_ret (pe_and (pe_callB (kIsi K) (by rfl) T.b_isinstance (by decide +kernel) (pa_cons (pv 0) (pa_cons (pe_bltn (v := .ty "int") (by rfl) T.b_int (by decide +kernel) rfl) pa_nil))) (pe_one (pe_not (pe_callB (kIsi K) (by rfl) T.b_isinstance (by decide +kernel) (pa_cons (pv 0) (pa_cons (pe_bltn (v := .ty "bool") (by rfl) T.b_bool (by decide +kernel) rfl) pa_nil)))))))), ?_⟩
  exact body_pure (N := N_is_number) (a := a_is_number) (fun c => (as_ret (ae_andV (ae_isi (T := "int") (ae_var 0)) (ae_notV (ae_isi (T := "bool") (ae_var 0)))))) vc_is_number h
theorem ok_is_line (T : Tx K mg) : FnOk P w K mg base CX0 1 T.f_is_line T.fd_is_line ps_is_line (spP K ds_is_line) := by
  refine T.d_is_line.ok (k := 0) sc_is_line (fun vs H Q E h => spP_len len_is_line h) (fun cdv A outer s H vs Q E hr h => ?_)
  refine ⟨_, (pss_cons (ps_if (PW.pt (pw_or (pt_not (pt_val (pe_callB (kIsi K) (by rfl) T.b_isinstance (by decide +kernel) (pa_cons (pv 0) (pa_cons (pe_bltn (v := .ty "str") (by rfl) T.b_str (by decide +kernel) rfl) pa_nil))))) (pw_or (pt_cmpR op_lt (pe_callB (kLen K) (by rfl) T.b_len (by decide +kernel) (pa_cons (pv 0) pa_nil)) pe_int (nomark _)) (pw_or1 (pt_cmpR op_gt (pe_callB (kLen K) (by rfl) T.b_len (by decide +kernel) (pa_cons (pv 0) pa_nil)) (pe_glob (v := .int 30) rfl T.g_MOST_SIGNS.choose_spec.1 T.g_MOST_SIGNS.choose_spec.2) (nomark _))))))
      (pss_one (ps_ret pe_bl))
      pss_nil)
      (pss_cons (ps_if (PW.pt (pw_or (pt_cmpR (kEq K hr.units) (pe_ix (kIx K) (pv 0) pe_int (fun _ _ => rfl)) pe_str (nomark _)) (pw_or1 (pt_cmpR (kEq K hr.units) (pe_ix (kIx K) (pv 0) (pe_un un_neg pe_int) (fun _ _ => rfl)) pe_str (nomark _)))))
      (pss_one (ps_ret pe_bl))
      pss_nil)
      (pss_one (ps_ret (pe_callB (kAll K) (by rfl) T.b_all (by decide +kernel) (pa_cons (pe_lc (own := [("sign", 1)]) (g := (gName 1)) rfl sc_is_line.nd (pi_str (pv 0)) (blkOk_by (own := [("sign", 1)]) (N := N_is_line) (sc := defScope s_is_line) (by decide +kernel)) (fun _ _ _ _ _ => (pg_name (i := 1) sc_is_line.nd rfl (by first | exact Or.inl rfl | exact Or.inr rfl))) (fun _ _ _ _ _ => pts_nil) (fun _ _ _ _ _ => (pe_or (pe_cmpR op_in_sign (pv 1) (pe_glob (v := .str (Str.ofString "abcdefghijklmnopqrstuvwxyz")) rfl T.g_SMALL.choose_spec.1 T.g_SMALL.choose_spec.2) rfl) (pe_one (pe_cmpR (kEq K hr.units) (pv 1) pe_str (nomark _)))))) pa_nil)))))), ?_⟩
  exact body_pure (N := N_is_line) (a := a_is_line) (fun c => (as_seq (as_if (at_or (at_not (at_B (ae_isi (T := "str") (ae_var 0)))) (at_or (at_test (ae_op ar_I0b (ae_cb ac_len (aa_cons (ae_var 0) aa_nil)) (ae_int 1))) (at_test (ae_op ar_I0b (ae_cb ac_len (aa_cons (ae_var 0) aa_nil)) (ae_int 30)))))
      (as_ret (ae_bl false))
      as_next)
      (as_seq (as_if (at_or (at_test (ae_op ar_eq (ae_op ar_ix (ae_var 0) (ae_int 0)) (ae_str (Str.ofString " ")))) (at_test (ae_op ar_eq (ae_op ar_ix (ae_var 0) (ae_un ar_neg (ae_int 1))) (ae_str (Str.ofString " ")))))
      (as_ret (ae_bl false))
      as_next)
      (as_ret (ae_cb ac_all (aa_cons (ae_lc (vs := [1]) (ai_str (ae_var 0)) (ag_name 1) (go_name (by decide)) at_yes (ae_orV (ae_op ar_inS (ae_var 1) (ae_str (Str.ofString "abcdefghijklmnopqrstuvwxyz"))) (ae_op ar_eq (ae_var 1) (ae_str (Str.ofString " "))))) aa_nil)))))) vc_is_line h
theorem ok_is_body (T : Tx K mg) : FnOk P w K mg base CX0 2 T.f_is_body T.fd_is_body ps_is_body (spP K ds_is_body) := by
  refine T.d_is_body.ok (k := 1) sc_is_body (fun vs H Q E h => spP_len len_is_body h) (fun cdv A outer s H vs Q E hr h => ?_)
  refine ⟨_, (pss_cons (ps_if (PW.pt (pw_or (pt_not (pt_val (pe_callB (kIsi K) (by rfl) T.b_isinstance (by decide +kernel) (pa_cons (pv 0) (pa_cons (pe_bltn (v := .ty "tuple") (by rfl) T.b_tuple (by decide +kernel) rfl) pa_nil))))) (pw_or1 (pt_cmpR op_gt (pe_callB (kLen K) (by rfl) T.b_len (by decide +kernel) (pa_cons (pv 0) pa_nil)) (pe_glob (v := .int 60) rfl T.g_MOST_LINES.choose_spec.1 T.g_MOST_LINES.choose_spec.2) (nomark _)))))
      (pss_one (ps_ret pe_bl))
      pss_nil)
      (pss_one (ps_ret (pe_callB (kAll K) (by rfl) T.b_all (by decide +kernel) (pa_cons (pe_lc (own := [("line", 1)]) (g := (gName 1)) rfl sc_is_body.nd (pi_tup (pv 0)) (blkOk_by (own := [("line", 1)]) (N := N_is_body) (sc := defScope s_is_body) (by decide +kernel)) (fun _ _ _ _ _ => (pg_name (i := 1) sc_is_body.nd rfl (by first | exact Or.inl rfl | exact Or.inr rfl))) (fun _ _ _ _ _ => pts_nil) (fun _ _ _ _ _ => (pe_call (ok_is_line T) (hr.mono (by decide)) (by rfl) T.d_is_line.m T.d_is_line.kp T.d_is_line.b .nil pass0 (pa_cons (pv 1) pa_nil)))) pa_nil))))), ?_⟩
  exact body_pure (N := N_is_body) (a := a_is_body) (fun c => (as_seq (as_if (at_or (at_not (at_B (ae_isi (T := "tuple") (ae_var 0)))) (at_test (ae_op ar_I0b (ae_cb ac_len (aa_cons (ae_var 0) aa_nil)) (ae_int 60))))
      (as_ret (ae_bl false))
      as_next)
      (as_ret (ae_cb ac_all (aa_cons (ae_lc (vs := [1]) (ai_tup (ae_var 0)) (ag_name 1) (go_name (by decide)) at_yes (ae_callP0 (aa_cons (ae_var 1) aa_nil))) aa_nil))))) vc_is_body h
theorem ok_place_of (T : Tx K mg) : FnOk P w K mg base CX0 1 T.f_place_of T.fd_place_of ps_place_of (spP K ds_place_of) := by
  refine T.d_place_of.ok (k := 0) sc_place_of (fun vs H Q E h => spP_len len_place_of h) (fun cdv A outer s H vs Q E hr h => ?_)
  refine ⟨_, (pss_one (ps_ret (pe_tup (pa_cons (pe_ix (kIx K) (pv 0) pe_int (fun _ _ => rfl)) (pa_cons (pe_callTy call_int1 (by rfl) T.b_int (by decide +kernel) (pa_cons (pe_cmpR (kNe K hr.units) (pe_ix (kIx K) (pv 0) pe_int (fun _ _ => rfl)) pe_str (nomark _)) pa_nil)) pa_nil))))), ?_⟩
  exact body_pure (N := N_place_of) (a := a_place_of) (fun c => (as_ret (ae_tup (aa_cons (ae_op ar_ix (ae_var 0) (ae_int 1)) (aa_cons (ae_cb ac_int (aa_cons (ae_op ar_ne (ae_op ar_ix (ae_var 0) (ae_int 0)) (ae_str (Str.ofString "put"))) aa_nil)) aa_nil))))) vc_place_of h
theorem ok_is_edit (T : Tx K mg) : FnOk P w K mg base CX0 3 T.f_is_edit T.fd_is_edit ps_is_edit (spP K ds_is_edit) := by
  refine T.d_is_edit.ok (k := 2) sc_is_edit (fun vs H Q E h => spP_len len_is_edit h) (fun cdv A outer s H vs Q E hr h => ?_)
  refine ⟨_, (pss_cons (ps_if (PW.pt (pw_or (pt_not (pt_val (pe_callB (kIsi K) (by rfl) T.b_isinstance (by decide +kernel) (pa_cons (pv 0) (pa_cons (pe_bltn (v := .ty "tuple") (by rfl) T.b_tuple (by decide +kernel) rfl) pa_nil))))) (pw_or (pt_cmpR op_lt (pe_callB (kLen K) (by rfl) T.b_len (by decide +kernel) (pa_cons (pv 0) pa_nil)) pe_int (nomark _)) (pw_or (pt_not (pt_val (pe_callB (kIsi K) (by rfl) T.b_isinstance (by decide +kernel) (pa_cons (pe_ix (kIx K) (pv 0) pe_int (fun _ _ => rfl)) (pa_cons (pe_bltn (v := .ty "str") (by rfl) T.b_str (by decide +kernel) rfl) pa_nil))))) (pw_or1 (pt_not (pt_val (pe_call (ok_is_number T) (hr.mono (by decide)) (by rfl) T.d_is_number.m T.d_is_number.kp T.d_is_number.b .nil pass0 (pa_cons (pe_ix (kIx K) (pv 0) pe_int (fun _ _ => rfl)) pa_nil)))))))))
      (pss_one (ps_ret pe_bl))
      pss_nil)
      (pss_cons (ps_asg (pe_slice (kSl K) (pv 0) po_none (po_some pe_int)) (pg_tup rfl (pgs_cons (pg_name (i := 2) sc_is_edit.nd rfl (by first | exact Or.inl rfl | exact Or.inr rfl)) (pgs_cons (pg_name (i := 3) sc_is_edit.nd rfl (by first | exact Or.inl rfl | exact Or.inr rfl)) pgs_nil))))
      (pss_cons (ps_if (pt_cmpR (kEq K hr.units) (pv 2) pe_str (nomark _))
      (pss_one (ps_ret (pe_and (pe_cmpR (kEq K hr.units) (pe_callB (kLen K) (by rfl) T.b_len (by decide +kernel) (pa_cons (pv 0) pa_nil)) pe_int (nomark _)) (pe_and (pe_cmpR op_le pe_int (pv 3) (nomark _)) (pe_one (pe_cmpR op_lt (pv 3) (pv 1) (nomark _)))))))
      pss_nil)
      (pss_cons (ps_if (PW.pt (pw_or (pt_cmpR (kNe K hr.units) (pe_callB (kLen K) (by rfl) T.b_len (by decide +kernel) (pa_cons (pv 0) pa_nil)) pe_int (nomark _)) (pw_or1 (pt_cmpR op_lt (pv 3) pe_int (nomark _)))))
      (pss_one (ps_ret pe_bl))
      pss_nil)
      (pss_cons (ps_if (pt_cmpR (kEq K hr.units) (pv 2) pe_str (nomark _))
      (pss_one (ps_ret (pe_and (pe_cmpR op_lt (pv 3) (pv 1) (nomark _)) (pe_one (pe_call (ok_is_line T) (hr.mono (by decide)) (by rfl) T.d_is_line.m T.d_is_line.kp T.d_is_line.b .nil pass0 (pa_cons (pe_ix (kIx K) (pv 0) pe_int (fun _ _ => rfl)) pa_nil))))))
      pss_nil)
      (pss_one (ps_ret (pe_and (pe_cmpR (kEq K hr.units) (pv 2) pe_str (nomark _)) (pe_and (pe_cmpR op_le (pv 3) (pv 1) (nomark _)) (pe_and (pe_call (ok_is_body T) (hr.mono (by decide)) (by rfl) T.d_is_body.m T.d_is_body.kp T.d_is_body.b .nil pass0 (pa_cons (pe_ix (kIx K) (pv 0) pe_int (fun _ _ => rfl)) pa_nil)) (pe_and (pe_cmpR op_le pe_int (pe_callB (kLen K) (by rfl) T.b_len (by decide +kernel) (pa_cons (pe_ix (kIx K) (pv 0) pe_int (fun _ _ => rfl)) pa_nil)) (nomark _)) (pe_one (pe_cmpR op_le (pe_callB (kLen K) (by rfl) T.b_len (by decide +kernel) (pa_cons (pe_ix (kIx K) (pv 0) pe_int (fun _ _ => rfl)) pa_nil)) (pe_glob (v := .int 5) rfl T.g_MOST_PUT.choose_spec.1 T.g_MOST_PUT.choose_spec.2) (nomark _)))))))))))))), ?_⟩
  exact body_pure (N := N_is_edit) (a := a_is_edit) (fun c => (as_seq (as_if (at_or (at_not (at_B (ae_isi (T := "tuple") (ae_var 0)))) (at_or (at_test (ae_op ar_I0b (ae_cb ac_len (aa_cons (ae_var 0) aa_nil)) (ae_int 2))) (at_or (at_not (at_B (ae_isi (T := "str") (ae_op ar_ix (ae_var 0) (ae_int 0))))) (at_not (at_B (ae_callP0 (aa_cons (ae_op ar_ix (ae_var 0) (ae_int 1)) aa_nil)))))))
      (as_ret (ae_bl false))
      as_next)
      (as_seq (as_asg (ae_sl (ae_var 0) ao_no (ao_some (ae_int 2))) (ag_tup (ags_cons (ag_name 2) (ags_cons (ag_name 3) ags_nil))))
      (as_seq (as_if (at_test (ae_op ar_eq (ae_var 2) (ae_str (Str.ofString "drop"))))
      (as_ret (ae_andV (ae_op ar_eq (ae_cb ac_len (aa_cons (ae_var 0) aa_nil)) (ae_int 2)) (ae_andV (ae_op ar_I0b (ae_int 0) (ae_var 3)) (ae_op ar_I0b (ae_var 3) (ae_var 1)))))
      as_next)
      (as_seq (as_if (at_or (at_test (ae_op ar_ne (ae_cb ac_len (aa_cons (ae_var 0) aa_nil)) (ae_int 3))) (at_test (ae_op ar_I0b (ae_var 3) (ae_int 0))))
      (as_ret (ae_bl false))
      as_next)
      (as_seq (as_if (at_test (ae_op ar_eq (ae_var 2) (ae_str (Str.ofString "turn"))))
      (as_ret (ae_andV (ae_op ar_I0b (ae_var 3) (ae_var 1)) (ae_callP0 (aa_cons (ae_op ar_ix (ae_var 0) (ae_int 2)) aa_nil))))
      as_next)
      (as_ret (ae_andV (ae_op ar_eq (ae_var 2) (ae_str (Str.ofString "put"))) (ae_andV (ae_op ar_I0b (ae_var 3) (ae_var 1)) (ae_andV (ae_callP0 (aa_cons (ae_op ar_ix (ae_var 0) (ae_int 2)) aa_nil)) (ae_andV (ae_op ar_I0b (ae_int 1) (ae_cb ac_len (aa_cons (ae_op ar_ix (ae_var 0) (ae_int 2)) aa_nil))) (ae_op ar_I0b (ae_cb ac_len (aa_cons (ae_op ar_ix (ae_var 0) (ae_int 2)) aa_nil)) (ae_int 5))))))))))))) vc_is_edit h
theorem ok_is_draft (T : Tx K mg) : FnOk P w K mg base CX0 4 T.f_is_draft T.fd_is_draft ps_is_draft (spP K ds_is_draft) := by
  refine T.d_is_draft.ok (k := 3) sc_is_draft (fun vs H Q E h => spP_len len_is_draft h) (fun cdv A outer s H vs Q E hr h => ?_)
  refine ⟨_, (pss_cons (ps_if (PW.pt (pw_or (pt_not (pt_val (pe_callB (kIsi K) (by rfl) T.b_isinstance (by decide +kernel) (pa_cons (pv 1) (pa_cons (pe_bltn (v := .ty "tuple") (by rfl) T.b_tuple (by decide +kernel) rfl) pa_nil))))) (pw_or1 (pt_cmpR op_gt (pe_callB (kLen K) (by rfl) T.b_len (by decide +kernel) (pa_cons (pv 1) pa_nil)) (pe_glob (v := .int 20) rfl T.g_MOST_EDITS.choose_spec.1 T.g_MOST_EDITS.choose_spec.2) (nomark _)))))
      (pss_one (ps_ret pe_bl))
      pss_nil)
      (pss_cons (ps_if (pt_not (pt_val (pe_callB (kAll K) (by rfl) T.b_all (by decide +kernel) (pa_cons (pe_lc (own := [("edit", 2)]) (g := (gName 2)) rfl sc_is_draft.nd (pi_tup (pv 1)) (blkOk_by (own := [("edit", 2)]) (N := N_is_draft) (sc := defScope s_is_draft) (by decide +kernel)) (fun _ _ _ _ _ => (pg_name (i := 2) sc_is_draft.nd rfl (by first | exact Or.inl rfl | exact Or.inr rfl))) (fun _ _ _ _ _ => pts_nil) (fun _ _ _ _ _ => (pe_call (ok_is_edit T) (hr.mono (by decide)) (by rfl) T.d_is_edit.m T.d_is_edit.kp T.d_is_edit.b .nil pass0 (pa_cons (pv 2) (pa_cons (pe_callB (kLen K) (by rfl) T.b_len (by decide +kernel) (pa_cons (pv 0) pa_nil)) pa_nil))))) pa_nil))))
      (pss_one (ps_ret pe_bl))
      pss_nil)
      (pss_cons (ps_set (i := 3) sc_is_draft.nd rfl (by first | exact Or.inl rfl | exact Or.inr rfl) (pe_lc (own := [("edit", 2)]) (g := (gName 2)) rfl sc_is_draft.nd (pi_tup (pv 1)) (blkOk_by (own := [("edit", 2)]) (N := N_is_draft) (sc := defScope s_is_draft) (by decide +kernel)) (fun _ _ _ _ _ => (pg_name (i := 2) sc_is_draft.nd rfl (by first | exact Or.inl rfl | exact Or.inr rfl))) (fun _ _ _ _ _ => pts_nil) (fun _ _ _ _ _ => (pe_call (ok_place_of T) (hr.mono (by decide)) (by rfl) T.d_place_of.m T.d_place_of.kp T.d_place_of.b .nil pass0 (pa_cons (pv 2) pa_nil)))))
      (pss_one (ps_ret (pe_callB (kAll K) (by rfl) T.b_all (by decide +kernel) (pa_cons (pe_lc (own := [("k", 4)]) (g := (gName 4)) rfl sc_is_draft.nd (pi_range2 (by rfl) T.b_range (pa_cons pe_int (pa_cons (pe_callB (kLen K) (by rfl) T.b_len (by decide +kernel) (pa_cons (pv 3) pa_nil)) pa_nil))) (blkOk_by (own := [("k", 4)]) (N := N_is_draft) (sc := defScope s_is_draft) (by decide +kernel)) (fun _ _ _ _ _ => (pg_name (i := 4) sc_is_draft.nd rfl (by first | exact Or.inl rfl | exact Or.inr rfl))) (fun _ _ _ _ _ => pts_nil) (fun _ _ _ _ _ => (pe_cmpR (kLtT K hr.units) (pe_ix (kIx K) (pv 3) (pe_op op_sub (pv 4) pe_int) (fun _ _ => rfl)) (pe_ix (kIx K) (pv 3) (pv 4) (fun _ _ => rfl)) (nomark _)))) pa_nil))))))), ?_⟩
  exact body_pure (N := N_is_draft) (a := a_is_draft) (fun c => (as_seq (as_if (at_or (at_not (at_B (ae_isi (T := "tuple") (ae_var 1)))) (at_test (ae_op ar_I0b (ae_cb ac_len (aa_cons (ae_var 1) aa_nil)) (ae_int 20))))
      (as_ret (ae_bl false))
      as_next)
      (as_seq (as_if (at_not (at_B (ae_cb ac_all (aa_cons (ae_lc (vs := [2]) (ai_tup (ae_var 1)) (ag_name 2) (go_name (by decide)) at_yes (ae_callP0 (aa_cons (ae_var 2) (aa_cons (ae_cb ac_len (aa_cons (ae_var 0) aa_nil)) aa_nil)))) aa_nil))))
      (as_ret (ae_bl false))
      as_next)
      (as_seq (as_set 3 (ae_lc (vs := [2]) (ai_tup (ae_var 1)) (ag_name 2) (go_name (by decide)) at_yes (ae_callP0 (aa_cons (ae_var 2) aa_nil))))
      (as_ret (ae_cb ac_all (aa_cons (ae_lc (vs := [4]) (ai_rng2 (aa_cons (ae_int 1) (aa_cons (ae_cb ac_len (aa_cons (ae_var 3) aa_nil)) aa_nil))) (ag_name 4) (go_name (by decide)) at_yes (ae_op ar_ltT (ae_op ar_ix (ae_var 3) (ae_op ar_I0i (ae_var 4) (ae_int 1))) (ae_op ar_ix (ae_var 3) (ae_var 4)))) aa_nil))))))) vc_is_draft h
theorem ok_body_text (T : Tx K mg) : FnOk P w K mg base CX0 1 T.f_body_text T.fd_body_text ps_body_text (spP K ds_body_text) := by
  refine T.d_body_text.ok (k := 0) sc_body_text (fun vs H Q E h => spP_len len_body_text h) (fun cdv A outer s H vs Q E hr h => ?_)
  refine ⟨_, (pss_one (ps_ret (pe_m1 PySem.F.slot_str_join PySem.F.type_str_join (kJoin K) pe_str (pe_lc (own := [("line", 1)]) (g := (gName 1)) rfl sc_body_text.nd (pi_tup (pv 0)) (blkOk_by (own := [("line", 1)]) (N := N_body_text) (sc := defScope s_body_text) (by decide +kernel)) (fun _ _ _ _ _ => (pg_name (i := 1) sc_body_text.nd rfl (by first | exact Or.inl rfl | exact Or.inr rfl))) (fun _ _ _ _ _ => pts_nil) (fun _ _ _ _ _ => (pe_op (kAdd K) pe_str (pv 1))))))), ?_⟩
  exact body_pure (N := N_body_text) (a := a_body_text) (fun c => (as_ret (ae_m1 am_join (ae_str (Str.ofString "")) (ae_lc (vs := [1]) (ai_tup (ae_var 0)) (ag_name 1) (go_name (by decide)) at_yes (ae_op ar_add (ae_str (Str.ofString "|")) (ae_var 1)))))) vc_body_text h
theorem ok_edit_text (T : Tx K mg) : FnOk P w K mg base CX0 2 T.f_edit_text T.fd_edit_text ps_edit_text (spP K ds_edit_text) := by
  refine T.d_edit_text.ok (k := 1) sc_edit_text (fun vs H Q E h => spP_len len_edit_text h) (fun cdv A outer s H vs Q E hr h => ?_)
  refine ⟨_, (pss_cons (ps_if (pt_cmpR (kEq K hr.units) (pe_ix (kIx K) (pv 0) pe_int (fun _ _ => rfl)) pe_str (nomark _))
      (pss_one (ps_ret (pe_op (kAdd K) (pe_op (kAdd K) (pe_callTy call_str_int (by rfl) T.b_str (by decide +kernel) (pa_cons (pe_ix (kIx K) (pv 0) pe_int (fun _ _ => rfl)) pa_nil)) pe_str) (pe_call (ok_body_text T) (hr.mono (by decide)) (by rfl) T.d_body_text.m T.d_body_text.kp T.d_body_text.b .nil pass0 (pa_cons (pe_ix (kIx K) (pv 0) pe_int (fun _ _ => rfl)) pa_nil)))))
      pss_nil)
      (pss_cons (ps_if (pt_cmpR (kEq K hr.units) (pe_ix (kIx K) (pv 0) pe_int (fun _ _ => rfl)) pe_str (nomark _))
      (pss_one (ps_ret (pe_op (kAdd K) (pe_callTy call_str_int (by rfl) T.b_str (by decide +kernel) (pa_cons (pe_ix (kIx K) (pv 0) pe_int (fun _ _ => rfl)) pa_nil)) pe_str)))
      pss_nil)
      (pss_one (ps_ret (pe_op (kAdd K) (pe_op (kAdd K) (pe_callTy call_str_int (by rfl) T.b_str (by decide +kernel) (pa_cons (pe_ix (kIx K) (pv 0) pe_int (fun _ _ => rfl)) pa_nil)) pe_str) (pe_ix (kIx K) (pv 0) pe_int (fun _ _ => rfl))))))), ?_⟩
  exact body_pure (N := N_edit_text) (a := a_edit_text) (fun c => (as_seq (as_if (at_test (ae_op ar_eq (ae_op ar_ix (ae_var 0) (ae_int 0)) (ae_str (Str.ofString "put"))))
      (as_ret (ae_op ar_add (ae_op ar_add (ae_cb ac_strI (aa_cons (ae_op ar_ix (ae_var 0) (ae_int 1)) aa_nil)) (ae_str (Str.ofString "+"))) (ae_callP0 (aa_cons (ae_op ar_ix (ae_var 0) (ae_int 2)) aa_nil))))
      as_next)
      (as_seq (as_if (at_test (ae_op ar_eq (ae_op ar_ix (ae_var 0) (ae_int 0)) (ae_str (Str.ofString "drop"))))
      (as_ret (ae_op ar_add (ae_cb ac_strI (aa_cons (ae_op ar_ix (ae_var 0) (ae_int 1)) aa_nil)) (ae_str (Str.ofString "-"))))
      as_next)
      (as_ret (ae_op ar_add (ae_op ar_add (ae_cb ac_strI (aa_cons (ae_op ar_ix (ae_var 0) (ae_int 1)) aa_nil)) (ae_str (Str.ofString "="))) (ae_op ar_ix (ae_var 0) (ae_int 2))))))) vc_edit_text h
theorem ok_draft_text (T : Tx K mg) : FnOk P w K mg base CX0 3 T.f_draft_text T.fd_draft_text ps_draft_text (spP K ds_draft_text) := by
  refine T.d_draft_text.ok (k := 2) sc_draft_text (fun vs H Q E h => spP_len len_draft_text h) (fun cdv A outer s H vs Q E hr h => ?_)
  refine ⟨_, (pss_one (ps_ret (pe_m1 PySem.F.slot_str_join PySem.F.type_str_join (kJoin K) pe_str (pe_lc (own := [("edit", 1)]) (g := (gName 1)) rfl sc_draft_text.nd (pi_tup (pv 0)) (blkOk_by (own := [("edit", 1)]) (N := N_draft_text) (sc := defScope s_draft_text) (by decide +kernel)) (fun _ _ _ _ _ => (pg_name (i := 1) sc_draft_text.nd rfl (by first | exact Or.inl rfl | exact Or.inr rfl))) (fun _ _ _ _ _ => pts_nil) (fun _ _ _ _ _ => (pe_call (ok_edit_text T) (hr.mono (by decide)) (by rfl) T.d_edit_text.m T.d_edit_text.kp T.d_edit_text.b .nil pass0 (pa_cons (pv 1) pa_nil))))))), ?_⟩
  exact body_pure (N := N_draft_text) (a := a_draft_text) (fun c => (as_ret (ae_m1 am_join (ae_str (Str.ofString ";")) (ae_lc (vs := [1]) (ai_tup (ae_var 0)) (ag_name 1) (go_name (by decide)) at_yes (ae_callP0 (aa_cons (ae_var 1) aa_nil)))))) vc_draft_text h
theorem ok_need_text (T : Tx K mg) : FnOk P w K mg base CX0 1 T.f_need_text T.fd_need_text ps_need_text (spP K ds_need_text) := by
  refine T.d_need_text.ok (k := 0) sc_need_text (fun vs H Q E h => spP_len len_need_text h) (fun cdv A outer s H vs Q E hr h => ?_)
  refine ⟨_, (pss_one (ps_if (pt_not (pt_val (pe_callB (kIsi K) (by rfl) T.b_isinstance (by decide +kernel) (pa_cons (pv 0) (pa_cons (pe_bltn (v := .ty "str") (by rfl) T.b_str (by decide +kernel) rfl) pa_nil)))))
      (pss_one Fc.ps_never)
      pss_nil)), ?_⟩
  exact body_pure (N := N_need_text) (a := a_need_text) (fun c => (as_if (at_not (at_B (ae_isi (T := "str") (ae_var 0))))
      as_never
      as_next)) vc_need_text h
theorem ok_read_number (T : Tx K mg) : FnOk P w K mg base CX0 1 T.f_read_number T.fd_read_number ps_read_number (spP K ds_read_number) := by
  refine T.d_read_number.ok (k := 0) sc_read_number (fun vs H Q E h => spP_len len_read_number h) (fun cdv A outer s H vs Q E hr h => ?_)
  refine ⟨_, (pss_cons (ps_if (PW.pt (pw_or (pt_cmpR (kEq K hr.units) (pv 0) pe_str (nomark _)) (pw_or (pt_cmpR op_gt (pe_callB (kLen K) (by rfl) T.b_len (by decide +kernel) (pa_cons (pv 0) pa_nil)) (pe_glob (v := .int 6) rfl T.g_MOST_FIGURES.choose_spec.1 T.g_MOST_FIGURES.choose_spec.2) (nomark _)) (pw_or1 (pt_not (pt_val (pe_callB (kAll K) (by rfl) T.b_all (by decide +kernel) (pa_cons (pe_lc (own := [("sign", 1)]) (g := (gName 1)) rfl sc_read_number.nd (pi_str (pv 0)) (blkOk_by (own := [("sign", 1)]) (N := N_read_number) (sc := defScope s_read_number) (by decide +kernel)) (fun _ _ _ _ _ => (pg_name (i := 1) sc_read_number.nd rfl (by first | exact Or.inl rfl | exact Or.inr rfl))) (fun _ _ _ _ _ => pts_nil) (fun _ _ _ _ _ => (pe_cmpR op_in_sign (pv 1) (pe_glob (v := .str (Str.ofString "0123456789")) rfl T.g_FIGURES.choose_spec.1 T.g_FIGURES.choose_spec.2) rfl))) pa_nil))))))))
      (pss_one Fc.ps_never)
      pss_nil)
      (pss_cons (ps_if (PW.pt (pw_and (pt_cmpR (kEq K hr.units) (pe_ix (kIx K) (pv 0) pe_int (fun _ _ => rfl)) pe_str (nomark _)) (pw_and1 (pt_cmpR (kNe K hr.units) (pv 0) pe_str (nomark _)))))
      (pss_one Fc.ps_never)
      pss_nil)
      (pss_one (ps_ret (pe_callTy call_int_str (by rfl) T.b_int (by decide +kernel) (pa_cons (pv 0) pa_nil)))))), ?_⟩
  exact body_pure (N := N_read_number) (a := a_read_number) (fun c => (as_seq (as_if (at_or (at_test (ae_op ar_eq (ae_var 0) (ae_str (Str.ofString "")))) (at_or (at_test (ae_op ar_I0b (ae_cb ac_len (aa_cons (ae_var 0) aa_nil)) (ae_int 6))) (at_not (at_B (ae_cb ac_all (aa_cons (ae_lc (vs := [1]) (ai_str (ae_var 0)) (ag_name 1) (go_name (by decide)) at_yes (ae_op ar_inS (ae_var 1) (ae_str (Str.ofString "0123456789")))) aa_nil))))))
      as_never
      as_next)
      (as_seq (as_if (at_and (at_test (ae_op ar_eq (ae_op ar_ix (ae_var 0) (ae_int 0)) (ae_str (Str.ofString "0")))) (at_test (ae_op ar_ne (ae_var 0) (ae_str (Str.ofString "0")))))
      as_never
      as_next)
      (as_ret (ae_cb ac_intS (aa_cons (ae_var 0) aa_nil)))))) vc_read_number h
theorem ok_read_body (T : Tx K mg) : FnOk P w K mg base CX0 3 T.f_read_body T.fd_read_body ps_read_body (spP K ds_read_body) := by
  refine T.d_read_body.ok (k := 2) sc_read_body (fun vs H Q E h => spP_len len_read_body h) (fun cdv A outer s H vs Q E hr h => ?_)
  refine ⟨_, (pss_cons (ps_expr (pe_call (ok_need_text T) (hr.mono (by decide)) (by rfl) T.d_need_text.m T.d_need_text.kp T.d_need_text.b .nil pass0 (pa_cons (pv 0) pa_nil)))
      (pss_cons (ps_set (i := 1) sc_read_body.nd rfl (by first | exact Or.inl rfl | exact Or.inr rfl) (pe_tup pa_nil))
      (pss_cons (ps_if (pt_cmpR (kNe K hr.units) (pv 0) pe_str (nomark _))
      (pss_cons (ps_if (pt_cmpR (kNe K hr.units) (pe_ix (kIx K) (pv 0) pe_int (fun _ _ => rfl)) pe_str (nomark _))
      (pss_one Fc.ps_never)
      pss_nil)
      (pss_one (ps_set (i := 1) sc_read_body.nd rfl (by first | exact Or.inl rfl | exact Or.inr rfl) (pe_callTy (kTuple K) (by rfl) T.b_tuple (by decide +kernel) (pa_cons (pe_m1 PySem.F.slot_str_split PySem.F.type_str_split mt_split (pe_slice (kSl K) (pv 0) (po_some pe_int) po_none) pe_str) pa_nil)))))
      pss_nil)
      (pss_cons (ps_if (pt_not (pt_val (pe_call (ok_is_body T) (hr.mono (by decide)) (by rfl) T.d_is_body.m T.d_is_body.kp T.d_is_body.b .nil pass0 (pa_cons (pv 1) pa_nil))))
      (pss_one Fc.ps_never)
      pss_nil)
      (pss_one (ps_ret (pv 1))))))), ?_⟩
  exact body_pure (N := N_read_body) (a := a_read_body) (fun c => (as_seq (as_drop (ae_callP0 (aa_cons (ae_var 0) aa_nil)))
      (as_seq (as_set 1 (ae_tup aa_nil))
      (as_seq (as_if (at_test (ae_op ar_ne (ae_var 0) (ae_str (Str.ofString ""))))
      (as_seq (as_if (at_test (ae_op ar_ne (ae_op ar_ix (ae_var 0) (ae_int 0)) (ae_str (Str.ofString "|"))))
      as_never
      as_next)
      (as_set 1 (ae_cb ac_tuple (aa_cons (ae_m1 am_split (ae_sl (ae_var 0) (ao_some (ae_int 1)) ao_no) (ae_str (Str.ofString "|"))) aa_nil))))
      as_next)
      (as_seq (as_if (at_not (at_B (ae_callP0 (aa_cons (ae_var 1) aa_nil))))
      as_never
      as_next)
      (as_ret (ae_var 1))))))) vc_read_body h
theorem ok_read_edit (T : Tx K mg) : FnOk P w K mg base CX0 4 T.f_read_edit T.fd_read_edit ps_read_edit (spP K ds_read_edit) := by
  refine T.d_read_edit.ok (k := 3) sc_read_edit (fun vs H Q E h => spP_len len_read_edit h) (fun cdv A outer s H vs Q E hr h => ?_)
  refine ⟨_, (pss_cons (ps_set (i := 1) sc_read_edit.nd rfl (by first | exact Or.inl rfl | exact Or.inr rfl) pe_int)
      (pss_cons (ps_while PassesOwn.never (PW.pt (pw_and (pt_cmpR op_lt (pv 1) (pe_callB (kLen K) (by rfl) T.b_len (by decide +kernel) (pa_cons (pv 0) pa_nil)) (nomark _)) (pw_and1 (pt_cmpR op_in_sign (pe_ix (kIx K) (pv 0) (pv 1) (fun _ _ => rfl)) (pe_glob (v := .str (Str.ofString "0123456789")) rfl T.g_FIGURES.choose_spec.1 T.g_FIGURES.choose_spec.2) rfl))))
      (pss_one (ps_aug (i := 1) sc_read_edit.nd rfl (by first | exact Or.inl rfl | exact Or.inr rfl) pe_int ip_add)))
      (pss_cons (ps_set (i := 2) sc_read_edit.nd rfl (by first | exact Or.inl rfl | exact Or.inr rfl) (pe_call (ok_read_number T) (hr.mono (by decide)) (by rfl) T.d_read_number.m T.d_read_number.kp T.d_read_number.b .nil pass0 (pa_cons (pe_slice (kSl K) (pv 0) po_none (po_some (pv 1))) pa_nil)))
      (pss_cons (ps_set (i := 3) sc_read_edit.nd rfl (by first | exact Or.inl rfl | exact Or.inr rfl) (pe_slice (kSl K) (pv 0) (po_some (pv 1)) (po_some (pe_op (kAdd K) (pv 1) pe_int))))
      (pss_cons (ps_set (i := 4) sc_read_edit.nd rfl (by first | exact Or.inl rfl | exact Or.inr rfl) (pe_slice (kSl K) (pv 0) (po_some (pe_op (kAdd K) (pv 1) pe_int)) po_none))
      (pss_cons (ps_if (pt_cmpR (kEq K hr.units) (pv 3) pe_str (nomark _))
      (pss_one (ps_ret (pe_tup (pa_cons pe_str (pa_cons (pv 2) (pa_cons (pe_call (ok_read_body T) (hr.mono (by decide)) (by rfl) T.d_read_body.m T.d_read_body.kp T.d_read_body.b .nil pass0 (pa_cons (pv 4) pa_nil)) pa_nil))))))
      pss_nil)
      (pss_cons (ps_if (PW.pt (pw_and (pt_cmpR (kEq K hr.units) (pv 3) pe_str (nomark _)) (pw_and1 (pt_cmpR (kEq K hr.units) (pv 4) pe_str (nomark _)))))
      (pss_one (ps_ret (pe_tup (pa_cons pe_str (pa_cons (pv 2) pa_nil)))))
      pss_nil)
      (pss_cons (ps_if (pt_cmpR (kEq K hr.units) (pv 3) pe_str (nomark _))
      (pss_one (ps_ret (pe_tup (pa_cons pe_str (pa_cons (pv 2) (pa_cons (pv 4) pa_nil))))))
      pss_nil)
      (pss_one Fc.ps_never))))))))), ?_⟩
  exact body_pure (N := N_read_edit) (a := a_read_edit) (fun c => (as_seq (as_set 1 (ae_int 0))
      (as_seq (as_while (at_and (at_test (ae_op ar_I0b (ae_var 1) (ae_cb ac_len (aa_cons (ae_var 0) aa_nil)))) (at_test (ae_op ar_inS (ae_op ar_ix (ae_var 0) (ae_var 1)) (ae_str (Str.ofString "0123456789")))))
      (as_aug 1 (ae_int 1)))
      (as_seq (as_set 2 (ae_callP0 (aa_cons (ae_sl (ae_var 0) ao_no (ao_some (ae_var 1))) aa_nil)))
      (as_seq (as_set 3 (ae_sl (ae_var 0) (ao_some (ae_var 1)) (ao_some (ae_op ar_add (ae_var 1) (ae_int 1)))))
      (as_seq (as_set 4 (ae_sl (ae_var 0) (ao_some (ae_op ar_add (ae_var 1) (ae_int 1))) ao_no))
      (as_seq (as_if (at_test (ae_op ar_eq (ae_var 3) (ae_str (Str.ofString "+"))))
      (as_ret (ae_tup (aa_cons (ae_str (Str.ofString "put")) (aa_cons (ae_var 2) (aa_cons (ae_callP0 (aa_cons (ae_var 4) aa_nil)) aa_nil)))))
      as_next)
      (as_seq (as_if (at_and (at_test (ae_op ar_eq (ae_var 3) (ae_str (Str.ofString "-")))) (at_test (ae_op ar_eq (ae_var 4) (ae_str (Str.ofString "")))))
      (as_ret (ae_tup (aa_cons (ae_str (Str.ofString "drop")) (aa_cons (ae_var 2) aa_nil))))
      as_next)
      (as_seq (as_if (at_test (ae_op ar_eq (ae_var 3) (ae_str (Str.ofString "="))))
      (as_ret (ae_tup (aa_cons (ae_str (Str.ofString "turn")) (aa_cons (ae_var 2) (aa_cons (ae_var 4) aa_nil)))))
      as_next)
      as_never))))))))) vc_read_edit h
theorem ok_read_draft (T : Tx K mg) : FnOk P w K mg base CX0 5 T.f_read_draft T.fd_read_draft ps_read_draft (spP K ds_read_draft) := by
  refine T.d_read_draft.ok (k := 4) sc_read_draft (fun vs H Q E h => spP_len len_read_draft h) (fun cdv A outer s H vs Q E hr h => ?_)
  refine ⟨_, (pss_cons (ps_expr (pe_call (ok_need_text T) (hr.mono (by decide)) (by rfl) T.d_need_text.m T.d_need_text.kp T.d_need_text.b .nil pass0 (pa_cons (pv 0) pa_nil)))
      (pss_cons (ps_set (i := 1) sc_read_draft.nd rfl (by first | exact Or.inl rfl | exact Or.inr rfl) (pe_tup pa_nil))
      (pss_cons (ps_if (pt_cmpR (kNe K hr.units) (pv 0) pe_str (nomark _))
      (pss_one (ps_set (i := 1) sc_read_draft.nd rfl (by first | exact Or.inl rfl | exact Or.inr rfl) (pe_callTy (kTuple K) (by rfl) T.b_tuple (by decide +kernel) (pa_cons (pe_lc (own := [("part", 2)]) (g := (gName 2)) rfl sc_read_draft.nd (pi_list (pe_m1 PySem.F.slot_str_split PySem.F.type_str_split mt_split (pv 0) pe_str)) (blkOk_by (own := [("part", 2)]) (N := N_read_draft) (sc := defScope s_read_draft) (by decide +kernel)) (fun _ _ _ _ _ => (pg_name (i := 2) sc_read_draft.nd rfl (by first | exact Or.inl rfl | exact Or.inr rfl))) (fun _ _ _ _ _ => pts_nil) (fun _ _ _ _ _ => (pe_call (ok_read_edit T) (hr.mono (by decide)) (by rfl) T.d_read_edit.m T.d_read_edit.kp T.d_read_edit.b .nil pass0 (pa_cons (pv 2) pa_nil)))) pa_nil))))
      pss_nil)
      (pss_cons (ps_if (pt_not (pt_val (pe_call (ok_is_draft T) (hr.mono (by decide)) (by rfl) T.d_is_draft.m T.d_is_draft.kp T.d_is_draft.b .nil pass0 (pa_cons (pe_glob (v := .ref T.a_LONGEST) rfl T.g_LONGEST rfl) (pa_cons (pv 1) pa_nil)))))
      (pss_one Fc.ps_never)
      pss_nil)
      (pss_one (ps_ret (pv 1))))))), ?_⟩
  exact body_pure (N := N_read_draft) (a := a_read_draft) (fun c => (as_seq (as_drop (ae_callP0 (aa_cons (ae_var 0) aa_nil)))
      (as_seq (as_set 1 (ae_tup aa_nil))
      (as_seq (as_if (at_test (ae_op ar_ne (ae_var 0) (ae_str (Str.ofString ""))))
      (as_set 1 (ae_cb ac_tuple (aa_cons (ae_lc (vs := [2]) (ai_list (ae_m1 am_split (ae_var 0) (ae_str (Str.ofString ";")))) (ag_name 2) (go_name (by decide)) at_yes (ae_callP0 (aa_cons (ae_var 2) aa_nil))) aa_nil)))
      as_next)
      (as_seq (as_if (at_not (at_B (ae_callP0 (aa_cons (ae_constT (d := (.tuple (List.replicate 60 (.str (Str.ofString "a"))))) (T.r_LONGEST)) (aa_cons (ae_var 1) aa_nil)))))
      as_never
      as_next)
      (as_ret (ae_var 1))))))) vc_read_draft h
theorem ok_law_a_line (T : Tx K mg) : FnOk P w K mg base CX0 2 T.f_law_a_line T.fd_law_a_line ps_law_a_line (spT K ds_law_a_line) := by
  refine T.d_law_a_line.ok (k := 1) sc_law_a_line (fun vs H Q E h => spT_len len_law_a_line h) (fun cdv A outer s H vs Q E hr h => ?_)
  refine ⟨_, (pss_cons (ps_set (i := 1) sc_law_a_line.nd rfl (by first | exact Or.inl rfl | exact Or.inr rfl) (pe_call (ok_law_draw T) (hr.mono (by decide)) (by rfl) T.d_law_draw.m T.d_law_draw.kp T.d_law_draw.b .nil pass0 (pa_cons (pv 0) (pa_cons pe_int pa_nil))))
      (pss_cons (ps_if (pt_cmpR op_lt (pv 1) pe_int (nomark _))
      (pss_one (ps_ret (pe_ix (kIx K) (pe_lst (pa_cons pe_str (pa_cons pe_str (pa_cons pe_str (pa_cons pe_str (pa_cons pe_str pa_nil)))))) (pe_call (ok_law_draw T) (hr.mono (by decide)) (by rfl) T.d_law_draw.m T.d_law_draw.kp T.d_law_draw.b .nil pass0 (pa_cons (pv 0) (pa_cons pe_int pa_nil))) (fun _ _ => rfl))))
      pss_nil)
      (pss_cons (ps_set (i := 2) sc_law_a_line.nd rfl (by first | exact Or.inl rfl | exact Or.inr rfl) pe_str)
      (pss_one (ps_ret (kOrT K (pe_m1 PySem.F.slot_str_strip PySem.F.type_str_strip mt_stripChars (pe_m1 PySem.F.slot_str_join PySem.F.type_str_join (kJoin K) pe_str (pe_lc (own := [("k", 3)]) (g := (gName 3)) rfl sc_law_a_line.nd (pi_range1 (by rfl) T.b_range (pa_cons (pe_ix (kIx K) (pe_lst (pa_cons pe_int (pa_cons pe_int pa_nil))) (pe_op op_sub (pv 1) pe_int) (fun _ _ => rfl)) pa_nil)) (blkOk_by (own := [("k", 3)]) (N := N_law_a_line) (sc := defScope s_law_a_line) (by decide +kernel)) (fun _ _ _ _ _ => (pg_name (i := 3) sc_law_a_line.nd rfl (by first | exact Or.inl rfl | exact Or.inr rfl))) (fun _ _ _ _ _ => pts_nil) (fun _ _ _ _ _ => (pe_ix (kIx K) (pv 2) (pe_call (ok_law_draw T) (hr.mono (by decide)) (by rfl) T.d_law_draw.m T.d_law_draw.kp T.d_law_draw.b .nil pass0 (pa_cons (pv 0) (pa_cons pe_int pa_nil))) (fun _ _ => rfl))))) pe_str) (pe_one pe_str))))))), ?_⟩
  exact body_tape (N := N_law_a_line) (a := a_law_a_line) (fun c => (as_seq (as_set 1 (ae_callT (i := 0) (aa_cons (ae_int 4) aa_nil)))
      (as_seq (as_if (at_test (ae_op ar_I0b (ae_var 1) (ae_int 2)))
      (as_ret (ae_op ar_ix (ae_lst (aa_cons (ae_str (Str.ofString "a")) (aa_cons (ae_str (Str.ofString "b")) (aa_cons (ae_str (Str.ofString "ab")) (aa_cons (ae_str (Str.ofString "a b")) (aa_cons (ae_str (Str.ofString "b a")) aa_nil)))))) (ae_callT (i := 0) (aa_cons (ae_int 5) aa_nil))))
      as_next)
      (as_seq (as_set 2 (ae_str (Str.ofString "abcdefghijklmnopqrstuvwxyz ")))
      (as_ret (ae_orT (ae_m1 am_strip (ae_m1 am_join (ae_str (Str.ofString "")) (ae_lc (vs := [3]) (ai_rng1 (aa_cons (ae_op ar_ix (ae_lst (aa_cons (ae_int 30) (aa_cons (ae_int 9) aa_nil))) (ae_op ar_I0i (ae_var 1) (ae_int 2))) aa_nil)) (ag_name 3) (go_name (by decide)) at_yes (ae_op ar_ix (ae_var 2) (ae_callT (i := 0) (aa_cons (ae_int 27) aa_nil))))) (ae_str (Str.ofString " "))) (ae_str (Str.ofString "z")))))))) vc_law_a_line h
theorem ok_law_an_edit (T : Tx K mg) : FnOk P w K mg base CX0 3 T.f_law_an_edit T.fd_law_an_edit ps_law_an_edit (spT K ds_law_an_edit) := by
  refine T.d_law_an_edit.ok (k := 2) sc_law_an_edit (fun vs H Q E h => spT_len len_law_an_edit h) (fun cdv A outer s H vs Q E hr h => ?_)
  refine ⟨_, (pss_cons (ps_if (pt_not (pt_val (pv 3)))
      (pss_one (ps_ret (pe_tup (pa_cons pe_str (pa_cons (pv 2) (pa_cons (pe_callTy (kTuple K) (by rfl) T.b_tuple (by decide +kernel) (pa_cons (pe_lc (own := [("j", 4)]) (g := (gName 4)) rfl sc_law_an_edit.nd (pi_range1 (by rfl) T.b_range (pa_cons (pe_op (kAdd K) pe_int (pe_call (ok_law_draw T) (hr.mono (by decide)) (by rfl) T.d_law_draw.m T.d_law_draw.kp T.d_law_draw.b .nil pass0 (pa_cons (pv 0) (pa_cons (pe_ix (kIx K) (pe_lst (pa_cons pe_int (pa_cons pe_int pa_nil))) (pe_call (ok_law_draw T) (hr.mono (by decide)) (by rfl) T.d_law_draw.m T.d_law_draw.kp T.d_law_draw.b .nil pass0 (pa_cons (pv 0) (pa_cons pe_int pa_nil))) (fun _ _ => rfl)) pa_nil)))) pa_nil)) (blkOk_by (own := [("j", 4)]) (N := N_law_an_edit) (sc := defScope s_law_an_edit) (by decide +kernel)) (fun _ _ _ _ _ => (pg_name (i := 4) sc_law_an_edit.nd rfl (by first | exact Or.inl rfl | exact Or.inr rfl))) (fun _ _ _ _ _ => pts_nil) (fun _ _ _ _ _ => (pe_call (ok_law_a_line T) (hr.mono (by decide)) (by rfl) T.d_law_a_line.m T.d_law_a_line.kp T.d_law_a_line.b .nil pass0 (pa_cons (pv 0) pa_nil)))) pa_nil)) pa_nil))))))
      pss_nil)
      (pss_one (ps_ret (pe_ix (kIx K) (pe_lst (pa_cons (pe_tup (pa_cons pe_str (pa_cons (pv 2) pa_nil))) (pa_cons (pe_tup (pa_cons pe_str (pa_cons (pv 2) (pa_cons (pe_call (ok_law_a_line T) (hr.mono (by decide)) (by rfl) T.d_law_a_line.m T.d_law_a_line.kp T.d_law_a_line.b .nil pass0 (pa_cons (pv 0) pa_nil)) pa_nil)))) pa_nil))) (pe_call (ok_law_draw T) (hr.mono (by decide)) (by rfl) T.d_law_draw.m T.d_law_draw.kp T.d_law_draw.b .nil pass0 (pa_cons (pv 0) (pa_cons pe_int pa_nil))) (fun _ _ => rfl))))), ?_⟩
  exact body_tape (N := N_law_an_edit) (a := a_law_an_edit) (fun c => (as_seq (as_if (at_not (at_B (ae_var 3)))
      (as_ret (ae_tup (aa_cons (ae_str (Str.ofString "put")) (aa_cons (ae_var 2) (aa_cons (ae_cb ac_tuple (aa_cons (ae_lc (vs := [4]) (ai_rng1 (aa_cons (ae_op ar_add (ae_int 1) (ae_callT (i := 0) (aa_cons (ae_op ar_ix (ae_lst (aa_cons (ae_int 2) (aa_cons (ae_int 5) aa_nil))) (ae_callT (i := 0) (aa_cons (ae_int 2) aa_nil))) aa_nil))) aa_nil)) (ag_name 4) (go_name (by decide)) at_yes (ae_callT (i := 0) aa_nil)) aa_nil)) aa_nil)))))
      as_next)
      (as_ret (ae_op ar_ix (ae_lst (aa_cons (ae_tup (aa_cons (ae_str (Str.ofString "drop")) (aa_cons (ae_var 2) aa_nil))) (aa_cons (ae_tup (aa_cons (ae_str (Str.ofString "turn")) (aa_cons (ae_var 2) (aa_cons (ae_callT (i := 0) aa_nil) aa_nil)))) aa_nil))) (ae_callT (i := 0) (aa_cons (ae_int 2) aa_nil)))))) vc_law_an_edit h
theorem ok_law_a_draft (T : Tx K mg) : FnOk P w K mg base CX0 4 T.f_law_a_draft T.fd_law_a_draft ps_law_a_draft (spT K ds_law_a_draft) := by
  refine T.d_law_a_draft.ok (k := 3) sc_law_a_draft (fun vs H Q E h => spT_len len_law_a_draft h) (fun cdv A outer s H vs Q E hr h => ?_)
  refine ⟨_, (pss_cons (ps_set (i := 3) sc_law_a_draft.nd rfl (by first | exact Or.inl rfl | exact Or.inr rfl) (pe_lst pa_nil))
      (pss_cons (ps_for PassesOwn.never rfl (pi_range1 (by rfl) T.b_range (pa_cons (pe_op (kAdd K) (pv 1) pe_int) pa_nil)) (pg_name (i := 4) sc_law_a_draft.nd rfl (by first | exact Or.inl rfl | exact Or.inr rfl))
      (pss_one (ps_for PassesOwn.never rfl (pi_tup (pe_tup (pa_cons pe_bl (pa_cons pe_bl pa_nil)))) (pg_name (i := 5) sc_law_a_draft.nd rfl (by first | exact Or.inl rfl | exact Or.inr rfl))
      (pss_one (ps_if (PW.pt (pw_and (pt_cmpR op_lt (pe_callB (kLen K) (by rfl) T.b_len (by decide +kernel) (pa_cons (pv 3) pa_nil)) pe_int (nomark _)) (pw_and (pt_cmpR (kEq K hr.units) (pe_call (ok_law_draw T) (hr.mono (by decide)) (by rfl) T.d_law_draw.m T.d_law_draw.kp T.d_law_draw.b .nil pass0 (pa_cons (pv 0) (pa_cons (pv 2) pa_nil))) pe_int (nomark _)) (pw_and1 (PW.pt (pw_or (pt_cmpR op_lt (pv 4) (pv 1) (nomark _)) (pw_or1 (pt_not (pt_val (pv 5))))))))))
      (pss_one (ps_expr (pe_bm PySem.F.plainAttrs_list PySem.F.slot_list_append PySem.F.type_list_append mt_append (pv 3) (pa_cons (pe_call (ok_law_an_edit T) (hr.mono (by decide)) (by rfl) T.d_law_an_edit.m T.d_law_an_edit.kp T.d_law_an_edit.b .nil pass0 (pa_cons (pv 0) (pa_cons (pv 1) (pa_cons (pv 4) (pa_cons (pv 5) pa_nil))))) pa_nil))))
      pss_nil)))))
      (pss_one (ps_ret (pe_callTy (kTuple K) (by rfl) T.b_tuple (by decide +kernel) (pa_cons (pv 3) pa_nil)))))), ?_⟩
  exact body_tape (N := N_law_a_draft) (a := a_law_a_draft) (fun c => (as_seq (as_setOwnLst 3 aa_nil)
      (as_seq (as_for (ai_rng1 (aa_cons (ae_op ar_add (ae_var 1) (ae_int 1)) aa_nil)) (ag_name 4)
      (as_for (ai_tup (ae_tup (aa_cons (ae_bl false) (aa_cons (ae_bl true) aa_nil)))) (ag_name 5)
      (as_if (at_and (at_test (ae_op ar_I0b (ae_lenV 3) (ae_int 20))) (at_and (at_test (ae_op ar_eq (ae_callT (i := 0) (aa_cons (ae_var 2) aa_nil)) (ae_int 0))) (at_or (at_test (ae_op ar_I0b (ae_var 4) (ae_var 1))) (at_not (at_B (ae_var 5))))))
      (as_append 3 (ae_callT (i := 0) (aa_cons (ae_var 1) (aa_cons (ae_var 4) (aa_cons (ae_var 5) aa_nil)))))
      as_next)))
      (as_freeze 3 (as_ret (ae_cb ac_tuple (aa_cons (ae_var 3) aa_nil))))))) vc_law_a_draft h
theorem ok_law_edit_text (T : Tx K mg) : FnOk P w K mg base CX0 1 T.f_law_edit_text T.fd_law_edit_text ps_law_edit_text (spP K ds_law_edit_text) := by
  refine T.d_law_edit_text.ok (k := 0) sc_law_edit_text (fun vs H Q E h => spP_len len_law_edit_text h) (fun cdv A outer s H vs Q E hr h => ?_)
  refine ⟨_, (pss_cons (ps_if (pt_cmpR (kEq K hr.units) (pe_ix (kIx K) (pv 0) pe_int (fun _ _ => rfl)) pe_str (nomark _))
      (pss_one (ps_ret (pe_op (kAdd K) (pe_op (kAdd K) (pe_callTy call_str_int (by rfl) T.b_str (by decide +kernel) (pa_cons (pe_ix (kIx K) (pv 0) pe_int (fun _ _ => rfl)) pa_nil)) pe_str) (pe_m1 PySem.F.slot_str_join PySem.F.type_str_join (kJoin K) pe_str (pe_lc (own := [("line", 1)]) (g := (gName 1)) rfl sc_law_edit_text.nd (pi_tup (pe_ix (kIx K) (pv 0) pe_int (fun _ _ => rfl))) (blkOk_by (own := [("line", 1)]) (N := N_law_edit_text) (sc := defScope s_law_edit_text) (by decide +kernel)) (fun _ _ _ _ _ => (pg_name (i := 1) sc_law_edit_text.nd rfl (by first | exact Or.inl rfl | exact Or.inr rfl))) (fun _ _ _ _ _ => pts_nil) (fun _ _ _ _ _ => (pe_op (kAdd K) pe_str (pv 1))))))))
      pss_nil)
      (pss_cons (ps_if (pt_cmpR (kEq K hr.units) (pe_ix (kIx K) (pv 0) pe_int (fun _ _ => rfl)) pe_str (nomark _))
      (pss_one (ps_ret (pe_op (kAdd K) (pe_callTy call_str_int (by rfl) T.b_str (by decide +kernel) (pa_cons (pe_ix (kIx K) (pv 0) pe_int (fun _ _ => rfl)) pa_nil)) pe_str)))
      pss_nil)
      (pss_one (ps_ret (pe_op (kAdd K) (pe_op (kAdd K) (pe_callTy call_str_int (by rfl) T.b_str (by decide +kernel) (pa_cons (pe_ix (kIx K) (pv 0) pe_int (fun _ _ => rfl)) pa_nil)) pe_str) (pe_ix (kIx K) (pv 0) pe_int (fun _ _ => rfl))))))), ?_⟩
  exact body_pure (N := N_law_edit_text) (a := a_law_edit_text) (fun c => (as_seq (as_if (at_test (ae_op ar_eq (ae_op ar_ix (ae_var 0) (ae_int 0)) (ae_str (Str.ofString "put"))))
      (as_ret (ae_op ar_add (ae_op ar_add (ae_cb ac_strI (aa_cons (ae_op ar_ix (ae_var 0) (ae_int 1)) aa_nil)) (ae_str (Str.ofString "+"))) (ae_m1 am_join (ae_str (Str.ofString "")) (ae_lc (vs := [1]) (ai_tup (ae_op ar_ix (ae_var 0) (ae_int 2))) (ag_name 1) (go_name (by decide)) at_yes (ae_op ar_add (ae_str (Str.ofString "|")) (ae_var 1))))))
      as_next)
      (as_seq (as_if (at_test (ae_op ar_eq (ae_op ar_ix (ae_var 0) (ae_int 0)) (ae_str (Str.ofString "drop"))))
      (as_ret (ae_op ar_add (ae_cb ac_strI (aa_cons (ae_op ar_ix (ae_var 0) (ae_int 1)) aa_nil)) (ae_str (Str.ofString "-"))))
      as_next)
      (as_ret (ae_op ar_add (ae_op ar_add (ae_cb ac_strI (aa_cons (ae_op ar_ix (ae_var 0) (ae_int 1)) aa_nil)) (ae_str (Str.ofString "="))) (ae_op ar_ix (ae_var 0) (ae_int 2))))))) vc_law_edit_text h
theorem ok_law (T : Tx K mg) {f : Addr} {fd : FuncData} (dl : Df K mg "law" s_law ps_law f fd) : FnOk P w K mg base CX0 20 f fd ps_law (spLaw K) := by
  refine dl.ok (k := 19) sc_law (fun vs H Q E h => by obtain ⟨a, ns, rfl, _⟩ := h; rfl) (fun cdv A outer s H vs Q E hr h => ?_)
  refine ⟨_, (pss_cons (ps_set (i := 1) sc_law.nd rfl (by first | exact Or.inl rfl | exact Or.inr rfl) (pe_lst (pa_cons (pe_callTy call_list_of (by rfl) T.b_list (by decide +kernel) (pa_cons (pv 0) pa_nil)) (pa_cons pe_int (pa_cons pe_int pa_nil)))))
      (pss_cons (ps_for PassesOwn.never rfl (pi_range1 (by rfl) T.b_range (pa_cons pe_int pa_nil)) (pg_name (i := 2) sc_law.nd rfl (by first | exact Or.inl rfl | exact Or.inr rfl))
      (pss_cons (ps_set (i := 3) sc_law.nd rfl (by first | exact Or.inl rfl | exact Or.inr rfl) (pe_ix (kIx K) (pe_lst (pa_cons (pe_call (ok_law_draw T) (hr.mono (by decide)) (by rfl) T.d_law_draw.m T.d_law_draw.kp T.d_law_draw.b .nil pass0 (pa_cons (pv 1) (pa_cons pe_int pa_nil))) (pa_cons (pe_call (ok_law_draw T) (hr.mono (by decide)) (by rfl) T.d_law_draw.m T.d_law_draw.kp T.d_law_draw.b .nil pass0 (pa_cons (pv 1) (pa_cons pe_int pa_nil))) pa_nil))) (pe_call (ok_law_draw T) (hr.mono (by decide)) (by rfl) T.d_law_draw.m T.d_law_draw.kp T.d_law_draw.b .nil pass0 (pa_cons (pv 1) (pa_cons pe_int pa_nil))) (fun _ _ => rfl)))
      (pss_cons (ps_set (i := 4) sc_law.nd rfl (by first | exact Or.inl rfl | exact Or.inr rfl) (pe_call (ok_law_a_draft T) (hr.mono (by decide)) (by rfl) T.d_law_a_draft.m T.d_law_a_draft.kp T.d_law_a_draft.b .nil pass0 (pa_cons (pv 1) (pa_cons (pv 3) (pa_cons (pe_op (kAdd K) pe_int (pe_call (ok_law_draw T) (hr.mono (by decide)) (by rfl) T.d_law_draw.m T.d_law_draw.kp T.d_law_draw.b .nil pass0 (pa_cons (pv 1) (pa_cons pe_int pa_nil)))) pa_nil)))))
      (pss_cons (ps_set (i := 5) sc_law.nd rfl (by first | exact Or.inl rfl | exact Or.inr rfl) (pe_call (ok_draft_text T) (hr.mono (by decide)) (by rfl) T.d_draft_text.m T.d_draft_text.kp T.d_draft_text.b .nil pass0 (pa_cons (pv 4) pa_nil)))
      (pss_cons (ps_if (PW.pt (pw_or (pt_not (pt_val (pe_callB (kIsi K) (by rfl) T.b_isinstance (by decide +kernel) (pa_cons (pv 5) (pa_cons (pe_bltn (v := .ty "str") (by rfl) T.b_str (by decide +kernel) rfl) pa_nil))))) (pw_or1 (pt_cmpR (kNe K hr.units) (pv 5) (pe_m1 PySem.F.slot_str_join PySem.F.type_str_join (kJoin K) pe_str (pe_lc (own := [("edit", 6)]) (g := (gName 6)) rfl sc_law.nd (pi_tup (pv 4)) (blkOk_by (own := [("edit", 6)]) (N := N_law) (sc := defScope s_law) (by decide +kernel)) (fun _ _ _ _ _ => (pg_name (i := 6) sc_law.nd rfl (by first | exact Or.inl rfl | exact Or.inr rfl))) (fun _ _ _ _ _ => pts_nil) (fun _ _ _ _ _ => (pe_call (ok_law_edit_text T) (hr.mono (by decide)) (by rfl) T.d_law_edit_text.m T.d_law_edit_text.kp T.d_law_edit_text.b .nil pass0 (pa_cons (pv 6) pa_nil))))) (nomark _)))))
      (pss_one (ps_ret pe_bl))
      pss_nil)
      (pss_cons (ps_set (i := 7) sc_law.nd rfl (by first | exact Or.inl rfl | exact Or.inr rfl) (pe_call (ok_read_draft T) (hr.mono (by decide)) (by rfl) T.d_read_draft.m T.d_read_draft.kp T.d_read_draft.b .nil pass0 (pa_cons (pv 5) pa_nil)))
      (pss_one (ps_if (PW.pt (pw_or (pt_not (pt_val (pe_callB (kIsi K) (by rfl) T.b_isinstance (by decide +kernel) (pa_cons (pv 7) (pa_cons (pe_bltn (v := .ty "tuple") (by rfl) T.b_tuple (by decide +kernel) rfl) pa_nil))))) (pw_or1 (pt_cmpR (kNe K hr.units) (pv 7) (pv 4) (nomark _)))))
      (pss_one (ps_ret pe_bl))
      pss_nil))))))))
      (pss_one (ps_ret (pe_and (pe_cmpR (kEq K hr.units) (pe_call (ok_draft_text T) (hr.mono (by decide)) (by rfl) T.d_draft_text.m T.d_draft_text.kp T.d_draft_text.b .nil pass0 (pa_cons (pe_tup pa_nil) pa_nil)) pe_str (nomark _)) (pe_one (pe_cmpR (kEq K hr.units) (pe_call (ok_read_draft T) (hr.mono (by decide)) (by rfl) T.d_read_draft.m T.d_read_draft.kp T.d_read_draft.b .nil pass0 (pa_cons pe_str pa_nil)) (pe_tup pa_nil) (nomark _)))))))), ?_⟩
  obtain ⟨a, ns, rfl, hS, hl, q⟩ := h
  exact law_start (N := N_law) (m := 6) rfl (a := a_law) (fun c => (as_seq (as_for (ai_rng1 (aa_cons (ae_int 10) aa_nil)) (ag_name 2)
      (as_seq (as_set 3 (ae_op ar_ix (ae_lst (aa_cons (ae_callT (i := 1) (aa_cons (ae_int 9) aa_nil)) (aa_cons (ae_callT (i := 1) (aa_cons (ae_int 61) aa_nil)) aa_nil))) (ae_callT (i := 1) (aa_cons (ae_int 2) aa_nil))))
      (as_seq (as_set 4 (ae_callT (i := 1) (aa_cons (ae_var 3) (aa_cons (ae_op ar_add (ae_int 1) (ae_callT (i := 1) (aa_cons (ae_int 9) aa_nil))) aa_nil))))
      (as_seq (as_set 5 (ae_callP0 (aa_cons (ae_var 4) aa_nil)))
      (as_seq (as_if (at_or (at_not (at_B (ae_isi (T := "str") (ae_var 5)))) (at_test (ae_op ar_ne (ae_var 5) (ae_m1 am_join (ae_str (Str.ofString ";")) (ae_lc (vs := [6]) (ai_tup (ae_var 4)) (ag_name 6) (go_name (by decide)) at_yes (ae_callP0 (aa_cons (ae_var 6) aa_nil)))))))
      (as_ret (ae_bl false))
      as_next)
      (as_seq (as_set 7 (ae_callP0 (aa_cons (ae_var 5) aa_nil)))
      (as_if (at_or (at_not (at_B (ae_isi (T := "tuple") (ae_var 7)))) (at_test (ae_op ar_ne (ae_var 7) (ae_var 4))))
      (as_ret (ae_bl false))
      as_next)))))))
      (as_ret (ae_andV (ae_op ar_eq (ae_callP0 (aa_cons (ae_tup aa_nil) aa_nil)) (ae_str (Str.ofString ""))) (ae_op ar_eq (ae_callP0 (aa_cons (ae_str (Str.ofString "")) aa_nil)) (ae_tup aa_nil)))))) vc_law hS q
end
theorem all_mk {l : PySem.W.OpenLaw} {w : World} {K : PySem.W.Frag} {h : Heap} {mg : Str → Option Value} {fa : Addr} (X : K.In h) (G : h.Ns mainGlobals mg) (hfa : mg "law" = some (.ref fa))
    {f0 : Addr} {od0 an0 : Option Addr} {sl0 : Array (Option Value)} {oc0 kV0 dc0 pm0 cd0 ct0 : Value}
    {f1 : Addr} {od1 an1 : Option Addr} {sl1 : Array (Option Value)} {oc1 kV1 dc1 pm1 cd1 ct1 : Value}
    {f2 : Addr} {od2 an2 : Option Addr} {sl2 : Array (Option Value)} {oc2 kV2 dc2 pm2 cd2 ct2 : Value}
    {f3 : Addr} {od3 an3 : Option Addr} {sl3 : Array (Option Value)} {oc3 kV3 dc3 pm3 cd3 ct3 : Value}
    {f4 : Addr} {od4 an4 : Option Addr} {sl4 : Array (Option Value)} {oc4 kV4 dc4 pm4 cd4 ct4 : Value}
    {f5 : Addr} {od5 an5 : Option Addr} {sl5 : Array (Option Value)} {oc5 kV5 dc5 pm5 cd5 ct5 : Value}
    {f6 : Addr} {od6 an6 : Option Addr} {sl6 : Array (Option Value)} {oc6 kV6 dc6 pm6 cd6 ct6 : Value}
    {f7 : Addr} {od7 an7 : Option Addr} {sl7 : Array (Option Value)} {oc7 kV7 dc7 pm7 cd7 ct7 : Value}
    {f8 : Addr} {od8 an8 : Option Addr} {sl8 : Array (Option Value)} {oc8 kV8 dc8 pm8 cd8 ct8 : Value}
    {f9 : Addr} {od9 an9 : Option Addr} {sl9 : Array (Option Value)} {oc9 kV9 dc9 pm9 cd9 ct9 : Value}
    {f10 : Addr} {od10 an10 : Option Addr} {sl10 : Array (Option Value)} {oc10 kV10 dc10 pm10 cd10 ct10 : Value}
    {f11 : Addr} {od11 an11 : Option Addr} {sl11 : Array (Option Value)} {oc11 kV11 dc11 pm11 cd11 ct11 : Value}
    {f12 : Addr} {od12 an12 : Option Addr} {sl12 : Array (Option Value)} {oc12 kV12 dc12 pm12 cd12 ct12 : Value}
    {f13 : Addr} {od13 an13 : Option Addr} {sl13 : Array (Option Value)} {oc13 kV13 dc13 pm13 cd13 ct13 : Value}
    {f14 : Addr} {od14 an14 : Option Addr} {sl14 : Array (Option Value)} {oc14 kV14 dc14 pm14 cd14 ct14 : Value}
    {f15 : Addr} {od15 an15 : Option Addr} {sl15 : Array (Option Value)} {oc15 kV15 dc15 pm15 cd15 ct15 : Value}
    {f16 : Addr} {od16 an16 : Option Addr} {sl16 : Array (Option Value)} {oc16 kV16 dc16 pm16 cd16 ct16 : Value}
    {f17 : Addr} {od17 an17 : Option Addr} {sl17 : Array (Option Value)} {oc17 kV17 dc17 pm17 cd17 ct17 : Value}
    {f18 : Addr} {od18 an18 : Option Addr} {sl18 : Array (Option Value)} {oc18 kV18 dc18 pm18 cd18 ct18 : Value}
    {f19 : Addr} {od19 an19 : Option Addr} {sl19 : Array (Option Value)} {oc19 kV19 dc19 pm19 cd19 ct19 : Value}
    {u_SMALL : Value}
    {u_MOST_SIGNS : Value}
    {u_MOST_LINES : Value}
    {u_MOST_PUT : Value}
    {u_MOST_EDITS : Value}
    {u_FIGURES : Value}
    {u_MOST_FIGURES : Value}
    {a_LONGEST : Addr} {td_LONGEST : Option Addr} {ts_LONGEST : Array (Option Value)} {tn_LONGEST : Nat} {us_LONGEST : List Value}
    (a0 : PySem.W.nsIn K mainGlobals "is_number" = some (some (.ref f0)))
    (l0 : K.lookup f0 = some ⟨oc0, od0, .func (PySem.W.fnOf "is_number" "is_number" (defArgs s_is_number) (defBody s_is_number) (defScope s_is_number) .none kV0 dc0 pm0 an0 cd0 ct0), sl0⟩)
    (c0 : PySem.W.codeIn K cd0 "is_number" = true)
    (k0 : PySem.W.keepIn K (.ref f0) = true)
    (a1 : PySem.W.nsIn K mainGlobals "is_line" = some (some (.ref f1)))
    (l1 : K.lookup f1 = some ⟨oc1, od1, .func (PySem.W.fnOf "is_line" "is_line" (defArgs s_is_line) (defBody s_is_line) (defScope s_is_line) .none kV1 dc1 pm1 an1 cd1 ct1), sl1⟩)
    (c1 : PySem.W.codeIn K cd1 "is_line" = true)
    (k1 : PySem.W.keepIn K (.ref f1) = true)
    (a2 : PySem.W.nsIn K mainGlobals "is_body" = some (some (.ref f2)))
    (l2 : K.lookup f2 = some ⟨oc2, od2, .func (PySem.W.fnOf "is_body" "is_body" (defArgs s_is_body) (defBody s_is_body) (defScope s_is_body) .none kV2 dc2 pm2 an2 cd2 ct2), sl2⟩)
    (c2 : PySem.W.codeIn K cd2 "is_body" = true)
    (k2 : PySem.W.keepIn K (.ref f2) = true)
    (a3 : PySem.W.nsIn K mainGlobals "place_of" = some (some (.ref f3)))
    (l3 : K.lookup f3 = some ⟨oc3, od3, .func (PySem.W.fnOf "place_of" "place_of" (defArgs s_place_of) (defBody s_place_of) (defScope s_place_of) .none kV3 dc3 pm3 an3 cd3 ct3), sl3⟩)
    (c3 : PySem.W.codeIn K cd3 "place_of" = true)
    (k3 : PySem.W.keepIn K (.ref f3) = true)
    (a4 : PySem.W.nsIn K mainGlobals "is_edit" = some (some (.ref f4)))
    (l4 : K.lookup f4 = some ⟨oc4, od4, .func (PySem.W.fnOf "is_edit" "is_edit" (defArgs s_is_edit) (defBody s_is_edit) (defScope s_is_edit) .none kV4 dc4 pm4 an4 cd4 ct4), sl4⟩)
    (c4 : PySem.W.codeIn K cd4 "is_edit" = true)
    (k4 : PySem.W.keepIn K (.ref f4) = true)
    (a5 : PySem.W.nsIn K mainGlobals "is_draft" = some (some (.ref f5)))
    (l5 : K.lookup f5 = some ⟨oc5, od5, .func (PySem.W.fnOf "is_draft" "is_draft" (defArgs s_is_draft) (defBody s_is_draft) (defScope s_is_draft) .none kV5 dc5 pm5 an5 cd5 ct5), sl5⟩)
    (c5 : PySem.W.codeIn K cd5 "is_draft" = true)
    (k5 : PySem.W.keepIn K (.ref f5) = true)
    (a6 : PySem.W.nsIn K mainGlobals "body_text" = some (some (.ref f6)))
    (l6 : K.lookup f6 = some ⟨oc6, od6, .func (PySem.W.fnOf "body_text" "body_text" (defArgs s_body_text) (defBody s_body_text) (defScope s_body_text) .none kV6 dc6 pm6 an6 cd6 ct6), sl6⟩)
    (c6 : PySem.W.codeIn K cd6 "body_text" = true)
    (k6 : PySem.W.keepIn K (.ref f6) = true)
    (a7 : PySem.W.nsIn K mainGlobals "edit_text" = some (some (.ref f7)))
    (l7 : K.lookup f7 = some ⟨oc7, od7, .func (PySem.W.fnOf "edit_text" "edit_text" (defArgs s_edit_text) (defBody s_edit_text) (defScope s_edit_text) .none kV7 dc7 pm7 an7 cd7 ct7), sl7⟩)
    (c7 : PySem.W.codeIn K cd7 "edit_text" = true)
    (k7 : PySem.W.keepIn K (.ref f7) = true)
    (a8 : PySem.W.nsIn K mainGlobals "draft_text" = some (some (.ref f8)))
    (l8 : K.lookup f8 = some ⟨oc8, od8, .func (PySem.W.fnOf "draft_text" "draft_text" (defArgs s_draft_text) (defBody s_draft_text) (defScope s_draft_text) .none kV8 dc8 pm8 an8 cd8 ct8), sl8⟩)
    (c8 : PySem.W.codeIn K cd8 "draft_text" = true)
    (k8 : PySem.W.keepIn K (.ref f8) = true)
    (a9 : PySem.W.nsIn K mainGlobals "need_text" = some (some (.ref f9)))
    (l9 : K.lookup f9 = some ⟨oc9, od9, .func (PySem.W.fnOf "need_text" "need_text" (defArgs s_need_text) (defBody s_need_text) (defScope s_need_text) .none kV9 dc9 pm9 an9 cd9 ct9), sl9⟩)
    (c9 : PySem.W.codeIn K cd9 "need_text" = true)
    (k9 : PySem.W.keepIn K (.ref f9) = true)
    (a10 : PySem.W.nsIn K mainGlobals "read_number" = some (some (.ref f10)))
    (l10 : K.lookup f10 = some ⟨oc10, od10, .func (PySem.W.fnOf "read_number" "read_number" (defArgs s_read_number) (defBody s_read_number) (defScope s_read_number) .none kV10 dc10 pm10 an10 cd10 ct10), sl10⟩)
    (c10 : PySem.W.codeIn K cd10 "read_number" = true)
    (k10 : PySem.W.keepIn K (.ref f10) = true)
    (a11 : PySem.W.nsIn K mainGlobals "read_body" = some (some (.ref f11)))
    (l11 : K.lookup f11 = some ⟨oc11, od11, .func (PySem.W.fnOf "read_body" "read_body" (defArgs s_read_body) (defBody s_read_body) (defScope s_read_body) .none kV11 dc11 pm11 an11 cd11 ct11), sl11⟩)
    (c11 : PySem.W.codeIn K cd11 "read_body" = true)
    (k11 : PySem.W.keepIn K (.ref f11) = true)
    (a12 : PySem.W.nsIn K mainGlobals "read_edit" = some (some (.ref f12)))
    (l12 : K.lookup f12 = some ⟨oc12, od12, .func (PySem.W.fnOf "read_edit" "read_edit" (defArgs s_read_edit) (defBody s_read_edit) (defScope s_read_edit) .none kV12 dc12 pm12 an12 cd12 ct12), sl12⟩)
    (c12 : PySem.W.codeIn K cd12 "read_edit" = true)
    (k12 : PySem.W.keepIn K (.ref f12) = true)
    (a13 : PySem.W.nsIn K mainGlobals "read_draft" = some (some (.ref f13)))
    (l13 : K.lookup f13 = some ⟨oc13, od13, .func (PySem.W.fnOf "read_draft" "read_draft" (defArgs s_read_draft) (defBody s_read_draft) (defScope s_read_draft) .none kV13 dc13 pm13 an13 cd13 ct13), sl13⟩)
    (c13 : PySem.W.codeIn K cd13 "read_draft" = true)
    (k13 : PySem.W.keepIn K (.ref f13) = true)
    (a14 : PySem.W.nsIn K mainGlobals "_law_draw" = some (some (.ref f14)))
    (l14 : K.lookup f14 = some ⟨oc14, od14, .func (PySem.W.fnOf "_law_draw" "_law_draw" (defArgs s_law_draw) (defBody s_law_draw) (defScope s_law_draw) .none kV14 dc14 pm14 an14 cd14 ct14), sl14⟩)
    (c14 : PySem.W.codeIn K cd14 "_law_draw" = true)
    (k14 : PySem.W.keepIn K (.ref f14) = true)
    (a15 : PySem.W.nsIn K mainGlobals "_law_a_line" = some (some (.ref f15)))
    (l15 : K.lookup f15 = some ⟨oc15, od15, .func (PySem.W.fnOf "_law_a_line" "_law_a_line" (defArgs s_law_a_line) (defBody s_law_a_line) (defScope s_law_a_line) .none kV15 dc15 pm15 an15 cd15 ct15), sl15⟩)
    (c15 : PySem.W.codeIn K cd15 "_law_a_line" = true)
    (k15 : PySem.W.keepIn K (.ref f15) = true)
    (a16 : PySem.W.nsIn K mainGlobals "_law_an_edit" = some (some (.ref f16)))
    (l16 : K.lookup f16 = some ⟨oc16, od16, .func (PySem.W.fnOf "_law_an_edit" "_law_an_edit" (defArgs s_law_an_edit) (defBody s_law_an_edit) (defScope s_law_an_edit) .none kV16 dc16 pm16 an16 cd16 ct16), sl16⟩)
    (c16 : PySem.W.codeIn K cd16 "_law_an_edit" = true)
    (k16 : PySem.W.keepIn K (.ref f16) = true)
    (a17 : PySem.W.nsIn K mainGlobals "_law_a_draft" = some (some (.ref f17)))
    (l17 : K.lookup f17 = some ⟨oc17, od17, .func (PySem.W.fnOf "_law_a_draft" "_law_a_draft" (defArgs s_law_a_draft) (defBody s_law_a_draft) (defScope s_law_a_draft) .none kV17 dc17 pm17 an17 cd17 ct17), sl17⟩)
    (c17 : PySem.W.codeIn K cd17 "_law_a_draft" = true)
    (k17 : PySem.W.keepIn K (.ref f17) = true)
    (a18 : PySem.W.nsIn K mainGlobals "_law_edit_text" = some (some (.ref f18)))
    (l18 : K.lookup f18 = some ⟨oc18, od18, .func (PySem.W.fnOf "_law_edit_text" "_law_edit_text" (defArgs s_law_edit_text) (defBody s_law_edit_text) (defScope s_law_edit_text) .none kV18 dc18 pm18 an18 cd18 ct18), sl18⟩)
    (c18 : PySem.W.codeIn K cd18 "_law_edit_text" = true)
    (k18 : PySem.W.keepIn K (.ref f18) = true)
    (a19 : PySem.W.nsIn K mainGlobals "law" = some (some (.ref f19)))
    (l19 : K.lookup f19 = some ⟨oc19, od19, .func (PySem.W.fnOf "law" "law" (defArgs s_law) (defBody s_law) (defScope s_law) .none kV19 dc19 pm19 an19 cd19 ct19), sl19⟩)
    (c19 : PySem.W.codeIn K cd19 "law" = true)
    (k19 : PySem.W.keepIn K (.ref f19) = true)
    (z_all : PySem.W.nsIn K mainGlobals "all" = some none)
    (z_bool : PySem.W.nsIn K mainGlobals "bool" = some none)
    (z_int : PySem.W.nsIn K mainGlobals "int" = some none)
    (z_isinstance : PySem.W.nsIn K mainGlobals "isinstance" = some none)
    (z_len : PySem.W.nsIn K mainGlobals "len" = some none)
    (z_list : PySem.W.nsIn K mainGlobals "list" = some none)
    (z_range : PySem.W.nsIn K mainGlobals "range" = some none)
    (z_str : PySem.W.nsIn K mainGlobals "str" = some none)
    (z_tuple : PySem.W.nsIn K mainGlobals "tuple" = some none)
    (g_SMALL : PySem.W.nsIn K mainGlobals "SMALL" = some (some u_SMALL))
    (r_SMALL : RelV (.str (Str.ofString "abcdefghijklmnopqrstuvwxyz")) u_SMALL)
    (g_MOST_SIGNS : PySem.W.nsIn K mainGlobals "MOST_SIGNS" = some (some u_MOST_SIGNS))
    (r_MOST_SIGNS : RelV (.int 30) u_MOST_SIGNS)
    (g_MOST_LINES : PySem.W.nsIn K mainGlobals "MOST_LINES" = some (some u_MOST_LINES))
    (r_MOST_LINES : RelV (.int 60) u_MOST_LINES)
    (g_MOST_PUT : PySem.W.nsIn K mainGlobals "MOST_PUT" = some (some u_MOST_PUT))
    (r_MOST_PUT : RelV (.int 5) u_MOST_PUT)
    (g_MOST_EDITS : PySem.W.nsIn K mainGlobals "MOST_EDITS" = some (some u_MOST_EDITS))
    (r_MOST_EDITS : RelV (.int 20) u_MOST_EDITS)
    (g_FIGURES : PySem.W.nsIn K mainGlobals "FIGURES" = some (some u_FIGURES))
    (r_FIGURES : RelV (.str (Str.ofString "0123456789")) u_FIGURES)
    (g_MOST_FIGURES : PySem.W.nsIn K mainGlobals "MOST_FIGURES" = some (some u_MOST_FIGURES))
    (r_MOST_FIGURES : RelV (.int 6) u_MOST_FIGURES)
    (g_LONGEST : PySem.W.nsIn K mainGlobals "LONGEST" = some (some (.ref a_LONGEST)))
    (t_LONGEST : K.lookup a_LONGEST = some ⟨.type "tuple", td_LONGEST, .seq us_LONGEST.toArray tn_LONGEST, ts_LONGEST⟩)
    (v_LONGEST : Vals (List.replicate 60 (V.str (Str.ofString "a"))) us_LONGEST) :
    ∃ fd : FuncData, (∀ (s : Shared) (v : Value), BindsTo s fd ⟨[v], []⟩ [("script", v)]) ∧ ∀ base : Heap, K.In base → base.Ns mainGlobals mg → FnOk l.prog w K mg base CX0 20 fa fd ["script"] (spLaw K) := by
  have e := hfa.symm.trans (PySem.W.mg_of X G a19)
  cases e
  have T : Tx K mg := {
    f_is_number := f0,
    fd_is_number := _,
    d_is_number := df_mk (st := s_is_number) (ps := ps_is_number) X G a0 l0 c0 k0 (fun _ _ _ _ _ _ us hl => match us, hl with | [_], _ => rfl),
    f_is_line := f1,
    fd_is_line := _,
    d_is_line := df_mk (st := s_is_line) (ps := ps_is_line) X G a1 l1 c1 k1 (fun _ _ _ _ _ _ us hl => match us, hl with | [_], _ => rfl),
    f_is_body := f2,
    fd_is_body := _,
    d_is_body := df_mk (st := s_is_body) (ps := ps_is_body) X G a2 l2 c2 k2 (fun _ _ _ _ _ _ us hl => match us, hl with | [_], _ => rfl),
    f_place_of := f3,
    fd_place_of := _,
    d_place_of := df_mk (st := s_place_of) (ps := ps_place_of) X G a3 l3 c3 k3 (fun _ _ _ _ _ _ us hl => match us, hl with | [_], _ => rfl),
    f_is_edit := f4,
    fd_is_edit := _,
    d_is_edit := df_mk (st := s_is_edit) (ps := ps_is_edit) X G a4 l4 c4 k4 (fun _ _ _ _ _ _ us hl => match us, hl with | [_, _], _ => rfl),
    f_is_draft := f5,
    fd_is_draft := _,
    d_is_draft := df_mk (st := s_is_draft) (ps := ps_is_draft) X G a5 l5 c5 k5 (fun _ _ _ _ _ _ us hl => match us, hl with | [_, _], _ => rfl),
    f_body_text := f6,
    fd_body_text := _,
    d_body_text := df_mk (st := s_body_text) (ps := ps_body_text) X G a6 l6 c6 k6 (fun _ _ _ _ _ _ us hl => match us, hl with | [_], _ => rfl),
    f_edit_text := f7,
    fd_edit_text := _,
    d_edit_text := df_mk (st := s_edit_text) (ps := ps_edit_text) X G a7 l7 c7 k7 (fun _ _ _ _ _ _ us hl => match us, hl with | [_], _ => rfl),
    f_draft_text := f8,
    fd_draft_text := _,
    d_draft_text := df_mk (st := s_draft_text) (ps := ps_draft_text) X G a8 l8 c8 k8 (fun _ _ _ _ _ _ us hl => match us, hl with | [_], _ => rfl),
    f_need_text := f9,
    fd_need_text := _,
    d_need_text := df_mk (st := s_need_text) (ps := ps_need_text) X G a9 l9 c9 k9 (fun _ _ _ _ _ _ us hl => match us, hl with | [_], _ => rfl),
    f_read_number := f10,
    fd_read_number := _,
    d_read_number := df_mk (st := s_read_number) (ps := ps_read_number) X G a10 l10 c10 k10 (fun _ _ _ _ _ _ us hl => match us, hl with | [_], _ => rfl),
    f_read_body := f11,
    fd_read_body := _,
    d_read_body := df_mk (st := s_read_body) (ps := ps_read_body) X G a11 l11 c11 k11 (fun _ _ _ _ _ _ us hl => match us, hl with | [_], _ => rfl),
    f_read_edit := f12,
    fd_read_edit := _,
    d_read_edit := df_mk (st := s_read_edit) (ps := ps_read_edit) X G a12 l12 c12 k12 (fun _ _ _ _ _ _ us hl => match us, hl with | [_], _ => rfl),
    f_read_draft := f13,
    fd_read_draft := _,
    d_read_draft := df_mk (st := s_read_draft) (ps := ps_read_draft) X G a13 l13 c13 k13 (fun _ _ _ _ _ _ us hl => match us, hl with | [_], _ => rfl),
    f_law_draw := f14,
    fd_law_draw := _,
    d_law_draw := df_mk (st := s_law_draw) (ps := ps_law_draw) X G a14 l14 c14 k14 (fun _ _ _ _ _ _ us hl => match us, hl with | [_, _], _ => rfl),
    f_law_a_line := f15,
    fd_law_a_line := _,
    d_law_a_line := df_mk (st := s_law_a_line) (ps := ps_law_a_line) X G a15 l15 c15 k15 (fun _ _ _ _ _ _ us hl => match us, hl with | [_], _ => rfl),
    f_law_an_edit := f16,
    fd_law_an_edit := _,
    d_law_an_edit := df_mk (st := s_law_an_edit) (ps := ps_law_an_edit) X G a16 l16 c16 k16 (fun _ _ _ _ _ _ us hl => match us, hl with | [_, _, _, _], _ => rfl),
    f_law_a_draft := f17,
    fd_law_a_draft := _,
    d_law_a_draft := df_mk (st := s_law_a_draft) (ps := ps_law_a_draft) X G a17 l17 c17 k17 (fun _ _ _ _ _ _ us hl => match us, hl with | [_, _, _], _ => rfl),
    f_law_edit_text := f18,
    fd_law_edit_text := _,
    d_law_edit_text := df_mk (st := s_law_edit_text) (ps := ps_law_edit_text) X G a18 l18 c18 k18 (fun _ _ _ _ _ _ us hl => match us, hl with | [_], _ => rfl),
    b_all := PySem.W.mg_none_of X G z_all,
    b_bool := PySem.W.mg_none_of X G z_bool,
    b_int := PySem.W.mg_none_of X G z_int,
    b_isinstance := PySem.W.mg_none_of X G z_isinstance,
    b_len := PySem.W.mg_none_of X G z_len,
    b_list := PySem.W.mg_none_of X G z_list,
    b_range := PySem.W.mg_none_of X G z_range,
    b_str := PySem.W.mg_none_of X G z_str,
    b_tuple := PySem.W.mg_none_of X G z_tuple,
    g_SMALL := ⟨u_SMALL, PySem.W.mg_of X G g_SMALL, r_SMALL⟩,
    g_MOST_SIGNS := ⟨u_MOST_SIGNS, PySem.W.mg_of X G g_MOST_SIGNS, r_MOST_SIGNS⟩,
    g_MOST_LINES := ⟨u_MOST_LINES, PySem.W.mg_of X G g_MOST_LINES, r_MOST_LINES⟩,
    g_MOST_PUT := ⟨u_MOST_PUT, PySem.W.mg_of X G g_MOST_PUT, r_MOST_PUT⟩,
    g_MOST_EDITS := ⟨u_MOST_EDITS, PySem.W.mg_of X G g_MOST_EDITS, r_MOST_EDITS⟩,
    g_FIGURES := ⟨u_FIGURES, PySem.W.mg_of X G g_FIGURES, r_FIGURES⟩,
    g_MOST_FIGURES := ⟨u_MOST_FIGURES, PySem.W.mg_of X G g_MOST_FIGURES, r_MOST_FIGURES⟩,
    a_LONGEST := a_LONGEST, g_LONGEST := PySem.W.mg_of X G g_LONGEST, r_LONGEST := rv_rep t_LONGEST v_LONGEST (by decide) }
  exact ⟨_, fun s v => .of_eq rfl, fun base _ _ => ok_law T (df_mk (st := s_law) (ps := ps_law) X G a19 l19 c19 k19 (fun _ _ _ _ _ _ us hl => match us, hl with | [_], _ => rfl))⟩
end Lw
open PySem PySem.W PyProof.Rows
set_option maxHeartbeats 0 in
theorem PySem.Challenge.cw_faircopy_k31_drafts_as_texts_holds : PySem.Challenge.rw_faircopy_k31_drafts_as_texts.Holds := by
  w_on; o_law; k_head; (case hw => w_witness2)
  k_fill
  refine L2.walk_of (l := PySem.Challenge.rw_faircopy_k31_drafts_as_texts) (n := 63) (k := 20) (x := "script") (CX := fun _ => L2.CX0) (sp := fun w => Fc.spLaw _) rfl (by decide) rfl ⟨rfl, by decide, by decide⟩ (fun w h Y => PySem.W.kIn_of Y) ?F (fun _ _ a ns hl _ hS => ⟨a, ns, rfl, hS, hl, fun _ => rfl⟩) (fun _ _ _ _ _ h => h)
  case F =>
    intro w mg fa h KX G hmg
    refine' Lw.all_mk KX G hmg ?a0 ?l0 ?c0 ?k0 ?a1 ?l1 ?c1 ?k1 ?a2 ?l2 ?c2 ?k2 ?a3 ?l3 ?c3 ?k3 ?a4 ?l4 ?c4 ?k4 ?a5 ?l5 ?c5 ?k5 ?a6 ?l6 ?c6 ?k6 ?a7 ?l7 ?c7 ?k7 ?a8 ?l8 ?c8 ?k8 ?a9 ?l9 ?c9 ?k9 ?a10 ?l10 ?c10 ?k10 ?a11 ?l11 ?c11 ?k11 ?a12 ?l12 ?c12 ?k12 ?a13 ?l13 ?c13 ?k13 ?a14 ?l14 ?c14 ?k14 ?a15 ?l15 ?c15 ?k15 ?a16 ?l16 ?c16 ?k16 ?a17 ?l17 ?c17 ?k17 ?a18 ?l18 ?c18 ?k18 ?a19 ?l19 ?c19 ?k19 ?z_all ?z_bool ?z_int ?z_isinstance ?z_len ?z_list ?z_range ?z_str ?z_tuple ?g_SMALL ?r_SMALL ?g_MOST_SIGNS ?r_MOST_SIGNS ?g_MOST_LINES ?r_MOST_LINES ?g_MOST_PUT ?r_MOST_PUT ?g_MOST_EDITS ?r_MOST_EDITS ?g_FIGURES ?r_FIGURES ?g_MOST_FIGURES ?r_MOST_FIGURES ?g_LONGEST ?t_LONGEST ?v_LONGEST
    (case a0 => k_is); (case l0 => k_is); (case c0 => k_is); (case k0 => k_is); (case a1 => k_is); (case l1 => k_is); (case c1 => k_is); (case k1 => k_is); (case a2 => k_is); (case l2 => k_is); (case c2 => k_is); (case k2 => k_is); (case a3 => k_is); (case l3 => k_is); (case c3 => k_is); (case k3 => k_is); (case a4 => k_is); (case l4 => k_is); (case c4 => k_is); (case k4 => k_is); (case a5 => k_is); (case l5 => k_is); (case c5 => k_is); (case k5 => k_is); (case a6 => k_is); (case l6 => k_is); (case c6 => k_is); (case k6 => k_is); (case a7 => k_is); (case l7 => k_is); (case c7 => k_is); (case k7 => k_is); (case a8 => k_is); (case l8 => k_is); (case c8 => k_is); (case k8 => k_is); (case a9 => k_is); (case l9 => k_is); (case c9 => k_is); (case k9 => k_is); (case a10 => k_is); (case l10 => k_is); (case c10 => k_is); (case k10 => k_is); (case a11 => k_is); (case l11 => k_is); (case c11 => k_is); (case k11 => k_is); (case a12 => k_is); (case l12 => k_is); (case c12 => k_is); (case k12 => k_is); (case a13 => k_is); (case l13 => k_is); (case c13 => k_is); (case k13 => k_is); (case a14 => k_is); (case l14 => k_is); (case c14 => k_is); (case k14 => k_is); (case a15 => k_is); (case l15 => k_is); (case c15 => k_is); (case k15 => k_is); (case a16 => k_is); (case l16 => k_is); (case c16 => k_is); (case k16 => k_is); (case a17 => k_is); (case l17 => k_is); (case c17 => k_is); (case k17 => k_is); (case a18 => k_is); (case l18 => k_is); (case c18 => k_is); (case k18 => k_is); (case a19 => k_is); (case l19 => k_is); (case c19 => k_is); (case k19 => k_is); (case z_all => k_is); (case z_bool => k_is); (case z_int => k_is); (case z_isinstance => k_is); (case z_len => k_is); (case z_list => k_is); (case z_range => k_is); (case z_str => k_is); (case z_tuple => k_is); (case g_SMALL => k_is); (case r_SMALL => first | exact ⟨_, rfl⟩ | rfl); (case g_MOST_SIGNS => k_is); (case r_MOST_SIGNS => first | exact ⟨_, rfl⟩ | rfl); (case g_MOST_LINES => k_is); (case r_MOST_LINES => first | exact ⟨_, rfl⟩ | rfl); (case g_MOST_PUT => k_is); (case r_MOST_PUT => first | exact ⟨_, rfl⟩ | rfl); (case g_MOST_EDITS => k_is); (case r_MOST_EDITS => first | exact ⟨_, rfl⟩ | rfl); (case g_FIGURES => k_is); (case r_FIGURES => first | exact ⟨_, rfl⟩ | rfl); (case g_MOST_FIGURES => k_is); (case r_MOST_FIGURES => first | exact ⟨_, rfl⟩ | rfl); (case g_LONGEST => k_is); (case t_LONGEST => k_is); (case v_LONGEST => repeat (first | exact .nil | refine .cons ⟨_, rfl⟩ ?_))
