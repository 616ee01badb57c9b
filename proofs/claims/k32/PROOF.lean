import PyProof.Rows.All
import Wide.All
import OpenK.AllK
import Wide.FinOn
import HandS.ForMost
import HandS.Wide
import HandS.IsInst
import HandS.EndBits
import HandS.TupAny
import HandS.TupMul
import HandS.Style
import HandS.Flow
import HandS.Defaults
import HandS.StrMore
import HandS.Conv
import HandS.Evl
import HandS.More
import KE.GoesMore
import HandS.SetFor
import HandS.Strs
import HandS.Text
import HandS.ForExc
import HandS.CallSlots
import HandS.ExcIs
import HandS.ExcField
import HandS.ExcValue
import HandS.SortRule
import PyProof.AutoSeq1
import PyProof.DictMoreH
import HandS.SetKeys
import HandS.SortOrd
import HandS.DictTup
import HandS.NoneIn
import PyProof.Rows.SortShellAny
import KE.GoesRaise
import HandS.Deep
import PySem.Challenge.RW_faircopy_k32_whole_draft_texts_spoilt
set_option Elab.async false
set_option linter.all false
set_option maxRecDepth 100000
namespace Fc
open PySem L2
abbrev D := PyData
/-! ### heaps: a known part that does not change, and the whole -/
def Ex (H H' : Hp) : Prop := ∀ a o, H a = some o → H' a = some o
theorem Ex.refl (H : Hp) : Ex H H := fun _ _ h => h
theorem Ex.trans {H H1 H2 : Hp} (a : Ex H H1) (b : Ex H1 H2) : Ex H H2 := fun x o h => b x o (a x o h)
theorem Ex.new {H : Hp} {p : Addr} {o : HO} (h : H p = none) : Ex H (upd H p o) := fun a u e => by
  rw [upd_ne (ne_of_none e h)]; exact e
theorem Ex.none {H H' : Hp} {p : Addr} (e : Ex H H') (h : H' p = none) : H p = none := by
  cases q : H p with
  | none => rfl
  | some o => rw [e p o q] at h; cases h
theorem Ex.sqt {K : PySem.W.Frag} {H H' : Hp} {a : Addr} {xs : List V} (e : Ex H H') (h : SqT K H a xs) : SqT K H' a xs := by
  rcases h with (h | ⟨o, h⟩) | h
  · exact .inl (.inl (e _ _ h))
  · exact .inl (.inr ⟨o, e _ _ h⟩)
  · exact .inr h
/-! ### a value that reads as a datum -/
def kD : Key → D
  | .inl i => .int i
  | .inr x => .str x
/-- a tuple of which it is known that it has no dict of its own -/
abbrev pnT (ds : List D) : D := .dict [(.none, .tuple ds)]
def dictD (kds : List (Key × D)) : D := .dict (kds.map fun p => (kD p.1, p.2))
mutual
inductive Rv (K : PySem.W.Frag) (G : Hp) : V → D → Prop
  | non : Rv K G .non .none
  | bl (b : Bool) : Rv K G (.bl b) (.bool b)
  | int (i : Int) : Rv K G (.int i) (.int i)
  | str (x : Str) : Rv K G (.str x) (.str x)
  | lst {a : Addr} {xs : List V} {ds : List D} : G a = some (.lst xs) → RvA K G xs ds → Rv K G (.ref a) (.list ds)
  | tup {a : Addr} {xs : List V} {ds : List D} : SqT K G a xs → RvA K G xs ds → Rv K G (.ref a) (.tuple ds)
  | dic {a : Addr} {kvs : List (Key × V)} {kds : List (Key × D)} : G a = some (.dK kvs) → kvs.map (·.1) = kds.map (·.1) → RvA K G (kvs.map (·.2)) (kds.map (·.2)) → Rv K G (.ref a) (.dict (kds.map fun p => (kD p.1, p.2)))
  | pl {a : Addr} {o : Obj} {xs : List V} {ds : List D} : G a = some (.frz o (.tup xs)) → o.dict = none → RvA K G xs ds → Rv K G (.ref a) (pnT ds)
inductive RvA (K : PySem.W.Frag) (G : Hp) : List V → List D → Prop
  | nil : RvA K G [] []
  | cons {v : V} {vs : List V} {d : D} {ds : List D} : Rv K G v d → RvA K G vs ds → RvA K G (v :: vs) (d :: ds)
end
mutual
theorem Rv.mono {K : PySem.W.Frag} {G G' : Hp} (e : Ex G G') : ∀ {v : V} {d : D}, Rv K G v d → Rv K G' v d
  | _, _, .non => .non
  | _, _, .bl b => .bl b
  | _, _, .int i => .int i
  | _, _, .str x => .str x
  | _, _, .lst h r => .lst (e _ _ h) (RvA.mono e r)
  | _, _, .tup h r => .tup (e.sqt h) (RvA.mono e r)
  | _, _, .dic h k r => .dic (e _ _ h) k (RvA.mono e r)
  | _, _, .pl h k r => .pl (e _ _ h) k (RvA.mono e r)
theorem RvA.mono {K : PySem.W.Frag} {G G' : Hp} (e : Ex G G') : ∀ {vs : List V} {ds : List D}, RvA K G vs ds → RvA K G' vs ds
  | _, _, .nil => .nil
  | _, _, .cons h r => .cons (Rv.mono e h) (RvA.mono e r)
end
mutual
theorem Rv.dp {K : PySem.W.Frag} {G : Hp} : ∀ {v : V} {d : D}, Rv K G v d → d.canLay0 = true → Dp K G v d
  | _, _, .non, _ => .non
  | _, _, .bl b, _ => .bl b
  | _, _, .int i, _ => .int i
  | _, _, .str x, _ => .str x
  | _, _, .lst h r, c => .lst (.inl (.inl h)) (RvA.dp r (by simpa [PyData.canLay0] using c))
  | _, _, .tup h r, c => .tup h (RvA.dp r (by simpa [PyData.canLay0] using c))
  | _, _, .dic _ _ _, c => by simp [PyData.canLay0] at c
  | _, _, .pl _ _ _, c => by simp [PyData.canLay0] at c
theorem RvA.dp {K : PySem.W.Frag} {G : Hp} : ∀ {vs : List V} {ds : List D}, RvA K G vs ds → PyData.canLayAll0 ds = true → DpAll K G vs ds
  | _, _, .nil, _ => .nil
  | _, _, .cons h r, c => by
    simp only [PyData.canLayAll0, Bool.and_eq_true] at c
    exact .cons (Rv.dp h c.1) (RvA.dp r c.2)
end
section
variable {K : PySem.W.Frag} {G : Hp}
theorem RvA.length : ∀ {vs : List V} {ds : List D}, RvA K G vs ds → vs.length = ds.length
  | _, _, .nil => rfl
  | _, _, .cons _ r => congrArg (· + 1) (RvA.length r)
theorem RvA.get : ∀ {vs : List V} {ds : List D} {i : Nat} {d : D}, RvA K G vs ds → ds[i]? = some d → ∃ v, vs[i]? = some v ∧ Rv K G v d
  | _, _, _, _, .nil, e => by simp at e
  | _, _, 0, _, .cons h r, e => by
    simp only [List.getElem?_cons_zero, Option.some.injEq] at e; subst e; exact ⟨_, rfl, h⟩
  | _, _, i + 1, d, .cons h r, e => by
    obtain ⟨v, h1, h2⟩ := RvA.get (i := i) (d := d) r (by simpa using e)
    exact ⟨v, by simpa using h1, h2⟩
theorem RvA.getV : ∀ {vs : List V} {ds : List D} {i : Nat} {v : V}, RvA K G vs ds → vs[i]? = some v → ∃ d, ds[i]? = some d ∧ Rv K G v d
  | _, _, _, _, .nil, e => by simp at e
  | _, _, 0, _, .cons h r, e => by
    simp only [List.getElem?_cons_zero, Option.some.injEq] at e; subst e; exact ⟨_, rfl, h⟩
  | _, _, i + 1, v, .cons h r, e => by
    obtain ⟨d, h1, h2⟩ := RvA.getV (i := i) (v := v) r (by simpa using e)
    exact ⟨d, by simpa using h1, h2⟩
theorem RvA.append : ∀ {vs ws : List V} {ds es : List D}, RvA K G vs ds → RvA K G ws es → RvA K G (vs ++ ws) (ds ++ es)
  | _, _, _, _, .nil, s => s
  | _, _, _, _, .cons h r, s => .cons h (RvA.append r s)
theorem RvA.take : ∀ {vs : List V} {ds : List D} (n : Nat), RvA K G vs ds → RvA K G (vs.take n) (ds.take n)
  | _, _, 0, _ => by simp only [List.take_zero]; exact .nil
  | _, _, n + 1, .nil => by simp only [List.take_nil]; exact .nil
  | _, _, n + 1, .cons h r => .cons h (RvA.take n r)
theorem RvA.drop : ∀ {vs : List V} {ds : List D} (n : Nat), RvA K G vs ds → RvA K G (vs.drop n) (ds.drop n)
  | _, _, 0, h => h
  | _, _, n + 1, .nil => by simp only [List.drop_nil]; exact .nil
  | _, _, n + 1, .cons h r => RvA.drop n r
theorem RvA.set : ∀ {vs : List V} {ds : List D} {v : V} {d : D} (n : Nat), RvA K G vs ds → Rv K G v d → RvA K G (vs.set n v) (ds.set n d)
  | _, _, _, _, _, .nil, _ => .nil
  | _, _, _, _, 0, .cons h r, q => .cons q r
  | _, _, _, _, n + 1, .cons h r, q => .cons h (RvA.set n r q)
theorem RvA.one {v : V} {d : D} (h : Rv K G v d) : RvA K G [v] [d] := .cons h .nil
theorem RvA.reverse : ∀ {vs : List V} {ds : List D}, RvA K G vs ds → RvA K G vs.reverse ds.reverse
  | _, _, .nil => .nil
  | _, _, .cons h r => by
    rw [List.reverse_cons, List.reverse_cons]
    exact (RvA.reverse r).append (.one h)
theorem RvA.strs : ∀ {vs : List V} {xs : List Str}, RvA K G vs (xs.map PyData.str) → vs = xs.map V.str
  | _, [], .nil => rfl
  | _, x :: r, .cons h t => by
    cases h
    rw [RvA.strs t, List.map_cons]
theorem RvA.ints : ∀ {vs : List V} {xs : List Int}, RvA K G vs (xs.map PyData.int) → vs = xs.map V.int
  | _, [], .nil => rfl
  | _, x :: r, .cons h t => by
    cases h
    rw [RvA.ints t, List.map_cons]
theorem RvA.bools : ∀ {vs : List V} {xs : List Bool}, RvA K G vs (xs.map PyData.bool) → vs = xs.map V.bl
  | _, [], .nil => rfl
  | _, x :: r, .cons h t => by
    cases h
    rw [RvA.bools t, List.map_cons]
theorem RvA.ofInts : ∀ (xs : List Int), RvA K G (xs.map V.int) (xs.map PyData.int)
  | [] => .nil
  | x :: r => .cons (.int x) (RvA.ofInts r)
theorem RvA.ofStrs : ∀ (xs : List Str), RvA K G (xs.map V.str) (xs.map PyData.str)
  | [] => .nil
  | x :: r => .cons (.str x) (RvA.ofStrs r)
theorem RvA.flat : ∀ {vs : List V} {ds : List D} (n : Nat), RvA K G vs ds → RvA K G (List.replicate n vs).flatten (List.replicate n ds).flatten
  | _, _, 0, _ => .nil
  | _, _, n + 1, h => by
    rw [List.replicate_succ, List.replicate_succ, List.flatten_cons, List.flatten_cons]
    exact h.append (RvA.flat n h)
end
/-! ### what a def may change -/
/-- the tape: a list of the script's ints, a place, a rest -/
def TapeAt (t l : Addr) (ns : List Int) (H : Hp) : Prop := t ≠ l ∧ H l = some (.lst (ns.map V.int)) ∧ ∃ i j : Int, 0 ≤ i ∧ 0 ≤ j ∧ H t = some (.lst [.ref l, .int i, .int j])
structure Ctx (K : PySem.W.Frag) where
  M : Addr → Prop
  R : Hp → Prop
  tp : Option (Addr × Addr × List Int)
  G0 : Hp
  H0 : Hp
  dom : ∀ H b, R H → M b → H b ≠ none
  loc : ∀ H H', R H → (∀ b, M b → H' b = H b) → R H'
  ex0 : Ex G0 H0
  gm0 : ∀ b, M b → G0 b = none
  r0 : R H0
  tpIn : ∀ t l ns, tp = some (t, l, ns) → M t ∧ M l ∧ (∀ H, R H → TapeAt t l ns H) ∧ ∀ H H', R H → TapeAt t l ns H' → (∀ b, M b → b ≠ t → H' b = H b) → R H'
structure Ok {K : PySem.W.Frag} (c : Ctx K) (G H : Hp) : Prop where
  ex : Ex G H
  gm : ∀ b, c.M b → G b = none
  r : c.R H
structure Step {K : PySem.W.Frag} (c : Ctx K) (G H G' H' : Hp) : Prop where
  gg : Ex G G'
  gh : Ex G' H'
  hh : ∀ b o, ¬ c.M b → H b = some o → H' b = some o
  fr : ∀ b, G b = none → H b ≠ none → G' b = none
  r : c.R H'
section
variable {K : PySem.W.Frag} {c : Ctx K} {G H G' H' G2 H2 : Hp}
theorem Ok.zero (c : Ctx K) : Ok c c.G0 c.H0 := ⟨c.ex0, c.gm0, c.r0⟩
theorem Step.ok (k : Ok c G H) (s : Step c G H G' H') : Ok c G' H' := ⟨s.gh, fun b m => s.fr b (k.gm b m) (c.dom H b k.r m), s.r⟩
theorem Step.refl (k : Ok c G H) : Step c G H G H := ⟨Ex.refl _, k.ex, fun _ _ _ h => h, fun _ h _ => h, k.r⟩
theorem Step.trans (a : Step c G H G' H') (b : Step c G' H' G2 H2) : Step c G H G2 H2 := by
  refine ⟨a.gg.trans b.gg, b.gh, fun x o m h => b.hh x o m (a.hh x o m h), fun x g h => b.fr x (a.fr x g h) ?_, b.r⟩
  by_cases m : c.M x
  · exact c.dom _ _ a.r m
  · cases q : H x with
    | none => exact absurd q h
    | some o => rw [a.hh x o m q]; exact fun z => nomatch z
theorem Step.new (k : Ok c G H) {p : Addr} {o : HO} (hp : H p = none) : Step c G H (upd G p o) (upd H p o) := by
  have hg : G p = none := k.ex.none hp
  refine ⟨Ex.new hg, fun b u e => ?_, fun b u _ e => ?_, fun b g h => ?_, ?_⟩
  · by_cases q : b = p
    · subst q; rw [upd_same] at e ⊢; exact e
    · rw [upd_ne q] at e ⊢; exact k.ex b u e
  · rw [upd_ne (ne_of_none e hp)]; exact e
  · rw [upd_ne (fun q => h (by rw [q]; exact hp))]; exact g
  · refine c.loc H _ k.r fun b m => upd_ne fun q => c.dom H b k.r m (by rw [q]; exact hp)
end
/-- what a def does that changes nothing -/
structure PStep (G H G' H' : Hp) : Prop where
  gg : Ex G G'
  gh : Ex G' H'
  hh : Ex H H'
  fr : ∀ b, G b = none → H b ≠ none → G' b = none
theorem PStep.to {K : PySem.W.Frag} {c : Ctx K} {G H G' H' : Hp} (k : Ok c G H) (s : PStep G H G' H') : Step c G H G' H' :=
  ⟨s.gg, s.gh, fun b o _ h => s.hh b o h, s.fr, c.loc H H' k.r fun b m => by
    cases q : H b with
    | none => exact absurd q (c.dom H b k.r m)
    | some o => exact s.hh b o q⟩
/-- what a def does that draws from the tape -/
structure TStep (t l : Addr) (ns : List Int) (G H G' H' : Hp) : Prop where
  gg : Ex G G'
  gh : Ex G' H'
  hh : ∀ b o, b ≠ t → H b = some o → H' b = some o
  fr : ∀ b, G b = none → H b ≠ none → G' b = none
  tape : TapeAt t l ns H'
theorem TStep.to {K : PySem.W.Frag} {c : Ctx K} {t l : Addr} {ns : List Int} {G H G' H' : Hp} (ht : c.tp = some (t, l, ns)) (k : Ok c G H) (s : TStep t l ns G H G' H') : Step c G H G' H' := by
  obtain ⟨m1, m2, h1, h2⟩ := c.tpIn t l ns ht
  refine ⟨s.gg, s.gh, fun b o m h => s.hh b o (fun q => m (by rw [q]; exact m1)) h, s.fr, h2 H H' k.r s.tape fun b m n => ?_⟩
  cases q : H b with
  | none => exact absurd q (c.dom H b k.r m)
  | some o => exact s.hh b o n q
/-! ### the slots of a def, as data -/
inductive Cell where
  | un
  | d (x : D)
  | own (xs : List D)
  | dic (kvs : List (Key × D))
  | tape
  | raw (v : V)
abbrev En := List Cell
def Cell.isOwn : Cell → Bool
  | .own _ => true
  | .dic _ => true
  | _ => false
def RvK (K : PySem.W.Frag) (G : Hp) (kvs : List (Key × V)) (kds : List (Key × D)) : Prop := kvs.map (·.1) = kds.map (·.1) ∧ RvA K G (kvs.map (·.2)) (kds.map (·.2))
theorem RvK.mono {K : PySem.W.Frag} {G G' : Hp} {kvs : List (Key × V)} {kds : List (Key × D)} (e : Ex G G') (h : RvK K G kvs kds) : RvK K G' kvs kds := ⟨h.1, h.2.mono e⟩
def CellOk {K : PySem.W.Frag} (c : Ctx K) (G H : Hp) (o : Option V) : Cell → Prop
  | .un => True
  | .d x => ∃ v, o = some v ∧ Rv K G v x
  | .own xs => ∃ p vs, o = some (.ref p) ∧ H p = some (.lst vs) ∧ RvA K G vs xs ∧ G p = none ∧ c.H0 p = none
  | .dic kds => ∃ p kvs, o = some (.ref p) ∧ H p = some (.dK kvs) ∧ RvK K G kvs kds ∧ G p = none ∧ c.H0 p = none
  | .tape => ∃ t l ns, c.tp = some (t, l, ns) ∧ o = some (.ref t)
  | .raw v => o = some v
structure Rel {K : PySem.W.Frag} (c : Ctx K) (ε : En) (σ : St) (G H : Hp) : Prop where
  his : Step c c.G0 c.H0 G H
  len : σ.length = ε.length
  cell : ∀ (i : Nat) (x : Cell), ε[i]? = some x → ∃ o, σ[i]? = some o ∧ CellOk c G H o x
  inj : ∀ (i j : Nat) (x y : Cell) (p : Addr), ε[i]? = some x → ε[j]? = some y → x.isOwn = true → y.isOwn = true → σ[i]? = some (some (.ref p)) → σ[j]? = some (some (.ref p)) → i = j
section
variable {K : PySem.W.Frag} {c : Ctx K} {ε : En} {σ : St} {G H G' H' : Hp}
theorem Rel.ok (r : Rel c ε σ G H) : Ok c G H := r.his.ok (Ok.zero c)
theorem nM (c : Ctx K) {p : Addr} (h : c.H0 p = none) : ¬ c.M p := fun m => c.dom _ _ c.r0 m h
theorem cell_step {o : Option V} {x : Cell} (s : Step c G H G' H') (h : CellOk c G H o x) : CellOk c G' H' o x := by
  cases x with
  | un => trivial
  | d x => obtain ⟨v, e, r⟩ := h; exact ⟨v, e, r.mono s.gg⟩
  | own xs => obtain ⟨p, vs, e, h1, h2, h3, h4⟩ := h; exact ⟨p, vs, e, s.hh p _ (nM c h4) h1, h2.mono s.gg, s.fr p h3 (by rw [h1]; exact fun z => nomatch z), h4⟩
  | dic kds => obtain ⟨p, vs, e, h1, h2, h3, h4⟩ := h; exact ⟨p, vs, e, s.hh p _ (nM c h4) h1, h2.mono s.gg, s.fr p h3 (by rw [h1]; exact fun z => nomatch z), h4⟩
  | tape => exact h
  | raw v => exact h
theorem Rel.step (r : Rel c ε σ G H) (s : Step c G H G' H') : Rel c ε σ G' H' :=
  ⟨r.his.trans s, r.len, fun i x e => by
    obtain ⟨o, h1, h2⟩ := r.cell i x e
    exact ⟨o, h1, cell_step s h2⟩, r.inj⟩
theorem Rel.put (r : Rel c ε σ G H) {i : Nat} {v : V} {x : Cell} (hx : CellOk c G H (some v) x) (hn : x.isOwn = false) : Rel c (ε.set i x) (σ.set i (some v)) G H := by
  refine ⟨r.his, by rw [List.length_set, List.length_set]; exact r.len, fun j y e => ?_, fun j k y z p ey ez oy oz sj sk => ?_⟩
  · rw [List.getElem?_set] at e ⊢
    by_cases q : i = j
    · subst q
      rw [if_pos rfl] at e ⊢
      by_cases hl : i < ε.length
      · rw [if_pos hl] at e
        rw [if_pos (by rw [r.len]; exact hl)]
        cases e
        exact ⟨_, rfl, hx⟩
      · rw [if_neg hl] at e; cases e
    · rw [if_neg q] at e ⊢
      exact r.cell j y e
  · have nj : i ≠ j := fun q => by
      subst q
      rw [List.getElem?_set, if_pos rfl] at ey
      by_cases hl : i < ε.length
      · rw [if_pos hl] at ey; cases ey; rw [hn] at oy; cases oy
      · rw [if_neg hl] at ey; cases ey
    have nk : i ≠ k := fun q => by
      subst q
      rw [List.getElem?_set, if_pos rfl] at ez
      by_cases hl : i < ε.length
      · rw [if_pos hl] at ez; cases ez; rw [hn] at oz; cases oz
      · rw [if_neg hl] at ez; cases ez
    rw [List.getElem?_set, if_neg nj] at ey sj
    rw [List.getElem?_set, if_neg nk] at ez sk
    exact r.inj j k y z p ey ez oy oz sj sk
/-- forget a slot, whatever it holds -/
theorem Rel.drop (r : Rel c ε σ G H) {i : Nat} {o : Option V} : Rel c (ε.set i .un) (σ.set i o) G H := by
  refine ⟨r.his, by rw [List.length_set, List.length_set]; exact r.len, fun j y e => ?_, fun j k y z p ey ez oy oz sj sk => ?_⟩
  · rw [List.getElem?_set] at e ⊢
    by_cases q : i = j
    · subst q
      rw [if_pos rfl] at e ⊢
      by_cases hl : i < ε.length
      · rw [if_pos hl] at e
        rw [if_pos (by rw [r.len]; exact hl)]
        cases e
        exact ⟨_, rfl, trivial⟩
      · rw [if_neg hl] at e; cases e
    · rw [if_neg q] at e ⊢
      exact r.cell j y e
  · have nj : i ≠ j := fun q => by
      subst q
      rw [List.getElem?_set, if_pos rfl] at ey
      by_cases hl : i < ε.length
      · rw [if_pos hl] at ey; cases ey; cases oy
      · rw [if_neg hl] at ey; cases ey
    have nk : i ≠ k := fun q => by
      subst q
      rw [List.getElem?_set, if_pos rfl] at ez
      by_cases hl : i < ε.length
      · rw [if_pos hl] at ez; cases ez; cases oz
      · rw [if_neg hl] at ez; cases ez
    rw [List.getElem?_set, if_neg nj] at ey sj
    rw [List.getElem?_set, if_neg nk] at ez sk
    exact r.inj j k y z p ey ez oy oz sj sk
/-- a new object at p, not in the known part -/
theorem Rel.fresh (r : Rel c ε σ G H) {p : Addr} {o : HO} (hp : H p = none) : Rel c ε σ G (upd H p o) ∧ G p = none ∧ c.H0 p = none := by
  have k := r.ok
  have hg : G p = none := k.ex.none hp
  have h0 : c.H0 p = none := by
    cases q : c.H0 p with
    | none => rfl
    | some u =>
      by_cases m : c.M p
      · exact absurd hp (c.dom _ _ k.r m)
      · rw [r.his.hh p u m q] at hp; cases hp
  refine ⟨⟨⟨r.his.gg, fun b u e => ?_, fun b u m e => ?_, r.his.fr, ?_⟩, r.len, fun i x e => ?_, r.inj⟩, hg, h0⟩
  · rw [upd_ne (ne_of_none e hg)]; exact k.ex b u e
  · rw [upd_ne (ne_of_none e h0)]; exact r.his.hh b u m e
  · exact c.loc H _ k.r fun b m => upd_ne fun q => c.dom H b k.r m (by rw [q]; exact hp)
  · obtain ⟨w, h1, h2⟩ := r.cell i x e
    refine ⟨w, h1, ?_⟩
    cases x with
    | un => trivial
    | d x => exact h2
    | own xs => obtain ⟨q, vs, e, g1, g2⟩ := h2; exact ⟨q, vs, e, by rw [upd_ne (ne_of_none g1 hp)]; exact g1, g2⟩
    | dic kds => obtain ⟨q, vs, e, g1, g2⟩ := h2; exact ⟨q, vs, e, by rw [upd_ne (ne_of_none g1 hp)]; exact g1, g2⟩
    | tape => exact h2
    | raw v => exact h2
end
end Fc

namespace Fc
open PySem L2
section
variable {K : PySem.W.Frag} {c : Ctx K} {ε : En} {σ : St} {G H G' H' : Hp}
theorem set_get {α : Type} {l : List α} {i j : Nat} {x y : α} (h : (l.set i x)[j]? = some y) : (j = i ∧ i < l.length ∧ y = x) ∨ (j ≠ i ∧ l[j]? = some y) := by
  rw [List.getElem?_set] at h
  by_cases q : i = j
  · subst q
    rw [if_pos rfl] at h
    by_cases hl : i < l.length
    · rw [if_pos hl] at h; cases h; exact .inl ⟨rfl, hl, rfl⟩
    · rw [if_neg hl] at h; cases h
  · rw [if_neg q] at h; exact .inr ⟨fun z => q z.symm, h⟩
theorem set_at {α : Type} {l : List α} {i : Nat} {x : α} (h : i < l.length) : (l.set i x)[i]? = some x := by
  rw [List.getElem?_set, if_pos rfl, if_pos h]
theorem set_off {α : Type} {l : List α} {i j : Nat} {x : α} (h : j ≠ i) : (l.set i x)[j]? = l[j]? := by
  rw [List.getElem?_set, if_neg (fun z => h z.symm)]
/-- a slot gets a new own object -/
theorem Rel.putOwn (r : Rel c ε σ G H) {i : Nat} {p : Addr} {o : HO} {x : Cell} (hp : H p = none) (hx : CellOk c G (upd H p o) (some (.ref p)) x) : Rel c (ε.set i x) (σ.set i (some (.ref p))) G (upd H p o) := by
  obtain ⟨r', hg, h0⟩ := r.fresh (o := o) hp
  refine ⟨r'.his, by rw [List.length_set, List.length_set]; exact r.len, fun j y e => ?_, fun j k y z q ey ez oy oz sj sk => ?_⟩
  · rcases set_get e with ⟨rfl, hl, rfl⟩ | ⟨n, e⟩
    · exact ⟨_, set_at (by rw [r.len]; exact hl), hx⟩
    · rw [set_off n]; exact r'.cell j y e
  · have old : ∀ (m : Nat) (u : Cell), ε[m]? = some u → u.isOwn = true → σ[m]? = some (some (.ref p)) → False := fun m u em om sm => by
      obtain ⟨w, w1, w2⟩ := r.cell m u em
      rw [sm] at w1
      cases w1
      cases u with
      | own xs =>
        obtain ⟨q, vs, e, g, _⟩ := w2
        cases e; rw [hp] at g; cases g
      | dic kds =>
        obtain ⟨q, vs, e, g, _⟩ := w2
        cases e; rw [hp] at g; cases g
      | un => cases om
      | d x => cases om
      | tape => cases om
      | raw v => cases om
    rcases set_get ey with ⟨e1, hl, e2⟩ | ⟨n, ey'⟩
    · rcases set_get ez with ⟨e3, _, _⟩ | ⟨n2, ez'⟩
      · rw [e1, e3]
      · rw [e1, set_at (by rw [r.len]; exact hl)] at sj
        cases sj
        rw [set_off n2] at sk
        exact (old k z ez' oz sk).elim
    · rcases set_get ez with ⟨e1, hl, e2⟩ | ⟨n2, ez'⟩
      · rw [e1, set_at (by rw [r.len]; exact hl)] at sk
        cases sk
        rw [set_off n] at sj
        exact (old j y ey' oy sj).elim
      · rw [set_off n] at sj
        rw [set_off n2] at sk
        exact r.inj j k y z q ey' ez' oy oz sj sk
/-- an own object is changed -/
theorem Rel.mut (r : Rel c ε σ G H) {i : Nat} {p : Addr} {o : HO} {x x' : Cell} (hi : ε[i]? = some x) (ho : x.isOwn = true) (hs : σ[i]? = some (some (.ref p))) (hg : G p = none) (h0 : c.H0 p = none) (hx : CellOk c G (upd H p o) (some (.ref p)) x') : Rel c (ε.set i x') σ G (upd H p o) := by
  have k := r.ok
  have li : i < ε.length := (List.getElem?_eq_some_iff.mp hi).1
  refine ⟨⟨r.his.gg, fun b u e => ?_, fun b u m e => ?_, r.his.fr, ?_⟩, by rw [List.length_set]; exact r.len, fun j y e => ?_, fun j l y z q ey ez oy oz sj sk => ?_⟩
  · rw [upd_ne (ne_of_none e hg)]; exact k.ex b u e
  · rw [upd_ne (ne_of_none e h0)]; exact r.his.hh b u m e
  · exact c.loc H _ k.r fun b m => upd_ne fun q => nM c h0 (by rw [← q]; exact m)
  · rcases set_get e with ⟨rfl, hl, rfl⟩ | ⟨n, e⟩
    · exact ⟨_, hs, hx⟩
    · obtain ⟨w, w1, w2⟩ := r.cell j y e
      refine ⟨w, w1, ?_⟩
      cases y with
      | un => trivial
      | d x => exact w2
      | own xs =>
        obtain ⟨q, vs, e', g1, g2⟩ := w2
        refine ⟨q, vs, e', ?_, g2⟩
        rw [upd_ne (fun z => n (r.inj j i _ _ p e hi rfl ho (by rw [w1, e', z]) hs))]; exact g1
      | dic kds =>
        obtain ⟨q, vs, e', g1, g2⟩ := w2
        refine ⟨q, vs, e', ?_, g2⟩
        rw [upd_ne (fun z => n (r.inj j i _ _ p e hi rfl ho (by rw [w1, e', z]) hs))]; exact g1
      | tape => exact w2
      | raw v => exact w2
  · have old : ∀ (m : Nat) (u : Cell), (ε.set i x')[m]? = some u → u.isOwn = true → ∃ u', ε[m]? = some u' ∧ u'.isOwn = true := fun m u em om => by
      rcases set_get em with ⟨rfl, _, _⟩ | ⟨n, em⟩
      · exact ⟨x, hi, ho⟩
      · exact ⟨u, em, om⟩
    obtain ⟨y', ey', oy'⟩ := old j y ey oy
    obtain ⟨z', ez', oz'⟩ := old l z ez oz
    exact r.inj j l y' z' q ey' ez' oy' oz' sj sk
/-- an own list is from now on a datum -/
theorem Rel.freeze (r : Rel c ε σ G H) {i : Nat} {xs : List D} (hi : ε[i]? = some (.own xs)) : ∃ G', Rel c (ε.set i (.d (.list xs))) σ G' H ∧ Ex G G' := by
  obtain ⟨w, hs, p, vs, rfl, hp, ha, hg, h0⟩ := r.cell i _ hi
  have k := r.ok
  have eg : Ex G (upd G p (.lst vs)) := Ex.new hg
  refine ⟨upd G p (.lst vs), ⟨⟨r.his.gg.trans eg, fun b u e => ?_, r.his.hh, fun b g h => ?_, r.his.r⟩, by rw [List.length_set]; exact r.len, fun j y e => ?_, fun j l y z q ey ez oy oz sj sk => ?_⟩, eg⟩
  · by_cases q : b = p
    · subst q; rw [upd_same] at e; cases e; exact hp
    · rw [upd_ne q] at e; exact k.ex b u e
  · rw [upd_ne (fun q => h (by rw [q]; exact h0))]; exact r.his.fr b g h
  · rcases set_get e with ⟨rfl, hl, rfl⟩ | ⟨n, e⟩
    · exact ⟨_, hs, _, rfl, .lst upd_same (ha.mono eg)⟩
    · obtain ⟨w, w1, w2⟩ := r.cell j y e
      refine ⟨w, w1, ?_⟩
      cases y with
      | un => trivial
      | d x => obtain ⟨v, e1, e2⟩ := w2; exact ⟨v, e1, e2.mono eg⟩
      | own ys =>
        obtain ⟨q, us, e', g1, g2, g3, g4⟩ := w2
        refine ⟨q, us, e', g1, g2.mono eg, ?_, g4⟩
        rw [upd_ne (fun z => n (r.inj j i _ _ p e hi rfl rfl (by rw [w1, e', z]) hs))]; exact g3
      | dic kds =>
        obtain ⟨q, us, e', g1, g2, g3, g4⟩ := w2
        refine ⟨q, us, e', g1, g2.mono eg, ?_, g4⟩
        rw [upd_ne (fun z => n (r.inj j i _ _ p e hi rfl rfl (by rw [w1, e', z]) hs))]; exact g3
      | tape => exact w2
      | raw v => exact w2
  · rcases set_get ey with ⟨rfl, _, rfl⟩ | ⟨n, ey⟩
    · cases oy
    · rcases set_get ez with ⟨rfl, _, rfl⟩ | ⟨n2, ez⟩
      · cases oz
      · exact r.inj j l y z q ey ez oy oz sj sk
end
/-! ### readings, by data -/
abbrev AE := En → (D → Prop) → Prop
abbrev AT := En → (Bool → Prop) → Prop
abbrev AA := En → (List D → Prop) → Prop
structure DE where
  nx : En → Prop
  rt : D → Prop
  bk : En → Prop := fun _ => False
  ct : En → Prop := fun _ => False
abbrev AS := DE → En → Prop
def AbsE {K : PySem.W.Frag} (c : Ctx K) (t : TE) (a : AE) : Prop := ∀ ε σ G H, Rel c ε σ G H → ∀ (Qd : D → Prop) (Q : VK), a ε Qd → (∀ v d G' H', Step c G H G' H' → Rv K G' v d → Qd d → Q v H') → t σ H Q
def AbsT {K : PySem.W.Frag} (c : Ctx K) (t : TT) (a : AT) : Prop := ∀ ε σ G H, Rel c ε σ G H → ∀ (Qd : Bool → Prop) (Q : Bool → Hp → Prop), a ε Qd → (∀ b G' H', Step c G H G' H' → Qd b → Q b H') → t σ H Q
def AbsA {K : PySem.W.Frag} (c : Ctx K) (t : TA) (a : AA) : Prop := ∀ ε σ G H, Rel c ε σ G H → ∀ (Qd : List D → Prop) (Q : List V → Hp → Prop), a ε Qd → (∀ vs ds G' H', Step c G H G' H' → RvA K G' vs ds → Qd ds → Q vs H') → t σ H Q
structure EndsOk {K : PySem.W.Frag} (c : Ctx K) (g : Hp) (E : DE) (D' : Ends) : Prop where
  nx : ∀ ε σ G H, Rel c ε σ G H → Ex g G → E.nx ε → D'.nx σ H
  rt : ∀ v d G H, Step c c.G0 c.H0 G H → Rv K G v d → E.rt d → D'.rt v H
  bk : ∀ ε σ G H, Rel c ε σ G H → Ex g G → E.bk ε → D'.bk σ H
  ct : ∀ ε σ G H, Rel c ε σ G H → Ex g G → E.ct ε → D'.ct σ H
theorem EndsOk.mono {K : PySem.W.Frag} {c : Ctx K} {g g' : Hp} {E : DE} {D' : Ends} (e : Ex g g') (k : EndsOk c g E D') : EndsOk c g' E D' :=
  ⟨fun ε σ G H r x => k.nx ε σ G H r (e.trans x), k.rt, fun ε σ G H r x => k.bk ε σ G H r (e.trans x), fun ε σ G H r x => k.ct ε σ G H r (e.trans x)⟩
def AbsS {K : PySem.W.Frag} (c : Ctx K) (t : TS) (a : AS) : Prop := ∀ ε σ G H, Rel c ε σ G H → ∀ (E : DE) (D' : Ends), a E ε → EndsOk c G E D' → t D' σ H
/-- a two-place operation on values, by data -/
abbrev A2 := D → D → (D → Prop) → Prop
abbrev A1 := D → (D → Prop) → Prop
def AbsR2 {K : PySem.W.Frag} (c : Ctx K) (r : R2) (f : A2) : Prop := ∀ G H x y dx dy, Ok c G H → Rv K G x dx → Rv K G y dy → ∀ (Qd : D → Prop) (Q : VK), f dx dy Qd → (∀ v d G' H', Step c G H G' H' → Rv K G' v d → Qd d → Q v H') → r x y H Q
def AbsR1 {K : PySem.W.Frag} (c : Ctx K) (r : V → Hp → VK → Prop) (f : A1) : Prop := ∀ G H x dx, Ok c G H → Rv K G x dx → ∀ (Qd : D → Prop) (Q : VK), f dx Qd → (∀ v d G' H', Step c G H G' H' → Rv K G' v d → Qd d → Q v H') → r x H Q
/-- a call on values, by data -/
abbrev AC := List D → (D → Prop) → Prop
def AbsC {K : PySem.W.Frag} (c : Ctx K) (r : List V → Hp → VK → Prop) (f : AC) : Prop := ∀ G H xs ds, Ok c G H → RvA K G xs ds → ∀ (Qd : D → Prop) (Q : VK), f ds Qd → (∀ v d G' H', Step c G H G' H' → Rv K G' v d → Qd d → Q v H') → r xs H Q
/-! expressions -/
section
variable {K : PySem.W.Frag} {c : Ctx K} {t u ta tb te : TE} {a b : AE}
def aVar (i : Nat) : AE := fun ε Q => match ε[i]? with | some (.d d) => Q d | _ => False
theorem ae_var (i : Nat) : AbsE c (tVar i) (aVar i) := by
  intro ε σ G H r Qd Q h q
  unfold aVar at h
  split at h
  · rename_i d hd
    obtain ⟨o, h1, v, rfl, h2⟩ := r.cell i _ hd
    exact ⟨v, h1, q v d G H (.refl r.ok) h2 h⟩
  · exact h.elim
def aC (d : D) : AE := fun _ Q => Q d
theorem ae_int (i : Int) : AbsE c (tC (.int i)) (aC (.int i)) := fun ε σ G H r Qd Q h q => q _ _ G H (.refl r.ok) (.int i) h
theorem ae_str (i : Str) : AbsE c (tC (.str i)) (aC (.str i)) := fun ε σ G H r Qd Q h q => q _ _ G H (.refl r.ok) (.str i) h
theorem ae_bl (i : Bool) : AbsE c (tC (.bl i)) (aC (.bool i)) := fun ε σ G H r Qd Q h q => q _ _ G H (.refl r.ok) (.bl i) h
theorem ae_non : AbsE c (tC .non) (aC .none) := fun ε σ G H r Qd Q h q => q _ _ G H (.refl r.ok) .non h
def aOp (f : A2) (a b : AE) : AE := fun ε Q => a ε fun x => b ε fun y => f x y Q
theorem ae_op {r : R2} {f : A2} (ho : AbsR2 c r f) (ha : AbsE c ta a) (hb : AbsE c tb b) : AbsE c (tOp r ta tb) (aOp f a b) := by
  intro ε σ G H rl Qd Q h q
  refine ha ε σ G H rl _ _ h fun x dx G1 H1 s1 r1 h1 => ?_
  refine hb ε σ G1 H1 (rl.step s1) _ _ h1 fun y dy G2 H2 s2 r2 h2 => ?_
  exact ho G2 H2 x y dx dy ((rl.step s1).step s2).ok (r1.mono s2.gg) r2 _ _ h2 fun v d G3 H3 s3 r3 h3 => q v d G3 H3 ((s1.trans s2).trans s3) r3 h3
def aUn (f : A1) (a : AE) : AE := fun ε Q => a ε fun x => f x Q
theorem ae_un {r : V → Hp → VK → Prop} {f : A1} (ho : AbsR1 c r f) (ha : AbsE c ta a) : AbsE c (tUn r ta) (aUn f a) := by
  intro ε σ G H rl Qd Q h q
  refine ha ε σ G H rl _ _ h fun x dx G1 H1 s1 r1 h1 => ?_
  exact ho G1 H1 x dx (rl.step s1).ok r1 _ _ h1 fun v d G3 H3 s3 r3 h3 => q v d G3 H3 (s1.trans s3) r3 h3
def aNil : AA := fun _ Q => Q []
theorem aa_nil : AbsA c tNil aNil := fun ε σ G H r Qd Q h q => q _ _ G H (.refl r.ok) .nil h
def aCons (a : AE) (r : AA) : AA := fun ε Q => a ε fun x => r ε fun xs => Q (x :: xs)
theorem aa_cons {tr : TA} {ar : AA} (ha : AbsE c ta a) (hr : AbsA c tr ar) : AbsA c (tCons ta tr) (aCons a ar) := by
  intro ε σ G H rl Qd Q h q
  refine ha ε σ G H rl _ _ h fun x dx G1 H1 s1 r1 h1 => ?_
  exact hr ε σ G1 H1 (rl.step s1) _ _ h1 fun vs ds G2 H2 s2 r2 h2 => q _ _ G2 H2 (s1.trans s2) (.cons (r1.mono s2.gg) r2) h2
def aTup (r : AA) : AE := fun ε Q => r ε fun xs => xs.length ≤ sizeLine ∧ Q (.tuple xs)
theorem ae_tup {tr : TA} {ar : AA} (hr : AbsA c tr ar) : AbsE c (tTup tr) (aTup ar) := by
  intro ε σ G H rl Qd Q h q
  refine hr ε σ G H rl _ _ h fun vs ds G1 H1 s1 r1 h1 => ⟨by rw [r1.length]; exact h1.1, fun p hp => ?_⟩
  have s2 := Step.new (o := .tup vs) (rl.step s1).ok hp
  exact q _ _ _ _ (s1.trans s2) (.tup (SqT.of upd_same) (r1.mono s2.gg)) h1.2
def aLst (r : AA) : AE := fun ε Q => r ε fun xs => xs.length ≤ sizeLine ∧ Q (.list xs)
theorem ae_lst {tr : TA} {ar : AA} (hr : AbsA c tr ar) : AbsE c (tLst tr) (aLst ar) := by
  intro ε σ G H rl Qd Q h q
  refine hr ε σ G H rl _ _ h fun vs ds G1 H1 s1 r1 h1 => ⟨by rw [r1.length]; exact h1.1, fun p hp => ?_⟩
  have s2 := Step.new (o := .lst vs) (rl.step s1).ok hp
  exact q _ _ _ _ (s1.trans s2) (.lst upd_same (r1.mono s2.gg)) h1.2
def aCall (f : AC) (r : AA) : AE := fun ε Q => r ε fun xs => f xs Q
theorem ae_cb {r : List V → Hp → VK → Prop} {f : AC} {tr : TA} {ar : AA} (ho : AbsC c r f) (hr : AbsA c tr ar) : AbsE c (tCB r tr) (aCall f ar) := by
  intro ε σ G H rl Qd Q h q
  refine hr ε σ G H rl _ _ h fun vs ds G1 H1 s1 r1 h1 => ?_
  exact ho G1 H1 vs ds (rl.step s1).ok r1 _ _ h1 fun v d G3 H3 s3 r3 h3 => q v d G3 H3 (s1.trans s3) r3 h3
/-! tests -/
def aTest (a : AE) : AT := fun ε Q => a ε fun x => match x with | .bool k => Q k | _ => False
theorem at_test (ha : AbsE c ta a) : AbsT c (tTest ta) (aTest a) := by
  intro ε σ G H rl Qd Q h q
  refine ha ε σ G H rl _ _ h fun x dx G1 H1 s1 r1 h1 => ?_
  cases r1 with
  | bl k => exact ⟨k, rfl, q k G1 H1 s1 h1⟩
  | _ => exact h1.elim
theorem at_B (ha : AbsE c ta a) : AbsT c (tB ta) (aTest a) := at_test ha
def aAnd (a b : AT) : AT := fun ε Q => a ε fun x => if x = true then b ε Q else Q false
def aOr (a b : AT) : AT := fun ε Q => a ε fun x => if x = true then Q true else b ε Q
def aNot (a : AT) : AT := fun ε Q => a ε fun x => Q (!x)
theorem at_and {t u : TT} {a b : AT} (ha : AbsT c t a) (hb : AbsT c u b) : AbsT c (tAnd t u) (aAnd a b) := by
  intro ε σ G H rl Qd Q h q
  refine ha ε σ G H rl _ _ h fun x G1 H1 s1 h1 => ?_
  cases x with
  | true => exact iteT (hb ε σ G1 H1 (rl.step s1) _ _ (by simpa using h1) fun b G2 H2 s2 h2 => q b G2 H2 (s1.trans s2) h2)
  | false => exact iteF (q false G1 H1 s1 (by simpa using h1))
theorem at_or {t u : TT} {a b : AT} (ha : AbsT c t a) (hb : AbsT c u b) : AbsT c (tOr t u) (aOr a b) := by
  intro ε σ G H rl Qd Q h q
  refine ha ε σ G H rl _ _ h fun x G1 H1 s1 h1 => ?_
  cases x with
  | false => exact iteF (hb ε σ G1 H1 (rl.step s1) _ _ (by simpa using h1) fun b G2 H2 s2 h2 => q b G2 H2 (s1.trans s2) h2)
  | true => exact iteT (q true G1 H1 s1 (by simpa using h1))
theorem at_not {t : TT} {a : AT} (ha : AbsT c t a) : AbsT c (tNot t) (aNot a) := by
  intro ε σ G H rl Qd Q h q
  exact ha ε σ G H rl _ _ h fun x G1 H1 s1 h1 => q _ G1 H1 s1 h1
/-- and, or, not as values -/
def aAndV (a b : AE) : AE := fun ε Q => a ε fun x => match x with | .bool k => if k = true then b ε Q else Q (.bool false) | _ => False
def aOrV (a b : AE) : AE := fun ε Q => a ε fun x => match x with | .bool k => if k = true then Q (.bool true) else b ε Q | _ => False
def aNotV (a : AE) : AE := fun ε Q => a ε fun x => match x with | .bool k => Q (.bool (!k)) | _ => False
theorem ae_andV (ha : AbsE c ta a) (hb : AbsE c tb b) : AbsE c (tAndV ta tb) (aAndV a b) := by
  intro ε σ G H rl Qd Q h q
  refine ha ε σ G H rl _ _ h fun x dx G1 H1 s1 r1 h1 => ?_
  cases r1 with
  | bl k =>
    refine ⟨k, rfl, ?_⟩
    cases k with
    | true => exact iteT (hb ε σ G1 H1 (rl.step s1) _ _ (by simpa using h1) fun v d G2 H2 s2 r2 h2 => q v d G2 H2 (s1.trans s2) r2 h2)
    | false => exact iteF (q _ _ G1 H1 s1 (.bl false) (by simpa using h1))
  | _ => exact h1.elim
theorem ae_orV (ha : AbsE c ta a) (hb : AbsE c tb b) : AbsE c (tOrV ta tb) (aOrV a b) := by
  intro ε σ G H rl Qd Q h q
  refine ha ε σ G H rl _ _ h fun x dx G1 H1 s1 r1 h1 => ?_
  cases r1 with
  | bl k =>
    refine ⟨k, rfl, ?_⟩
    cases k with
    | false => exact iteF (hb ε σ G1 H1 (rl.step s1) _ _ (by simpa using h1) fun v d G2 H2 s2 r2 h2 => q v d G2 H2 (s1.trans s2) r2 h2)
    | true => exact iteT (q _ _ G1 H1 s1 (.bl true) (by simpa using h1))
  | _ => exact h1.elim
theorem ae_notV (ha : AbsE c ta a) : AbsE c (tNotV ta) (aNotV a) := by
  intro ε σ G H rl Qd Q h q
  refine ha ε σ G H rl _ _ h fun x dx G1 H1 s1 r1 h1 => ?_
  cases r1 with
  | bl k => exact ⟨k, rfl, q _ _ G1 H1 s1 (.bl _) h1⟩
  | _ => exact h1.elim
def aIf (t : AT) (a b : AE) : AE := fun ε Q => t ε fun k => if k = true then a ε Q else b ε Q
theorem ae_if {tt : TT} {at' : AT} (ht : AbsT c tt at') (ha : AbsE c ta a) (hb : AbsE c tb b) : AbsE c (tIf tt ta tb) (aIf at' a b) := by
  intro ε σ G H rl Qd Q h q
  refine ht ε σ G H rl _ _ h fun x G1 H1 s1 h1 => ?_
  cases x with
  | true => exact iteT (ha ε σ G1 H1 (rl.step s1) _ _ (by simpa using h1) fun v d G2 H2 s2 r2 h2 => q v d G2 H2 (s1.trans s2) r2 h2)
  | false => exact iteF (hb ε σ G1 H1 (rl.step s1) _ _ (by simpa using h1) fun v d G2 H2 s2 r2 h2 => q v d G2 H2 (s1.trans s2) r2 h2)
end
/-! statements -/
section
variable {K : PySem.W.Frag} {c : Ctx K} {te : TE} {a : AE} {t u : TS} {s v : AS}
def aSeq (s v : AS) : AS := fun E ε => s { E with nx := v E } ε
theorem as_seq (h1 : AbsS c t s) (h2 : AbsS c u v) : AbsS c (tSeq t u) (aSeq s v) := by
  intro ε σ G H rl E D' h k
  refine h1 ε σ G H rl _ _ h ⟨fun ε' σ' G' H' r' x q => h2 ε' σ' G' H' r' E D' q (k.mono x), k.rt, k.bk, k.ct⟩
def aNext : AS := fun E ε => E.nx ε
theorem as_next : AbsS c tNext aNext := fun ε σ G H rl E D' h k => k.nx ε σ G H rl (Ex.refl G) h
def aBreak : AS := fun E ε => E.bk ε
theorem as_break : AbsS c tBreak aBreak := fun ε σ G H rl E D' h k => k.bk ε σ G H rl (Ex.refl G) h
def aCont : AS := fun E ε => E.ct ε
theorem as_cont : AbsS c tCont aCont := fun ε σ G H rl E D' h k => k.ct ε σ G H rl (Ex.refl G) h
def aRet (a : AE) : AS := fun E ε => a ε E.rt
theorem as_ret (ha : AbsE c te a) : AbsS c (tRet te) (aRet a) := fun ε σ G H rl E D' h k =>
  ha ε σ G H rl _ _ h fun v d G1 H1 s1 r1 h1 => k.rt v d G1 H1 (rl.his.trans s1) r1 h1
def aRetN : AS := fun E _ => E.rt .none
theorem as_retN : AbsS c tRetN aRetN := fun ε σ G H rl E D' h k => k.rt _ _ G H rl.his .non h
def aDrop (a : AE) : AS := fun E ε => a ε fun _ => E.nx ε
theorem as_drop (ha : AbsE c te a) : AbsS c (tDrop te) (aDrop a) := fun ε σ G H rl E D' h k =>
  ha ε σ G H rl _ _ h fun v d G1 H1 s1 r1 h1 => k.nx ε σ G1 H1 (rl.step s1) s1.gg h1
def aIfS (t : AT) (s v : AS) : AS := fun E ε => t ε fun k => if k = true then s E ε else v E ε
theorem as_if {tt : TT} {at' : AT} (ht : AbsT c tt at') (h1 : AbsS c t s) (h2 : AbsS c u v) : AbsS c (tIfS tt t u) (aIfS at' s v) := by
  intro ε σ G H rl E D' h k
  refine ht ε σ G H rl _ _ h fun x G1 H1 s1 q => ?_
  cases x with
  | true => exact iteT (h1 ε σ G1 H1 (rl.step s1) E D' (by simpa using q) (k.mono s1.gg))
  | false => exact iteF (h2 ε σ G1 H1 (rl.step s1) E D' (by simpa using q) (k.mono s1.gg))
def aSet (i : Nat) (a : AE) : AS := fun E ε => a ε fun d => E.nx (ε.set i (.d d))
theorem as_set (i : Nat) (ha : AbsE c te a) : AbsS c (tAsg te (gName i)) (aSet i a) := fun ε σ G H rl E D' h k =>
  ha ε σ G H rl _ _ h fun v d G1 H1 s1 r1 h1 => k.nx _ _ G1 H1 ((rl.step s1).put (x := .d d) ⟨v, rfl, r1⟩ rfl) s1.gg h1
/-- a target: a name, or a tuple of names -/
abbrev AG := D → En → (En → Prop) → Prop
def AbsG {K : PySem.W.Frag} (c : Ctx K) (g : TG) (ag : AG) : Prop := ∀ ε σ G H v d, Rel c ε σ G H → Rv K G v d → ∀ (Qd : En → Prop) (Q : St → Hp → Prop), ag d ε Qd → (∀ ε' σ' G' H', Rel c ε' σ' G' H' → Step c G H G' H' → Qd ε' → Q σ' H') → g v σ H Q
def agName (i : Nat) : AG := fun d ε Q => Q (ε.set i (.d d))
theorem ag_name (i : Nat) : AbsG c (gName i) (agName i) := fun ε σ G H v d rl r Qd Q h q => q _ _ G H (rl.put (x := .d d) ⟨v, rfl, r⟩ rfl) (.refl rl.ok) h
abbrev AGs := List D → En → (En → Prop) → Prop
def AbsGs {K : PySem.W.Frag} (c : Ctx K) (g : TGs) (ag : AGs) : Prop := ∀ ε σ G H vs ds, Rel c ε σ G H → RvA K G vs ds → ∀ (Qd : En → Prop) (Q : St → Hp → Prop), ag ds ε Qd → (∀ ε' σ' G' H', Rel c ε' σ' G' H' → Step c G H G' H' → Qd ε' → Q σ' H') → g vs σ H Q
def agNil : AGs := fun ds ε Q => ds = [] ∧ Q ε
def agCons (g : AG) (r : AGs) : AGs := fun ds ε Q => match ds with | d :: ds => g d ε fun ε' => r ds ε' Q | [] => False
theorem ags_nil : AbsGs c gNil agNil := fun ε σ G H vs ds rl r Qd Q h q => by
  obtain ⟨rfl, h⟩ := h
  cases r
  exact ⟨rfl, q _ _ G H rl (.refl rl.ok) h⟩
theorem ags_cons {g : TG} {gs : TGs} {ag : AG} {ags : AGs} (h1 : AbsG c g ag) (h2 : AbsGs c gs ags) : AbsGs c (gCons g gs) (agCons ag ags) := fun ε σ G H vs ds rl r Qd Q h q => by
  cases r with
  | nil => exact h.elim
  | cons hv hr =>
    refine ⟨_, _, rfl, ?_⟩
    refine h1 ε σ G H _ _ rl hv _ _ h fun ε' σ' G' H' r' s' h' => ?_
    exact h2 ε' σ' G' H' _ _ r' (hr.mono s'.gg) _ _ h' fun ε2 σ2 G2 H2 r2 s2 h2 => q _ _ G2 H2 r2 (s'.trans s2) h2
def agTup (n : Nat) (r : AGs) : AG := fun d ε Q => match d with | .tuple ds => ds.length = n ∧ r ds ε Q | _ => False
theorem ag_tup {n : Nat} {gs : TGs} {ags : AGs} (h2 : AbsGs c gs ags) : AbsG c (gTup K n gs) (agTup n ags) := fun ε σ G H v d rl r Qd Q h q => by
  cases r with
  | tup hs ha => exact ⟨_, _, rfl, rl.ok.ex.sqt hs, ha.length.trans h.1, h2 ε σ G H _ _ rl ha _ _ h.2 q⟩
  | _ => exact h.elim
def aAsg (a : AE) (g : AG) : AS := fun E ε => a ε fun d => g d ε E.nx
theorem as_asg {g : TG} {ag : AG} (ha : AbsE c te a) (hg : AbsG c g ag) : AbsS c (tAsg te g) (aAsg a ag) := fun ε σ G H rl E D' h k =>
  ha ε σ G H rl _ _ h fun v d G1 H1 s1 r1 h1 => hg ε σ G1 H1 v d (rl.step s1) r1 _ _ h1 fun ε' σ' G' H' r' s' h' => k.nx _ _ G' H' r' (s1.gg.trans s'.gg) h'
end
end Fc

namespace Fc
open PySem L2
/-! ### what is walked -/
def Walk {K : PySem.W.Frag} (c : Ctx K) (J : It) (items : List D) (g : Hp) : Prop := ∀ (i : Nat) (G H : Hp), Ex g G → Ok c G H →
  (i < items.length → J.go i H ∧ ∀ x H', J.yld i H x H' → ∃ G', Step c G H G' H' ∧ ∃ d, items[i]? = some d ∧ Rv K G' x d) ∧ (items.length ≤ i → J.stop i H)
abbrev AI := En → (List D → Prop) → Prop
def AbsI {K : PySem.W.Frag} (c : Ctx K) (wi : TI) (ai : AI) : Prop := ∀ ε σ G H, Rel c ε σ G H → ∀ (Qd : List D → Prop) (R : It → Hp → Prop), ai ε Qd → (∀ J items G' H', Step c G H G' H' → Walk c J items G' → Qd items → R J H') → wi σ H R
section
variable {K : PySem.W.Frag} {c : Ctx K} {ta : TE} {a : AE}
def aiList (a : AE) : AI := fun ε Q => a ε fun d => match d with | .list ds => Q ds | _ => False
theorem ai_list (ha : AbsE c ta a) : AbsI c (iList K ta) (aiList a) := by
  intro ε σ G H rl Qd R h q
  refine ha ε σ G H rl _ _ h fun x dx G1 H1 s1 r1 h1 => ?_
  cases r1 with
  | @lst p xs ds hp hA =>
    have k1 := (rl.step s1).ok
    refine ⟨p, rfl, ⟨xs, SqL.of (k1.ex _ _ hp)⟩, q (Itl K p) ds G1 H1 s1 (fun i G2 H2 e k2 => ⟨fun hi => ?_, fun hi => ?_⟩) h1⟩
    · have hS : SqL K H2 p xs := SqL.of (k2.ex _ _ (e _ _ hp))
      have hl : i < xs.length := by rw [hA.length]; exact hi
      refine ⟨⟨xs, xs[i], hS, List.getElem?_eq_getElem hl⟩, fun x H' hy => ?_⟩
      obtain ⟨rfl, hy⟩ := hy
      obtain ⟨d, hd, hr⟩ := (hA.mono e).getV (hy xs hS)
      exact ⟨G2, .refl k2, d, hd, hr⟩
    · exact ⟨xs, SqL.of (k2.ex _ _ (e _ _ hp)), by rw [hA.length]; exact hi⟩
  | _ => exact h1.elim
def aiTup (a : AE) : AI := fun ε Q => a ε fun d => match d with | .tuple ds => Q ds | _ => False
theorem ai_tup (ha : AbsE c ta a) : AbsI c (iTup K ta) (aiTup a) := by
  intro ε σ G H rl Qd R h q
  refine ha ε σ G H rl _ _ h fun x dx G1 H1 s1 r1 h1 => ?_
  cases r1 with
  | @tup p xs ds hp hA =>
    have k1 := (rl.step s1).ok
    refine ⟨p, rfl, ⟨xs, k1.ex.sqt hp⟩, q (Itt K p) ds G1 H1 s1 (fun i G2 H2 e k2 => ⟨fun hi => ?_, fun hi => ?_⟩) h1⟩
    · have hS : SqT K H2 p xs := k2.ex.sqt (e.sqt hp)
      have hl : i < xs.length := by rw [hA.length]; exact hi
      refine ⟨⟨xs, xs[i], hS, List.getElem?_eq_getElem hl⟩, fun x H' hy => ?_⟩
      obtain ⟨rfl, hy⟩ := hy
      obtain ⟨d, hd, hr⟩ := (hA.mono e).getV (hy xs hS)
      exact ⟨G2, .refl k2, d, hd, hr⟩
    · exact ⟨xs, k2.ex.sqt (e.sqt hp), by rw [hA.length]; exact hi⟩
  | _ => exact h1.elim
/-- the ints lo, lo + 1, .. -/
def rngD (lo : Int) (n : Nat) : List D := (List.range n).map fun (i : Nat) => PyData.int (lo + (i : Int))
theorem rngD_len (lo : Int) (n : Nat) : (rngD lo n).length = n := by unfold rngD; rw [List.length_map, List.length_range]
theorem rngD_get {lo : Int} {n i : Nat} (h : i < n) : (rngD lo n)[i]? = some (PyData.int (lo + (i : Int))) := by
  unfold rngD; rw [List.getElem?_map, List.getElem?_range h]; rfl
theorem walk_rng (lo : Int) (n : Nat) (g : Hp) : Walk c (Itr lo n) (rngD lo n) g := by
  intro i G H e k
  rw [rngD_len]
  refine ⟨fun hi => ⟨hi, fun x H' hy => ?_⟩, fun hi => hi⟩
  obtain ⟨rfl, rfl⟩ := hy
  exact ⟨G, .refl k, _, rngD_get hi, .int _⟩
def InRg (j : Int) : Prop := -(2 ^ 62) ≤ j ∧ j < 2 ^ 62
def aiRng1 (r : AA) : AI := fun ε Q => r ε fun ds => match ds with | [.int j] => InRg j ∧ Q (rngD 0 j.toNat) | _ => False
theorem ai_rng1 {tr : TA} {ar : AA} (hr : AbsA c tr ar) : AbsI c (iRng1 tr) (aiRng1 ar) := by
  intro ε σ G H rl Qd R h q
  refine hr ε σ G H rl _ _ h fun vs ds G1 H1 s1 r1 h1 => ?_
  split at h1
  · rename_i j
    cases r1 with
    | cons a b =>
      cases a; cases b
      exact ⟨j, rfl, h1.1.1, h1.1.2, q _ _ G1 H1 s1 (walk_rng 0 j.toNat G1) h1.2⟩
  · exact h1.elim
def aiRng2 (r : AA) : AI := fun ε Q => r ε fun ds => match ds with | [.int i, .int j] => (InRg i ∧ InRg j) ∧ Q (rngD i (j - i).toNat) | _ => False
theorem ai_rng2 {tr : TA} {ar : AA} (hr : AbsA c tr ar) : AbsI c (iRng2 tr) (aiRng2 ar) := by
  intro ε σ G H rl Qd R h q
  refine hr ε σ G H rl _ _ h fun vs ds G1 H1 s1 r1 h1 => ?_
  split at h1
  · rename_i i j
    cases r1 with
    | cons a b =>
      cases a
      cases b with
      | cons a b =>
        cases a; cases b
        exact ⟨i, j, rfl, ⟨h1.1.1.1, h1.1.1.2, h1.1.2.1, h1.1.2.2⟩, q _ _ G1 H1 s1 (walk_rng i (j - i).toNat G1) h1.2⟩
  · exact h1.elim
/-- the ints lo, lo + c, .. -/
def rngC (lo st : Int) (n : Nat) : List D := (List.range n).map fun (i : Nat) => PyData.int (lo + (i : Int) * st)
theorem rngC_len (lo st : Int) (n : Nat) : (rngC lo st n).length = n := by unfold rngC; rw [List.length_map, List.length_range]
theorem walk_rngC (lo st : Int) (n : Nat) (g : Hp) : Walk c (Itc lo st n) (rngC lo st n) g := by
  intro i G H e k
  rw [rngC_len]
  refine ⟨fun hi => ⟨hi, fun x H' hy => ?_⟩, fun hi => hi⟩
  obtain ⟨rfl, rfl⟩ := hy
  refine ⟨G, .refl k, _, ?_, .int _⟩
  unfold rngC; rw [List.getElem?_map, List.getElem?_range hi]; rfl
def aiRng3 (r : AA) : AI := fun ε Q => r ε fun ds => match ds with | [.int i, .int j, .int st] => ∃ n, RgC i j st n ∧ Q (rngC i st n) | _ => False
theorem ai_rng3 {tr : TA} {ar : AA} (hr : AbsA c tr ar) : AbsI c (iRng3 tr) (aiRng3 ar) := by
  intro ε σ G H rl Qd R h q
  refine hr ε σ G H rl _ _ h fun vs ds G1 H1 s1 r1 h1 => ?_
  split at h1
  · rename_i i j st
    obtain ⟨n, hn, h1⟩ := h1
    cases r1 with
    | cons a b =>
      cases a
      cases b with
      | cons a b =>
        cases a
        cases b with
        | cons a b =>
          cases a; cases b
          exact ⟨i, j, st, n, rfl, hn, q _ _ G1 H1 s1 (walk_rngC i st n G1) h1⟩
  · exact h1.elim
def signs (x : Str) : List D := x.cps.toList.map fun k => PyData.str ⟨#[k]⟩
theorem signs_len (x : Str) : (signs x).length = x.cps.size := by unfold signs; rw [List.length_map, Array.length_toList]
def aiStr (a : AE) : AI := fun ε Q => a ε fun d => match d with | .str x => Q (signs x) | _ => False
theorem ai_str (ha : AbsE c ta a) : AbsI c (iStr ta) (aiStr a) := by
  intro ε σ G H rl Qd R h q
  refine ha ε σ G H rl _ _ h fun x dx G1 H1 s1 r1 h1 => ?_
  cases r1 with
  | str z =>
    refine ⟨z, rfl, q (Its z) (signs z) G1 H1 s1 (fun i G2 H2 e k2 => ?_) h1⟩
    rw [signs_len]
    refine ⟨fun hi => ⟨hi, fun x H' hy => ?_⟩, fun hi => hi⟩
    obtain ⟨rfl, k, hk, rfl⟩ := hy
    refine ⟨G2, .refl k2, _, ?_, .str _⟩
    unfold signs
    rw [List.getElem?_map, Array.getElem?_toList, hk]; rfl
  | _ => exact h1.elim
def aiEnum (r : AA) : AI := fun ε Q => r ε fun ds => match ds with | [.list xs] => Q (xs.mapIdx fun i x => PyData.tuple [.int (i : Int), x]) | _ => False
theorem ai_enum {tr : TA} {ar : AA} (hr : AbsA c tr ar) : AbsI c (iEnum K tr) (aiEnum ar) := by
  intro ε σ G H rl Qd R h q
  refine hr ε σ G H rl _ _ h fun vs ds G1 H1 s1 r1 h1 => ?_
  split at h1
  · rename_i xs
    cases r1 with
    | cons a b =>
      cases b
      cases a with
      | @lst p us _ hp hA =>
        have k1 := (rl.step s1).ok
        refine ⟨p, us, rfl, SqL.of (k1.ex _ _ hp), q (Ite K p) _ G1 H1 s1 (fun i G2 H2 e k2 => ?_) h1⟩
        have hS : SqL K H2 p us := SqL.of (k2.ex _ _ (e _ _ hp))
        rw [List.length_mapIdx]
        refine ⟨fun hi => ?_, fun hi => ⟨us, hS, by rw [hA.length]; exact hi⟩⟩
        have hl : i < us.length := by rw [hA.length]; exact hi
        refine ⟨⟨us, us[i], hS, List.getElem?_eq_getElem hl⟩, fun x H' hy => ?_⟩
        obtain ⟨T, y, rfl, hT, rfl, hy⟩ := hy
        obtain ⟨d, hd, hr⟩ := (hA.mono e).getV (hy us hS)
        have s3 := Step.new (o := .tup [.int (i : Nat), y]) k2 hT
        refine ⟨_, s3, _, ?_, .tup (SqT.of upd_same) (.cons (.int _) (.cons (hr.mono s3.gg) .nil))⟩
        rw [List.getElem?_mapIdx, hd]; rfl
  · exact h1.elim
end
/-! ### loops -/
section
variable {K : PySem.W.Frag} {c : Ctx K}
def aFor (ai : AI) (ag : AG) (s : AS) : AS := fun E ε => ai ε fun items => ∃ I : Nat → En → Prop, I 0 ε ∧
  (∀ (i : Nat) (d : D) (ε' : En), items[i]? = some d → I i ε' → ag d ε' fun ε'' => s { nx := I (i + 1), ct := I (i + 1), bk := E.nx, rt := E.rt } ε'') ∧ ∀ ε', I items.length ε' → E.nx ε'
theorem as_for {wi : TI} {ai : AI} {g : TG} {ag : AG} {t : TS} {s : AS} (hi : AbsI c wi ai) (hg : AbsG c g ag) (hs : AbsS c t s) : AbsS c (tFor wi g t) (aFor ai ag s) := by
  intro ε σ G H rl E D' h k
  refine hi ε σ G H rl _ _ h fun J items G1 H1 s1 wk h1 => ?_
  obtain ⟨I, i0, it, ie⟩ := h1
  refine ⟨fun i m σ' H' => i + m = items.length ∧ ∃ ε' G', Rel c ε' σ' G' H' ∧ Ex G1 G' ∧ I i ε', ⟨items.length, by omega, ε, G1, rl.step s1, Ex.refl _, i0⟩, fun i m σ' H' w => ?_⟩
  obtain ⟨em, ε', G', r', x', hI⟩ := w
  by_cases hl : i < items.length
  · obtain ⟨go, yl⟩ := (wk i G' H' x' r'.ok).1 hl
    refine .inr ⟨go, fun σ2 H2 => ∃ ε2 G2, Rel c ε2 σ2 G2 H2 ∧ Ex G1 G2 ∧ I (i + 1) ε2, fun σ2 H2 n => ⟨m - 1, by omega, by omega, n⟩, fun x H2 hy => ?_⟩
    obtain ⟨G2, s2, d, hd, hr⟩ := yl x H2 hy
    refine hg ε' σ' G2 H2 x d (r'.step s2) hr _ _ (it i d ε' hd hI) fun ε3 σ3 G3 H3 r3 s3 h3 => ?_
    have x3 : Ex G1 G3 := x'.trans (s2.gg.trans s3.gg)
    refine hs ε3 σ3 G3 H3 r3 _ _ h3 ⟨fun ε4 σ4 G4 H4 r4 x4 q => ⟨ε4, G4, r4, x3.trans x4, q⟩, k.rt, fun ε4 σ4 G4 H4 r4 x4 q => k.nx ε4 σ4 G4 H4 r4 (s1.gg.trans (x3.trans x4)) q, fun ε4 σ4 G4 H4 r4 x4 q => ⟨ε4, G4, r4, x3.trans x4, q⟩⟩
  · have he : i = items.length := by omega
    subst he
    exact .inl ⟨(wk _ G' H' x' r'.ok).2 (Nat.le_refl _), k.nx ε' σ' G' H' r' (s1.gg.trans x') (ie ε' hI)⟩
def aWhile (tc : AT) (s : AS) : AS := fun E ε => ∃ I : Nat → En → Prop, (∃ m, I m ε) ∧ ∀ m ε', I m ε' → tc ε' fun b => if b = true then s { nx := fun ε2 => ∃ m', m' < m ∧ I m' ε2, ct := fun ε2 => ∃ m', m' < m ∧ I m' ε2, bk := E.nx, rt := E.rt } ε' else E.nx ε'
theorem as_while {tt : TT} {tc : AT} {t : TS} {s : AS} (hc : AbsT c tt tc) (hs : AbsS c t s) : AbsS c (tWhile tt t) (aWhile tc s) := by
  intro ε σ G H rl E D' h k
  obtain ⟨I, ⟨m0, i0⟩, hI⟩ := h
  refine ⟨fun m σ' H' => ∃ ε' G', Rel c ε' σ' G' H' ∧ Ex G G' ∧ I m ε', ⟨m0, ε, G, rl, Ex.refl _, i0⟩, fun m σ' H' w => ?_⟩
  obtain ⟨ε', G', r', x', hm⟩ := w
  refine hc ε' σ' G' H' r' _ _ (hI m ε' hm) fun b G2 H2 s2 h2 => ?_
  have x2 : Ex G G2 := x'.trans s2.gg
  cases b with
  | false => exact iteF (k.nx ε' σ' G2 H2 (r'.step s2) x2 (by simpa using h2))
  | true =>
    refine iteT ⟨fun σ3 H3 => ∃ m', m' < m ∧ ∃ ε3 G3, Rel c ε3 σ3 G3 H3 ∧ Ex G G3 ∧ I m' ε3, fun σ3 H3 n => ?_, ?_⟩
    · obtain ⟨m', l, n⟩ := n; exact ⟨m', l, n⟩
    · rw [if_pos rfl] at h2
      exact hs ε' σ' G2 H2 (r'.step s2) _ _ h2 ⟨fun ε4 σ4 G4 H4 r4 x4 q => by
          obtain ⟨m', l, q⟩ := q; exact ⟨m', l, ε4, G4, r4, x2.trans x4, q⟩, k.rt, fun ε4 σ4 G4 H4 r4 x4 q => k.nx ε4 σ4 G4 H4 r4 (x2.trans x4) q, fun ε4 σ4 G4 H4 r4 x4 q => by
          obtain ⟨m', l, q⟩ := q; exact ⟨m', l, ε4, G4, r4, x2.trans x4, q⟩⟩
end
/-! ### one slot more, at the end -/
section
variable {K : PySem.W.Frag} {c : Ctx K} {ε : En} {σ : St} {G H G' H' : Hp}
theorem Rel.snoc (r : Rel c ε σ G H) {p : Addr} {o : HO} {x : Cell} (hp : H p = none) (hx : CellOk c G (upd H p o) (some (.ref p)) x) : Rel c (ε ++ [x]) (σ ++ [some (.ref p)]) G (upd H p o) := by
  obtain ⟨r', hg, h0⟩ := r.fresh (o := o) hp
  have lens := r.len
  have old : ∀ (m : Nat) (u : Cell), ε[m]? = some u → u.isOwn = true → σ[m]? = some (some (.ref p)) → False := fun m u em om sm => by
    obtain ⟨w, w1, w2⟩ := r.cell m u em
    rw [sm] at w1
    cases w1
    cases u with
    | own xs => obtain ⟨q, vs, e, g, _⟩ := w2; cases e; rw [hp] at g; cases g
    | dic kds => obtain ⟨q, vs, e, g, _⟩ := w2; cases e; rw [hp] at g; cases g
    | un => cases om
    | d x => cases om
    | tape => cases om
    | raw v => cases om
  have part : ∀ (j : Nat) (y : Cell), (ε ++ [x])[j]? = some y → (j < ε.length ∧ ε[j]? = some y) ∨ (j = ε.length ∧ y = x) := fun j y e => by
    by_cases hj : j < ε.length
    · rw [List.getElem?_append_left hj] at e; exact .inl ⟨hj, e⟩
    · rw [List.getElem?_append_right (by omega)] at e
      cases hk : j - ε.length with
      | zero => rw [hk] at e; simp at e; exact .inr ⟨by omega, e.symm⟩
      | succ n => rw [hk] at e; simp at e
  refine ⟨r'.his, by simp [r.len], fun j y e => ?_, fun j k y z q ey ez oy oz sj sk => ?_⟩
  · rcases part j y e with ⟨hj, e⟩ | ⟨rfl, rfl⟩
    · obtain ⟨o', e1, e2⟩ := r'.cell j y e
      exact ⟨o', by rw [List.getElem?_append_left (by rw [lens]; exact hj)]; exact e1, e2⟩
    · exact ⟨some (.ref p), by rw [List.getElem?_append_right (by rw [lens]; exact Nat.le_refl _), lens, Nat.sub_self]; rfl, hx⟩
  · rcases part j y ey with ⟨hj, ey⟩ | ⟨e1, e2⟩
    · rw [List.getElem?_append_left (by rw [lens]; exact hj)] at sj
      rcases part k z ez with ⟨hk, ez⟩ | ⟨e3, e4⟩
      · rw [List.getElem?_append_left (by rw [lens]; exact hk)] at sk
        exact r.inj j k y z q ey ez oy oz sj sk
      · rw [e3, List.getElem?_append_right (by rw [lens]; exact Nat.le_refl _), lens, Nat.sub_self] at sk
        simp at sk; subst sk
        exact (old j y ey oy sj).elim
    · rcases part k z ez with ⟨hk, ez⟩ | ⟨e3, e4⟩
      · rw [List.getElem?_append_left (by rw [lens]; exact hk)] at sk
        rw [e1, List.getElem?_append_right (by rw [lens]; exact Nat.le_refl _), lens, Nat.sub_self] at sj
        simp at sj; subst sj
        exact (old k z ez oz sk).elim
      · rw [e1, e3]
theorem Rel.init {x : Cell} {o : Option V} (r : Rel c (ε ++ [x]) (σ ++ [o]) G H) : Rel c ε σ G H := by
  have lens : σ.length = ε.length := by have h := r.len; simp at h; exact h
  have up : ∀ (j : Nat) (y : Cell), ε[j]? = some y → (ε ++ [x])[j]? = some y ∧ (σ ++ [o])[j]? = σ[j]? := fun j y e => by
    have hj := (List.getElem?_eq_some_iff.mp e).1
    exact ⟨by rw [List.getElem?_append_left hj]; exact e, List.getElem?_append_left (by rw [lens]; exact hj)⟩
  refine ⟨r.his, lens, fun j y e => ?_, fun j k y z q ey ez oy oz sj sk => ?_⟩
  · obtain ⟨e1, e2⟩ := up j y e
    obtain ⟨w, w1, w2⟩ := r.cell j y e1
    exact ⟨w, by rw [← e2]; exact w1, w2⟩
  · obtain ⟨e1, e2⟩ := up j y ey
    obtain ⟨e3, e4⟩ := up k z ez
    exact r.inj j k y z q e1 e3 oy oz (by rw [e2]; exact sj) (by rw [e4]; exact sk)
end
/-! ### comprehensions -/
def wipeE (ε : En) : List Nat → En
  | [] => ε
  | v :: vs => (wipeE ε vs).set v .un
section
variable {K : PySem.W.Frag} {c : Ctx K} {ε : En} {σ : St} {G H G' H' : Hp}
theorem Rel.wipe (r : Rel c ε σ G H) : ∀ vs : List Nat, Rel c (wipeE ε vs) (L2.wipe σ vs) G H
  | [] => r
  | v :: vs => (r.wipe vs).drop
theorem wipe_len (σ : St) : ∀ vs : List Nat, (L2.wipe σ vs).length = σ.length
  | [] => rfl
  | v :: vs => by show ((L2.wipe σ vs).set v none).length = _; rw [List.length_set]; exact wipe_len σ vs
theorem wipe_get (σ : St) (i : Nat) : ∀ vs : List Nat, (L2.wipe σ vs)[i]? = if i ∈ vs then (if i < σ.length then some none else none) else σ[i]?
  | [] => by simp [L2.wipe]
  | v :: vs => by
    show ((L2.wipe σ vs).set v none)[i]? = _
    rw [List.getElem?_set, wipe_get σ i vs, wipe_len]
    by_cases q : v = i
    · subst q; simp
    · rw [if_neg q]
      have e : (i ∈ v :: vs) ↔ i ∈ vs := by
        rw [List.mem_cons]
        exact ⟨fun z => z.elim (fun z => (q z.symm).elim) id, .inr⟩
      by_cases h : i ∈ vs
      · rw [if_pos h, if_pos (e.mpr h)]
      · rw [if_neg h, if_neg (fun z => h (e.mp z))]
theorem wipe_set {vs : List Nat} {j : Nat} {o : Option V} (h : j ∈ vs) (σ : St) : L2.wipe (σ.set j o) vs = L2.wipe σ vs := by
  apply List.ext_getElem?
  intro i
  rw [wipe_get, wipe_get, List.length_set]
  by_cases q : i ∈ vs
  · rw [if_pos q, if_pos q]
  · rw [if_neg q, if_neg q, List.getElem?_set, if_neg (fun z : j = i => q (z ▸ h))]
theorem wipe_wipe (vs : List Nat) (σ : St) : L2.wipe (L2.wipe σ vs) vs = L2.wipe σ vs := by
  apply List.ext_getElem?
  intro i
  rw [wipe_get, wipe_get, wipe_len]
  by_cases q : i ∈ vs <;> simp [q]
/-- a target sets slots of vs alone -/
structure GOnly (vs : List Nat) (g : TG) : Prop where
  mono : ∀ x σ H (Q Q' : St → Hp → Prop), (∀ σ' H', Q σ' H' → Q' σ' H') → g x σ H Q → g x σ H Q'
  only : ∀ x σ H Q, g x σ H Q → g x σ H fun σ2 H2 => L2.wipe σ2 vs = L2.wipe σ vs ∧ Q σ2 H2
structure GsOnly (vs : List Nat) (g : TGs) : Prop where
  mono : ∀ x σ H (Q Q' : St → Hp → Prop), (∀ σ' H', Q σ' H' → Q' σ' H') → g x σ H Q → g x σ H Q'
  only : ∀ x σ H Q, g x σ H Q → g x σ H fun σ2 H2 => L2.wipe σ2 vs = L2.wipe σ vs ∧ Q σ2 H2
theorem go_name {vs : List Nat} {j : Nat} (h : j ∈ vs) : GOnly vs (gName j) := ⟨fun _ _ _ _ _ i q => i _ _ q, fun _ σ _ _ q => ⟨wipe_set h σ, q⟩⟩
theorem gos_nil {vs : List Nat} : GsOnly vs gNil := ⟨fun _ _ _ _ _ i q => ⟨q.1, i _ _ q.2⟩, fun _ σ _ _ q => ⟨q.1, rfl, q.2⟩⟩
theorem gos_cons {vs : List Nat} {g : TG} {gs : TGs} (h1 : GOnly vs g) (h2 : GsOnly vs gs) : GsOnly vs (gCons g gs) :=
  ⟨fun _ _ _ _ _ i q => by
    obtain ⟨v, r, e, q⟩ := q
    exact ⟨v, r, e, h1.mono _ _ _ _ _ (fun σ' H' q' => h2.mono _ _ _ _ _ i q') q⟩, fun _ σ _ _ q => by
    obtain ⟨v, r, e, q⟩ := q
    refine ⟨v, r, e, h1.mono _ _ _ _ _ (fun σ' H' q' => ?_) (h1.only _ _ _ _ q)⟩
    exact h2.mono _ _ _ _ _ (fun σ2 H2 q2 => ⟨q2.1.trans q'.1, q2.2⟩) (h2.only _ _ _ _ q'.2)⟩
theorem go_tup {vs : List Nat} {n : Nat} {gs : TGs} (h : GsOnly vs gs) : GOnly vs (gTup K n gs) :=
  ⟨fun _ _ _ _ _ i q => by
    obtain ⟨a, xs, e, s, l, q⟩ := q
    exact ⟨a, xs, e, s, l, h.mono _ _ _ _ _ i q⟩, fun _ σ _ _ q => by
    obtain ⟨a, xs, e, s, l, q⟩ := q
    exact ⟨a, xs, e, s, l, h.only _ _ _ _ q⟩⟩
theorem Step.mutNew (s : Step c G H G' H') {p : Addr} {o : HO} (h : H p = none) (hg : G' p = none) (hm : ¬ c.M p) : Step c G H G' (upd H' p o) :=
  ⟨s.gg, fun b u e => by rw [upd_ne (ne_of_none e hg)]; exact s.gh b u e, fun b u m e => by rw [upd_ne (ne_of_none e h)]; exact s.hh b u m e, s.fr, c.loc H' _ s.r fun b m => upd_ne fun q => hm (q ▸ m)⟩
theorem Step.lay (s : Step c G H G' H') {p : Addr} {o : HO} (h : H p = none) (hg : G' p = none) (hp : H' p = some o) : Step c G H (upd G' p o) H' :=
  ⟨s.gg.trans (Ex.new hg), fun b u e => by
    by_cases q : b = p
    · subst q; rw [upd_same] at e; cases e; exact hp
    · rw [upd_ne q] at e; exact s.gh b u e, s.hh, fun b g n => by
    rw [upd_ne (fun q => n (by rw [q]; exact h))]; exact s.fr b g n, s.r⟩
/-- which elements may come: I i acc of the first i items; a turn by a test and an element -/
def aLc (ai : AI) (ag : AG) (tt : AT) (ae : AE) (vs : List Nat) : AE := fun ε Q => ai ε fun items => items.length ≤ sizeLine ∧ ∃ I : Nat → List D → Prop, I 0 [] ∧
  (∀ (i : Nat) (d : D) (acc : List D), items[i]? = some d → I i acc → ag d (wipeE ε vs) fun ε' => tt ε' fun b => if b = true then ae ε' fun y => I (i + 1) (acc ++ [y]) else I (i + 1) acc) ∧ ∀ acc, I items.length acc → Q (.list acc)
theorem ae_lc {wi : TI} {ai : AI} {g : TG} {ag : AG} {tt : TT} {at' : AT} {te : TE} {ae : AE} {vs : List Nat} (hi : AbsI c wi ai) (hg : AbsG c g ag) (ho : GOnly vs g) (ht : AbsT c tt at') (he : AbsE c te ae) : AbsE c (tLc wi g tt te vs) (aLc ai ag at' ae vs) := by
  intro ε σ G H rl Qd Q h q
  refine hi ε σ G H rl _ _ h fun J items G1 H1 s1 wk h1 => ?_
  obtain ⟨hz, I, i0, it, ie⟩ := h1
  intro P hP
  have r1 := rl.step s1
  obtain ⟨_, g1P, h0P⟩ := r1.fresh (o := .lst []) hP
  have nP := nM c h0P
  have hHP : H P = none := by
    cases e : H P with
    | none => rfl
    | some o => rw [s1.hh P o nP e] at hP; cases hP
  refine ⟨fun i m H' => i + m = items.length ∧ ∃ G' dacc, dacc.length ≤ i ∧ Rel c (ε ++ [.own dacc]) (σ ++ [some (.ref P)]) G' H' ∧ Step c G H G' H' ∧ Ex G1 G' ∧ I i dacc, ⟨items.length, by omega, G1, [], Nat.zero_le _, ?_, s1.mutNew hHP g1P nP, Ex.refl _, i0⟩, fun i m H' w => ?_⟩
  · exact r1.snoc hP ⟨P, [], rfl, upd_same, .nil, g1P, h0P⟩
  obtain ⟨em, G', dacc, dl, r', s', x', hI⟩ := w
  have cP := r'.cell ε.length (.own dacc) (by rw [List.getElem?_append_right (Nat.le_refl _), Nat.sub_self]; rfl)
  have sP : (σ ++ [some (V.ref P)])[ε.length]? = some (some (V.ref P)) := by rw [← rl.len, List.getElem?_append_right (Nat.le_refl _), Nat.sub_self]; rfl
  obtain ⟨o, eo, p, acc, rfl, hacc, racc, gP, h0⟩ := cP
  rw [sP] at eo
  cases eo
  by_cases hl : i < items.length
  · obtain ⟨go, yl⟩ := (wk i G' H' x' r'.ok).1 hl
    refine .inr ⟨go, fun H2 => ∃ G2 dacc2, dacc2.length ≤ i + 1 ∧ Rel c (ε ++ [.own dacc2]) (σ ++ [some (.ref P)]) G2 H2 ∧ Step c G H G2 H2 ∧ Ex G1 G2 ∧ I (i + 1) dacc2, fun H2 n => ⟨m - 1, by omega, by omega, n⟩, fun x H2 hy => ?_⟩
    obtain ⟨G2, s2, d, hd, hr⟩ := yl x H2 hy
    have rw2 : Rel c (wipeE ε vs) (L2.wipe σ vs) G2 H2 := (r'.step s2).init.wipe vs
    refine ho.mono _ _ _ _ _ (fun σ3 H3 q3 => ⟨q3.1.trans (wipe_wipe vs σ), q3.2⟩) (ho.only _ _ _ _ ?_)
    refine hg _ _ G2 H2 x d rw2 hr _ _ (it i d dacc hd hI) fun ε3 σ3 G3 H3 r3 s3 h3 => ?_
    refine ht ε3 σ3 G3 H3 r3 _ _ h3 fun b G4 H4 s4 h4 => ?_
    have s24 : Step c G' H' G4 H4 := (s2.trans s3).trans s4
    cases b with
    | false =>
      refine iteF ⟨G4, dacc, by omega, r'.step s24, s'.trans s24, x'.trans s24.gg, by simpa using h4⟩
    | true =>
      refine iteT ?_
      have h4' : ae ε3 fun y => I (i + 1) (dacc ++ [y]) := by simpa using h4
      refine he ε3 σ3 G4 H4 (r3.step s4) _ _ h4' fun y dy G5 H5 s5 ry h5 => ?_
      have s25 := s24.trans s5
      have r5 := r'.step s25
      have hP5 : H5 P = some (.lst acc) := s25.hh P _ (nM c h0) hacc
      have gP5 : G5 P = none := s25.fr P gP (by rw [hacc]; exact fun z => nomatch z)
      refine ⟨acc, hP5, by rw [racc.length]; omega, G5, dacc ++ [dy], by rw [List.length_append]; simpa using dl, ?_, (s'.trans s25).mutNew hHP gP5 (nM c h0), x'.trans s25.gg, h5⟩
      have key := r5.mut (o := .lst (acc ++ [y])) (x' := .own (dacc ++ [dy])) (i := ε.length) (x := .own dacc) (by rw [List.getElem?_append_right (Nat.le_refl _), Nat.sub_self]; rfl) rfl sP gP5 h0 ⟨P, acc ++ [y], rfl, upd_same, (racc.mono s25.gg).append (.one ry), gP5, h0⟩
      rw [List.set_append_right _ _ (Nat.le_refl _), Nat.sub_self] at key
      exact key
  · have hei : i = items.length := by omega
    subst hei
    refine .inl ⟨(wk _ G' H' x' r'.ok).2 (Nat.le_refl _), ?_⟩
    exact q _ _ (upd G' P (.lst acc)) H' (s'.lay hHP gP hacc) (.lst upd_same (racc.mono (Ex.new gP))) (ie dacc hI)
def atYes : AT := fun _ Q => Q true
theorem at_yes : AbsT c tYes atYes := fun ε σ G H rl Qd Q h q => q true G H (.refl rl.ok) h
end
end Fc

namespace Fc
open PySem L2
/-! ### operations -/
section
variable {K : PySem.W.Frag} {c : Ctx K}
def fI0 (g : Int → Int → D) : A2 := fun x y Q => match x, y with | .int i, .int j => Q (g i j) | _, _ => False
def fI (C : Int → Int → Prop) (g : Int → Int → D) : A2 := fun x y Q => match x, y with | .int i, .int j => C i j ∧ Q (g i j) | _, _ => False
theorem ar_I0i {g : Int → Int → Int} : AbsR2 c (rI0 fun i j => .int (g i j)) (fI0 fun i j => .int (g i j)) := by
  intro G H x y dx dy k rx ry Qd Q h q
  unfold fI0 at h
  split at h
  · cases rx; cases ry; exact ⟨_, _, rfl, rfl, q _ _ G H (.refl k) (.int _) h⟩
  · exact h.elim
theorem ar_I0b {g : Int → Int → Bool} : AbsR2 c (rI0 fun i j => .bl (g i j)) (fI0 fun i j => .bool (g i j)) := by
  intro G H x y dx dy k rx ry Qd Q h q
  unfold fI0 at h
  split at h
  · cases rx; cases ry; exact ⟨_, _, rfl, rfl, q _ _ G H (.refl k) (.bl _) h⟩
  · exact h.elim
theorem ar_I {C : Int → Int → Prop} {g : Int → Int → Int} : AbsR2 c (rI C fun i j => .int (g i j)) (fI C fun i j => .int (g i j)) := by
  intro G H x y dx dy k rx ry Qd Q h q
  unfold fI at h
  split at h
  · cases rx; cases ry; exact ⟨_, _, rfl, rfl, h.1, q _ _ G H (.refl k) (.int _) h.2⟩
  · exact h.elim
abbrev fSub : A2 := fI0 fun i j => .int (i - j)
abbrev fAddI : A2 := fI0 fun i j => .int (i + j)
abbrev fMul : A2 := fI CMul fun i j => .int (i * j)
abbrev fMod : A2 := fI (fun _ j => 0 < j) fun i j => .int (i % j)
abbrev fDiv : A2 := fI CDivW fun i j => .int (i / j)
abbrev fPow : A2 := fI CPow fun i j => .int (i ^ j.toNat)
abbrev fLt : A2 := fI0 fun i j => .bool (decide (i < j))
abbrev fLe : A2 := fI0 fun i j => .bool (decide (i ≤ j))
abbrev fGt : A2 := fI0 fun i j => .bool (decide (j < i))
abbrev fGe : A2 := fI0 fun i j => .bool (decide (j ≤ i))
def fNeg : A1 := fun x Q => match x with | .int i => Q (.int (-i)) | _ => False
theorem ar_neg : AbsR1 c (rU fun i => .int (-i)) fNeg := by
  intro G H x dx k rx Qd Q h q
  unfold fNeg at h
  split at h
  · cases rx; exact ⟨_, rfl, q _ _ G H (.refl k) (.int _) h⟩
  · exact h.elim
/-! + of ints, texts, tuples, lists -/
def rAddP (K : PySem.W.Frag) : R2 := fun x y H Q => rI0 (fun i j => V.int (i + j)) x y H Q ∨ (∃ i j, x = V.str i ∧ y = V.str j ∧ i.length + j.length ≤ sizeLine ∧ Q (V.str (i ++ j)) H) ∨ rCatA K x y H Q ∨ rCat x y H Q
theorem op_addP {X : Cx} : OpR X (binaryOp .Add) (rAddP X.K) := fun pins s σ H x y v u Q I rx ry h => by
  rcases h with h | h | h | h
  · exact op_add pins s σ H x y v u Q I rx ry h
  · exact op_add_str pins s σ H x y v u Q I rx ry h
  · exact op_catA pins s σ H x y v u Q I rx ry h
  · exact op_cat pins s σ H x y v u Q I rx ry h
def fAdd : A2 := fun x y Q => match x, y with
  | .int i, .int j => Q (.int (i + j))
  | .str a, .str b => a.length + b.length ≤ sizeLine ∧ Q (.str (a ++ b))
  | .tuple a, .tuple b => a.length + b.length ≤ sizeLine ∧ Q (.tuple (a ++ b))
  | .list a, .list b => a.length + b.length ≤ sizeLine ∧ Q (.list (a ++ b))
  | _, _ => False
theorem ar_add : AbsR2 c (rAddP K) fAdd := by
  intro G H x y dx dy k rx ry Qd Q h q
  unfold fAdd at h
  split at h
  · cases rx; cases ry; exact .inl ⟨_, _, rfl, rfl, q _ _ G H (.refl k) (.int _) h⟩
  · cases rx; cases ry; exact .inr (.inl ⟨_, _, rfl, rfl, h.1, q _ _ G H (.refl k) (.str _) h.2⟩)
  · cases rx with
    | @tup p xs ds hp hA =>
      cases ry with
      | @tup p2 ys es hp2 hA2 =>
        refine .inr (.inr (.inl ⟨_, _, xs, ys, rfl, rfl, k.ex.sqt hp, k.ex.sqt hp2, by rw [hA.length, hA2.length]; exact h.1, fun e => ?_, fun _ e => ?_, fun _ _ t ht => ?_⟩))
        · subst e; cases hA; exact q _ _ G H (.refl k) (.tup hp2 hA2) (by simpa using h.2)
        · subst e; cases hA2; exact q _ _ G H (.refl k) (.tup hp hA) (by simpa using h.2)
        · have s := Step.new (o := .tup (xs ++ ys)) k ht
          exact q _ _ _ _ s (.tup (SqT.of upd_same) ((hA.append hA2).mono s.gg)) h.2
  · cases rx with
    | @lst p xs ds hp hA =>
      cases ry with
      | @lst p2 ys es hp2 hA2 =>
        refine .inr (.inr (.inr ⟨_, _, xs, ys, rfl, rfl, k.ex _ _ hp, k.ex _ _ hp2, by rw [hA.length, hA2.length]; exact h.1, fun t ht => ?_⟩))
        have s := Step.new (o := .lst (xs ++ ys)) k ht
        exact q _ _ _ _ s (.lst upd_same ((hA.append hA2).mono s.gg)) h.2
  · exact h.elim
/-! x[i] -/
theorem at_get {G : Hp} {vs : List V} {ds : List D} {i : Int} {d : D} (h : RvA K G vs ds) (e : atI ds i = some d) : ∃ v, atI vs i = some v ∧ Rv K G v d := by
  unfold atI at e ⊢
  rw [h.length]
  cases q : ixN ds.length i with
  | none => rw [q] at e; cases e
  | some j =>
    rw [q] at e
    obtain ⟨v, h1, h2⟩ := h.get (show ds[j]? = some d from e)
    exact ⟨v, h1, h2⟩
def fIx : A2 := fun x y Q => match x, y with
  | .list xs, .int i => (match atI xs i with | some d => Q d | none => False)
  | .tuple xs, .int i => (match atI xs i with | some d => Q d | none => False)
  | .str z, .int i => z.length ≤ sizeLine ∧ (match atI z.cps.toList i with | some k => Q (.str ⟨#[k]⟩) | none => False)
  | _, _ => False
theorem ar_ix : AbsR2 c (rIx K) fIx := by
  intro G H x y dx dy k rx ry Qd Q h q
  unfold fIx at h
  split at h
  · cases ry
    cases rx with
    | @lst p xs ds hp hA =>
      split at h
      · rename_i d hd
        obtain ⟨v, h1, h2⟩ := at_get hA hd
        exact .inl ⟨_, xs, _, v, rfl, rfl, SqL.of (k.ex _ _ hp), h1, q _ _ G H (.refl k) h2 h⟩
      · exact h.elim
  · cases ry
    cases rx with
    | @tup p xs ds hp hA =>
      split at h
      · rename_i d hd
        obtain ⟨v, h1, h2⟩ := at_get hA hd
        exact .inr (.inl ⟨_, xs, _, v, rfl, rfl, k.ex.sqt hp, h1, q _ _ G H (.refl k) h2 h⟩)
      · exact h.elim
  · cases ry
    cases rx
    obtain ⟨hl, h⟩ := h
    split at h
    · rename_i z _ e hd
      exact .inr (.inr ⟨_, _, _, rfl, rfl, hl, hd, q _ _ G H (.refl k) (.str _) h⟩)
    · exact h.elim
  · exact h.elim
/-! x[a:b] -/
abbrev AO := En → (Option Int → Prop) → Prop
def AbsO (c : Ctx K) (t : TO) (a : AO) : Prop := ∀ ε σ G H, Rel c ε σ G H → ∀ (Qd : Option Int → Prop) (Q : Option Int → Hp → Prop), a ε Qd → (∀ o G' H', Step c G H G' H' → Qd o → Q o H') → t σ H Q
def aoNo : AO := fun _ Q => Q none
theorem ao_no : AbsO c tNoPart aoNo := fun ε σ G H rl Qd Q h q => q none G H (.refl rl.ok) h
def aoSome (a : AE) : AO := fun ε Q => a ε fun d => match d with | .int i => Q (some i) | _ => False
theorem ao_some {te : TE} {a : AE} (ha : AbsE c te a) : AbsO c (tPart te) (aoSome a) := by
  intro ε σ G H rl Qd Q h q
  refine ha ε σ G H rl _ _ h fun x dx G1 H1 s1 r1 h1 => ?_
  cases r1 with
  | int i => exact ⟨i, rfl, q _ G1 H1 s1 h1⟩
  | _ => exact h1.elim
def cut {α : Type} (xs : List α) (lo hi : Option Int) : List α := (xs.drop (HT.sIx xs.length 0 lo)).take (HT.sIx xs.length xs.length hi - HT.sIx xs.length 0 lo)
theorem cut_rv {G : Hp} {vs : List V} {ds : List D} (h : RvA K G vs ds) (lo hi : Option Int) : RvA K G (cutV vs lo hi) (cut ds lo hi) := by
  unfold cutV cut
  rw [h.length]
  exact (h.drop _).take _
theorem cut_whole {α : Type} (xs : List α) {lo hi : Option Int} (h : HT.sIx xs.length 0 lo = 0 ∧ HT.sIx xs.length xs.length hi = xs.length) : cut xs lo hi = xs := by
  unfold cut
  rw [h.1, h.2, List.drop_zero, Nat.sub_zero, List.take_length]
def rSlP (K : PySem.W.Frag) : V → Option Int → Option Int → Hp → VK → Prop := fun x lo hi H Q => rSlA K x lo hi H Q ∨ rSlL K x lo hi H Q ∨ rSlS x lo hi H Q
theorem sl_P {X : Cx} : SlR X (rSlP X.K) := fun pins s σ H x v vl vu lo hi sl Q I rx a b d h => by
  rcases h with h | h | h
  · exact sl_tupA pins s σ H x v vl vu lo hi sl Q I rx a b d h
  · exact sl_list pins s σ H x v vl vu lo hi sl Q I rx a b d h
  · exact sl_str pins s σ H x v vl vu lo hi sl Q I rx a b d h
def fSl (x : D) (lo hi : Option Int) (Q : D → Prop) : Prop := match x with
  | .tuple xs => Q (.tuple (cut xs lo hi))
  | .list xs => Q (.list (cut xs lo hi))
  | .str z => z.length ≤ sizeLine ∧ Q (.str (cutS z lo hi))
  | _ => False
def aSl (a : AE) (lo hi : AO) : AE := fun ε Q => a ε fun x => lo ε fun l => hi ε fun u => fSl x l u Q
theorem ae_sl {te : TE} {tl th : TO} {a : AE} {al ah : AO} (ha : AbsE c te a) (hl : AbsO c tl al) (hh : AbsO c th ah) : AbsE c (tSl (rSlP K) te tl th) (aSl a al ah) := by
  intro ε σ G H rl Qd Q h q
  refine ha ε σ G H rl _ _ h fun x dx G1 H1 s1 r1 h1 => ?_
  refine hl ε σ G1 H1 (rl.step s1) _ _ h1 fun lo G2 H2 s2 h2 => ?_
  refine hh ε σ G2 H2 ((rl.step s1).step s2) _ _ h2 fun hi G3 H3 s3 h3 => ?_
  have k := (((rl.step s1).step s2).step s3).ok
  have s := (s1.trans s2).trans s3
  have r3 := r1.mono (s2.trans s3).gg
  unfold fSl at h3
  split at h3
  · cases r3 with
    | @tup p xs ds hp hA =>
      refine .inl ⟨p, xs, rfl, k.ex.sqt hp, fun e => ?_, fun _ t ht => ?_⟩
      · rw [hA.length] at e
        rw [cut_whole _ e] at h3
        exact q _ _ G3 H3 s (.tup hp hA) h3
      · have s4 := Step.new (o := .tup (cutV xs lo hi)) k ht
        exact q _ _ _ _ (s.trans s4) (.tup (SqT.of upd_same) ((cut_rv hA lo hi).mono s4.gg)) h3
  · cases r3 with
    | @lst p xs ds hp hA =>
      refine .inr (.inl ⟨p, xs, rfl, SqL.of (k.ex _ _ hp), fun t ht => ?_⟩)
      have s4 := Step.new (o := .lst (cutV xs lo hi)) k ht
      exact q _ _ _ _ (s.trans s4) (.lst upd_same ((cut_rv hA lo hi).mono s4.gg)) h3
  · cases r3
    exact .inr (.inr ⟨_, rfl, h3.1, q _ _ G3 H3 s (.str _) h3.2⟩)
  · exact h3.elim
/-! len, list, tuple, all, int -/
def fLen : AC := fun ds Q => match ds with
  | [.str x] => x.length ≤ sizeLine ∧ Q (.int (x.length : Nat))
  | [.list xs] => Q (.int (xs.length : Nat))
  | [.tuple xs] => Q (.int (xs.length : Nat))
  | _ => False
theorem ac_len : AbsC c (fun xs H Q => ∃ x n, xs = [x] ∧ LenV K x H n ∧ Q (V.int ↑n) H) fLen := by
  intro G H xs ds k rx Qd Q h q
  unfold fLen at h
  split at h
  · cases rx with
    | cons a b => cases b; cases a; exact ⟨_, _, rfl, ⟨h.1, rfl⟩, q _ _ G H (.refl k) (.int _) h.2⟩
  · cases rx with
    | cons a b =>
      cases b
      cases a with
      | @lst p us _ hp hA =>
        refine ⟨_, _, rfl, .inl ⟨us, SqL.of (k.ex _ _ hp), rfl⟩, q _ _ G H (.refl k) (.int _) ?_⟩
        rw [hA.length]; exact h
  · cases rx with
    | cons a b =>
      cases b
      cases a with
      | @tup p us _ hp hA =>
        refine ⟨_, _, rfl, .inr ⟨us, k.ex.sqt hp, rfl⟩, q _ _ G H (.refl k) (.int _) ?_⟩
        rw [hA.length]; exact h
  · exact h.elim
def fTuple : AC := fun ds Q => match ds with
  | [.list xs] => Q (.tuple xs)
  | [.tuple xs] => Q (.tuple xs)
  | _ => False
theorem ac_tuple : AbsC c (fun xs H Q => ∃ p ys, xs = [V.ref p] ∧ ((SqL K H p ys ∧ ∀ l, H l = none → Q (V.ref l) (upd H l (HO.tup ys))) ∨ SqT K H p ys ∧ Q (V.ref p) H)) fTuple := by
  intro G H xs ds k rx Qd Q h q
  unfold fTuple at h
  split at h
  · cases rx with
    | cons a b =>
      cases b
      cases a with
      | @lst p us _ hp hA =>
        refine ⟨p, us, rfl, .inl ⟨SqL.of (k.ex _ _ hp), fun t ht => ?_⟩⟩
        have s4 := Step.new (o := .tup us) k ht
        exact q _ _ _ _ s4 (.tup (SqT.of upd_same) (hA.mono s4.gg)) h
  · cases rx with
    | cons a b =>
      cases b
      cases a with
      | @tup p us _ hp hA => exact ⟨p, us, rfl, .inr ⟨k.ex.sqt hp, q _ _ G H (.refl k) (.tup hp hA) h⟩⟩
  · exact h.elim
def fList : AC := fun ds Q => match ds with
  | [.list xs] => Q (.list xs)
  | [.tuple xs] => Q (.list xs)
  | _ => False
theorem ac_list : AbsC c (fun xs H Q => ∃ p ys, xs = [V.ref p] ∧ (SqL K H p ys ∨ SqT K H p ys) ∧ ∀ l, H l = none → Q (V.ref l) (upd H l (HO.lst ys))) fList := by
  intro G H xs ds k rx Qd Q h q
  unfold fList at h
  split at h
  · cases rx with
    | cons a b =>
      cases b
      cases a with
      | @lst p us _ hp hA =>
        refine ⟨p, us, rfl, .inl (SqL.of (k.ex _ _ hp)), fun t ht => ?_⟩
        have s4 := Step.new (o := .lst us) k ht
        exact q _ _ _ _ s4 (.lst upd_same (hA.mono s4.gg)) h
  · cases rx with
    | cons a b =>
      cases b
      cases a with
      | @tup p us _ hp hA =>
        refine ⟨p, us, rfl, .inr (k.ex.sqt hp), fun t ht => ?_⟩
        have s4 := Step.new (o := .lst us) k ht
        exact q _ _ _ _ s4 (.lst upd_same (hA.mono s4.gg)) h
  · exact h.elim
def fAll : AC := fun ds Q => match ds with
  | [.list xs] => ∃ bs : List Bool, xs = bs.map PyData.bool ∧ Q (.bool (bs.all id))
  | _ => False
theorem ac_all : AbsC c (rAll K) fAll := by
  intro G H xs ds k rx Qd Q h q
  unfold fAll at h
  split at h
  · obtain ⟨bs, rfl, h⟩ := h
    cases rx with
    | cons a b =>
      cases b
      cases a with
      | @lst p us _ hp hA =>
        have e := hA.bools
        subst e
        exact ⟨p, bs, rfl, SqL.of (k.ex _ _ hp), q _ _ G H (.refl k) (.bl _) h⟩
  · exact h.elim
def fInt : AC := fun ds Q => match ds with
  | [.int i] => Q (.int i)
  | [.bool b] => Q (.int (if b = true then 1 else 0))
  | _ => False
theorem ac_int : AbsC c (fun xs H Q => (∃ i, xs = [V.int i] ∧ Q (V.int i) H) ∨ ∃ k, xs = [V.bl k] ∧ Q (V.int (if k = true then 1 else 0)) H) fInt := by
  intro G H xs ds k rx Qd Q h q
  unfold fInt at h
  split at h
  · cases rx with
    | cons a b => cases b; cases a; exact .inl ⟨_, rfl, q _ _ G H (.refl k) (.int _) h⟩
  · cases rx with
    | cons a b => cases b; cases a; exact .inr ⟨_, rfl, q _ _ G H (.refl k) (.int _) h⟩
  · exact h.elim
def fMax2 : AC := fun ds Q => match ds with | [.int i, .int j] => Q (.int (if j > i then j else i)) | _ => False
def fMin2 : AC := fun ds Q => match ds with | [.int i, .int j] => Q (.int (if j < i then j else i)) | _ => False
theorem ac_max2 : AbsC c (fun xs H Q => ∃ i j, xs = [V.int i, V.int j] ∧ Q (V.int (if j > i then j else i)) H) fMax2 := by
  intro G H xs ds k rx Qd Q h q
  unfold fMax2 at h
  split at h
  · cases rx with
    | cons a b =>
      cases a
      cases b with
      | cons a b => cases a; cases b; exact ⟨_, _, rfl, q _ _ G H (.refl k) (.int _) h⟩
  · exact h.elim
theorem ac_min2 : AbsC c (fun xs H Q => ∃ i j, xs = [V.int i, V.int j] ∧ Q (V.int (if j < i then j else i)) H) fMin2 := by
  intro G H xs ds k rx Qd Q h q
  unfold fMin2 at h
  split at h
  · cases rx with
    | cons a b =>
      cases a
      cases b with
      | cons a b => cases a; cases b; exact ⟨_, _, rfl, q _ _ G H (.refl k) (.int _) h⟩
  · exact h.elim
/-! ==, != -/
def scalD : D → D → Bool
  | .none, .none => true | .none, .int _ => true | .int _, .none => true | .none, .bool _ => true | .bool _, .none => true | .none, .str _ => true | .str _, .none => true
  | .int _, .int _ => true | .bool _, .bool _ => true | .str _, .str _ => true
  | .int _, .str _ => true | .str _, .int _ => true | .bool _, .str _ => true | .str _, .bool _ => true
  | _, _ => false
def eqS : D → D → Bool
  | .none, .none => true
  | .int i, .int j => decide (i = j)
  | .bool i, .bool j => decide (i = j)
  | .str i, .str j => decide (i = j)
  | _, _ => false
def fEq : A2 := fun x y Q => (scalD x y = true ∧ Q (.bool (eqS x y))) ∨ (SeqAt.shaped x = true ∧ SeqAt.shaped y = true ∧ Q (.bool (PyData.eqv x y)))
def fNe : A2 := fun x y Q => (scalD x y = true ∧ Q (.bool (!eqS x y))) ∨ (SeqAt.shaped x = true ∧ SeqAt.shaped y = true ∧ Q (.bool (!PyData.eqv x y)))
theorem scal_of {G : Hp} {x y : V} {dx dy : D} (rx : Rv K G x dx) (ry : Rv K G y dy) (h : scalD dx dy = true) : scal x y = true ∧ decide (x = y) = eqS dx dy := by
  cases rx <;> cases ry <;> first | (exact ⟨rfl, rfl⟩) | (refine ⟨rfl, ?_⟩; simp [eqS]) | (simp [scalD] at h)
def rEqP (K : PySem.W.Frag) : R2 := fun x y H Q => rEq x y H Q ∨ rEqD K x y H Q
def rNeP (K : PySem.W.Frag) : R2 := fun x y H Q => rNe x y H Q ∨ rNeD K x y H Q
theorem op_eqP {X : Cx} (hu : X.A.units + 64 < cLine) : OpR X (compareOp .Eq) (rEqP X.K) := fun pins s σ H x y v u Q I rx ry h => by
  rcases h with h | h
  · exact op_eq pins s σ H x y v u Q I rx ry h
  · exact op_eqD hu pins s σ H x y v u Q I rx ry h
theorem op_neP {X : Cx} (hu : X.A.units + 64 < cLine) : OpR X (compareOp .NotEq) (rNeP X.K) := fun pins s σ H x y v u Q I rx ry h => by
  rcases h with h | h
  · exact op_ne pins s σ H x y v u Q I rx ry h
  · exact op_neD hu pins s σ H x y v u Q I rx ry h
theorem ar_eq : AbsR2 c (rEqP K) fEq := by
  intro G H x y dx dy k rx ry Qd Q h q
  rcases h with ⟨hs, h⟩ | ⟨h1, h2, h⟩
  · obtain ⟨e1, e2⟩ := scal_of rx ry hs
    exact .inl ⟨e1, q _ _ G H (.refl k) (.bl _) (by rw [e2]; exact h)⟩
  · exact .inr ⟨dx, dy, (rx.mono k.ex).dp (SeqAt.canLay_of_shaped h1), (ry.mono k.ex).dp (SeqAt.canLay_of_shaped h2), h1, h2, q _ _ G H (.refl k) (.bl _) h⟩
theorem ar_ne : AbsR2 c (rNeP K) fNe := by
  intro G H x y dx dy k rx ry Qd Q h q
  rcases h with ⟨hs, h⟩ | ⟨h1, h2, h⟩
  · obtain ⟨e1, e2⟩ := scal_of rx ry hs
    exact .inl ⟨e1, q _ _ G H (.refl k) (.bl _) (by rw [e2]; exact h)⟩
  · exact .inr ⟨dx, dy, (rx.mono k.ex).dp (SeqAt.canLay_of_shaped h1), (ry.mono k.ex).dp (SeqAt.canLay_of_shaped h2), h1, h2, q _ _ G H (.refl k) (.bl _) h⟩
/-! a < b < c -/
def aChain (f g : A2) (a b d : AE) : AE := fun ε Q => a ε fun x => b ε fun y => f x y fun z => match z with | .bool k => (if k = true then d ε fun w => g y w Q else Q (.bool false)) | _ => False
theorem ae_chain {r r' : R2} {f g : A2} {ta tb tc : TE} {a b d : AE} (ho : AbsR2 c r f) (ho' : AbsR2 c r' g) (ha : AbsE c ta a) (hb : AbsE c tb b) (hd : AbsE c tc d) : AbsE c (tChain r r' ta tb tc) (aChain f g a b d) := by
  intro ε σ G H rl Qd Q h q
  refine ha ε σ G H rl _ _ h fun x dx G1 H1 s1 r1 h1 => ?_
  refine hb ε σ G1 H1 (rl.step s1) _ _ h1 fun y dy G2 H2 s2 r2 h2 => ?_
  have rl2 := (rl.step s1).step s2
  refine ho G2 H2 x y dx dy rl2.ok (r1.mono s2.gg) r2 _ _ h2 fun z dz G3 H3 s3 r3 h3 => ?_
  cases r3 with
  | bl k =>
    refine ⟨k, rfl, ?_⟩
    cases k with
    | false => exact iteF (q _ _ G3 H3 ((s1.trans s2).trans s3) (.bl false) (by simpa using h3))
    | true =>
      refine iteT ?_
      have h3' : d ε fun w => g dy w Qd := by simpa using h3
      refine hd ε σ G3 H3 (rl2.step s3) _ _ h3' fun w dw G4 H4 s4 r4 h4 => ?_
      exact ho' G4 H4 y w dy dw ((rl2.step s3).step s4).ok (r2.mono (s3.trans s4).gg) r4 _ _ h4 fun v d G5 H5 s5 r5 h5 => q v d G5 H5 ((((s1.trans s2).trans s3).trans s4).trans s5) r5 h5
  | _ => exact h3.elim
/-! truth -/
def truD : D → Bool
  | .none => false
  | .bool b => b
  | .int i => i != 0
  | .str y => (y.length : Int) != 0
  | .list xs => !xs.isEmpty
  | .tuple xs => !xs.isEmpty
  | .dict _ => false
def truOk : D → Prop
  | .str y => y.length ≤ sizeLine
  | .dict _ => False
  | _ => True
theorem tru_of {G H : Hp} {x : V} {d : D} (e : Ex G H) (r : Rv K G x d) (h : truOk d) : TruV K x H (truD d) := by
  cases r with
  | non => rfl
  | bl b => rfl
  | int i => rfl
  | str y => exact ⟨h, rfl⟩
  | @lst p xs ds hp hA =>
    refine .inl ⟨xs, SqL.of (e _ _ hp), ?_⟩
    cases hA <;> rfl
  | @tup p xs ds hp hA =>
    refine .inr (.inl ⟨xs, e.sqt hp, ?_⟩)
    cases hA <;> rfl
  | dic => exact h.elim
  | pl => exact h.elim
def aOrT (a b : AE) : AE := fun ε Q => a ε fun d => truOk d ∧ if truD d = true then Q d else b ε Q
theorem ae_orT {ta tb : TE} {a b : AE} (ha : AbsE c ta a) (hb : AbsE c tb b) : AbsE c (tOrT K ta tb) (aOrT a b) := by
  intro ε σ G H rl Qd Q h q
  refine ha ε σ G H rl _ _ h fun x dx G1 H1 s1 r1 h1 => ⟨truD dx, tru_of (rl.step s1).ok.ex r1 h1.1, ?_⟩
  have h2 := h1.2
  cases e : truD dx with
  | true => rw [e, if_pos rfl] at h2; exact iteT (q _ _ G1 H1 s1 r1 h2)
  | false => rw [e, if_neg Bool.false_ne_true] at h2; exact iteF (hb ε σ G1 H1 (rl.step s1) _ _ h2 fun v d G2 H2 s2 r2 h2 => q v d G2 H2 (s1.trans s2) r2 h2)
def aTru (a : AE) : AT := fun ε Q => a ε fun d => truOk d ∧ Q (truD d)
theorem at_tru {ta : TE} {a : AE} (ha : AbsE c ta a) : AbsT c (fun σ H Q => ta σ H fun x H' => ∃ k, TruV K x H' k ∧ Q k H') (aTru a) := by
  intro ε σ G H rl Qd Q h q
  exact ha ε σ G H rl _ _ h fun x dx G1 H1 s1 r1 h1 => ⟨truD dx, tru_of (rl.step s1).ok.ex r1 h1.1, q _ G1 H1 s1 h1.2⟩
/-! is None -/
def isN : D → Bool | .none => true | _ => false
def fIsN : A2 := fun x y Q => match y with | .none => Q (.bool (isN x)) | _ => False
def fNotN : A2 := fun x y Q => match y with | .none => Q (.bool (!isN x)) | _ => False
theorem isN_of {G : Hp} {x : V} {d : D} (r : Rv K G x d) : decide (x = .non) = isN d := by cases r <;> first | rfl | exact decide_eq_false (fun z => nomatch z)
theorem ar_isN : AbsR2 c (fun x y H Q => y = V.non ∧ Q (V.bl (decide (x = V.non))) H) fIsN := by
  intro G H x y dx dy k rx ry Qd Q h q
  cases ry with
  | non => exact ⟨rfl, by rw [isN_of rx]; exact q _ _ G H (.refl k) (.bl _) h⟩
  | _ => exact h.elim
theorem ar_notN : AbsR2 c (fun x y H Q => y = V.non ∧ Q (V.bl (!decide (x = V.non))) H) fNotN := by
  intro G H x y dx dy k rx ry Qd Q h q
  cases ry with
  | non => exact ⟨rfl, by rw [isN_of rx]; exact q _ _ G H (.refl k) (.bl _) h⟩
  | _ => exact h.elim
/-! isinstance(x, T), T a built-in class -/
def tyD : D → String
  | .none => "NoneType" | .bool _ => "bool" | .int _ => "int" | .str _ => "str" | .list _ => "list" | .tuple _ => "tuple" | .dict ((.none, _) :: _) => "tuple" | .dict _ => "dict"
theorem ty_of {G H : Hp} {x : V} {d : D} (e : Ex G H) (r : Rv K G x d) : TyX K H x (.type (tyD d)) := by
  cases r with
  | non => exact .base .non
  | bl b => exact .base (.bl b)
  | int i => exact .base (.int i)
  | str y => exact .base (.str y)
  | @lst p xs ds hp hA => exact .base (.lst (e _ _ hp))
  | @tup p xs ds hp hA =>
    rcases hp with (h | ⟨o, h⟩) | ⟨o, its, n, h1, h2, _⟩
    · exact .base (.tup (e _ _ h))
    · exact .fTuple (e _ _ h)
    · exact .kTuple h1 h2
  | @dic p kvs kds hp =>
    have ht : tyD (.dict (kds.map fun p => (kD p.1, p.2))) = "dict" := by
      cases kds with
      | nil => rfl
      | cons a r => obtain ⟨k, y⟩ := a; cases k <;> rfl
    rw [ht]; exact .base (.dK (e _ _ hp))
  | pl hp => exact .fTuple (e _ _ hp)
def aIsi (T : String) (a : AE) : AE := fun ε Q => a ε fun d => ∃ b, kitB (tyD d) T = some b ∧ Q (.bool b)
theorem ae_isi {T : String} {ta : TE} {a : AE} (ha : AbsE c ta a) : AbsE c (tCB (rIsi K) (tCons ta (tCons (tC (.ty T)) tNil))) (aIsi T a) := by
  intro ε σ G H rl Qd Q h q
  refine ha ε σ G H rl _ _ h fun x dx G1 H1 s1 r1 h1 => ?_
  obtain ⟨b, hb, h1⟩ := h1
  exact ⟨x, .ty T, _, _, b, rfl, .ty T, ty_of (rl.step s1).ok.ex r1, kit_ty hb, q _ _ G1 H1 s1 (.bl b) h1⟩
end
/-! ### methods of texts -/
section
variable {K : PySem.W.Frag} {c : Ctx K} {to te : TE} {a b : AE}
abbrev AM1 := Str → D → (D → Prop) → Prop
abbrev AM0 := Str → (D → Prop) → Prop
def AbsM1 (c : Ctx K) (r : V → List V → Hp → VK → Prop) (f : AM1) : Prop := ∀ G H u y dy, Ok c G H → Rv K G y dy → ∀ (Qd : D → Prop) (Q : VK), f u dy Qd → (∀ v d G' H', Step c G H G' H' → Rv K G' v d → Qd d → Q v H') → r (.str u) [y] H Q
def AbsM0 (c : Ctx K) (r : V → List V → Hp → VK → Prop) (f : AM0) : Prop := ∀ G H u, Ok c G H → ∀ (Qd : D → Prop) (Q : VK), f u Qd → (∀ v d G' H', Step c G H G' H' → Rv K G' v d → Qd d → Q v H') → r (.str u) [] H Q
def aM1 (f : AM1) (a b : AE) : AE := fun ε Q => a ε fun x => match x with | .str u => b ε fun y => f u y Q | _ => False
def aM0 (f : AM0) (a : AE) : AE := fun ε Q => a ε fun x => match x with | .str u => f u Q | _ => False
theorem ae_m1 {r : V → List V → Hp → VK → Prop} {f : AM1} (ho : AbsM1 c r f) (ha : AbsE c to a) (hb : AbsE c te b) : AbsE c (tM1 r to te) (aM1 f a b) := by
  intro ε σ G H rl Qd Q h q
  refine ha ε σ G H rl _ _ h fun x dx G1 H1 s1 r1 h1 => ?_
  cases r1 with
  | str u =>
    refine ⟨⟨u, rfl⟩, ?_⟩
    refine hb ε σ G1 H1 (rl.step s1) _ _ h1 fun y dy G2 H2 s2 r2 h2 => ?_
    exact ho G2 H2 u y dy ((rl.step s1).step s2).ok r2 _ _ h2 fun v d G3 H3 s3 r3 h3 => q v d G3 H3 ((s1.trans s2).trans s3) r3 h3
  | _ => exact h1.elim
theorem ae_m0 {r : V → List V → Hp → VK → Prop} {f : AM0} (ho : AbsM0 c r f) (ha : AbsE c to a) : AbsE c (tM0 r to) (aM0 f a) := by
  intro ε σ G H rl Qd Q h q
  refine ha ε σ G H rl _ _ h fun x dx G1 H1 s1 r1 h1 => ?_
  cases r1 with
  | str u => exact ⟨⟨u, rfl⟩, ho G1 H1 u (rl.step s1).ok _ _ h1 fun v d G3 H3 s3 r3 h3 => q v d G3 H3 (s1.trans s3) r3 h3⟩
  | _ => exact h1.elim
def fStrip : AM1 := fun u y Q => match y with | .str v => u.length ≤ sizeLine ∧ Q (.str (Txt.stripChars u v)) | _ => False
theorem am_strip : AbsM1 c (fun x xs H Q => ∃ a b, x = V.str a ∧ xs = [V.str b] ∧ a.length ≤ sizeLine ∧ Q (V.str (Txt.stripChars a b)) H) fStrip := by
  intro G H u y dy k ry Qd Q h q
  cases ry with
  | str v => exact ⟨u, v, rfl, rfl, h.1, q _ _ G H (.refl k) (.str _) h.2⟩
  | _ => exact h.elim
def fJoin : AM1 := fun u y Q => ∃ ys : List Str, (y = .list (ys.map PyData.str) ∨ y = .tuple (ys.map PyData.str)) ∧ (ys.map (·.length)).sum + ys.length * u.length ≤ 16777216 ∧ Q (.str (Txt.join u ys))
theorem am_join : AbsM1 c (fun x xs H Q => ∃ a p ys, x = V.str a ∧ xs = [V.ref p] ∧ (SqL K H p (List.map V.str ys) ∨ SqT K H p (List.map V.str ys)) ∧ (List.map (fun x => x.length) ys).sum + ys.length * a.length ≤ 16777216 ∧ Q (V.str (Txt.join a ys)) H) fJoin := by
  intro G H u y dy k ry Qd Q h q
  obtain ⟨ys, h1, h2, h3⟩ := h
  rcases h1 with rfl | rfl
  · cases ry with
    | @lst p us _ hp hA =>
      have e := hA.strs
      subst e
      exact ⟨u, p, ys, rfl, rfl, .inl (SqL.of (k.ex _ _ hp)), h2, q _ _ G H (.refl k) (.str _) h3⟩
  · cases ry with
    | @tup p us _ hp hA =>
      have e := hA.strs
      subst e
      exact ⟨u, p, ys, rfl, rfl, .inr (k.ex.sqt hp), h2, q _ _ G H (.refl k) (.str _) h3⟩
end
/-! ### a def's promise, by data -/
abbrev Ds := List D → (D → Prop) → Prop
/-- a def that changes nothing -/
def spP (K : PySem.W.Frag) (f : Ds) : Sp := fun vs H Q _ => ∃ G ds, Ex G H ∧ RvA K G vs ds ∧ ∃ Qd : D → Prop, f ds Qd ∧ ∀ v d G' H', PStep G H G' H' → Rv K G' v d → Qd d → Q v H'
/-- a def that draws from the tape, its first argument -/
def spT (K : PySem.W.Frag) (f : Ds) : Sp := fun vs H Q _ => ∃ t l ns G us ds, vs = .ref t :: us ∧ Ex G H ∧ G t = none ∧ G l = none ∧ TapeAt t l ns H ∧ RvA K G us ds ∧ ∃ Qd : D → Prop, f ds Qd ∧ ∀ v d G' H', TStep t l ns G H G' H' → Rv K G' v d → Qd d → Q v H'
section
variable {K : PySem.W.Frag} {c : Ctx K}
theorem ae_callP {f : Ds} {dvs : List V} {dds : List D} {E : XK} {tr : TA} {ar : AA} (hd : ∀ G, RvA K G dvs dds) (hr : AbsA c tr ar) : AbsE c (tCall (spP K f) dvs E tr) (aCall (fun ds Q => f (ds ++ dds) Q) ar) := by
  intro ε σ G H rl Qd Q h q
  refine hr ε σ G H rl _ _ h fun vs ds G1 H1 s1 r1 h1 => ?_
  have k := (rl.step s1).ok
  exact ⟨G1, ds ++ dds, k.ex, r1.append (hd G1), Qd, h1, fun v d G' H' s r2 h2 => q v d G' H' (s1.trans (s.to k)) r2 h2⟩
theorem ae_callP0 {f : Ds} {E : XK} {tr : TA} {ar : AA} (hr : AbsA c tr ar) : AbsE c (tCall (spP K f) [] E tr) (aCall f ar) := by
  intro ε σ G H rl Qd Q h q
  refine hr ε σ G H rl _ _ h fun vs ds G1 H1 s1 r1 h1 => ?_
  have k := (rl.step s1).ok
  rw [List.append_nil]
  exact ⟨G1, ds, k.ex, r1, Qd, h1, fun v d G' H' s r2 h2 => q v d G' H' (s1.trans (s.to k)) r2 h2⟩
def aCallT (f : Ds) (i : Nat) (r : AA) : AE := fun ε Q => match ε[i]? with | some .tape => r ε fun xs => f xs Q | _ => False
theorem ae_callT {f : Ds} {E : XK} {i : Nat} {tr : TA} {ar : AA} (hr : AbsA c tr ar) : AbsE c (tCall (spT K f) [] E (tCons (tVar i) tr)) (aCallT f i ar) := by
  intro ε σ G H rl Qd Q h q
  unfold aCallT at h
  split at h
  · rename_i hi
    obtain ⟨o, ho, t, l, ns, htp, rfl⟩ := rl.cell i _ hi
    refine ⟨.ref t, ho, ?_⟩
    refine hr ε σ G H rl _ _ h fun vs ds G1 H1 s1 r1 h1 => ?_
    have k := (rl.step s1).ok
    obtain ⟨m1, m2, h2, _⟩ := c.tpIn t l ns htp
    show spT K f ((V.ref t :: vs) ++ []) H1 Q E
    rw [List.append_nil]
    exact ⟨t, l, ns, G1, vs, ds, rfl, k.ex, k.gm t m1, k.gm l m2, h2 H1 k.r, r1, Qd, h1, fun v d G' H' s r2 h2 => q v d G' H' (s1.trans (s.to htp k)) r2 h2⟩
  · exact h.elim
def Ctx.pure (K : PySem.W.Frag) {G H : Hp} (e : Ex G H) : Ctx K where
  M := fun _ => False
  R := fun _ => True
  tp := none
  G0 := G
  H0 := H
  dom := fun _ _ _ h => h.elim
  loc := fun _ _ _ _ => trivial
  ex0 := e
  gm0 := fun _ h => h.elim
  r0 := trivial
  tpIn := fun _ _ _ h => nomatch h
def Ctx.tape (K : PySem.W.Frag) {G H : Hp} {t l : Addr} {ns : List Int} (e : Ex G H) (gt : G t = none) (gl : G l = none) (T : TapeAt t l ns H) : Ctx K where
  M := fun b => b = t ∨ b = l
  R := TapeAt t l ns
  tp := some (t, l, ns)
  G0 := G
  H0 := H
  dom := fun H b R m => by
    obtain ⟨ne, hl, i, j, h0, h1, ht⟩ := R
    rcases m with rfl | rfl
    · rw [ht]; exact fun z => nomatch z
    · rw [hl]; exact fun z => nomatch z
  loc := fun H H' R e => by
    obtain ⟨ne, hl, i, j, h0, h1, ht⟩ := R
    exact ⟨ne, by rw [e l (.inr rfl)]; exact hl, i, j, h0, h1, by rw [e t (.inl rfl)]; exact ht⟩
  ex0 := e
  gm0 := fun b m => by rcases m with rfl | rfl <;> assumption
  r0 := T
  tpIn := fun t' l' ns' e => by
    cases e
    exact ⟨.inl rfl, .inr rfl, fun _ h => h, fun _ _ _ h _ => h⟩
def startE (n : Nat) (cs : List Cell) : En := cs ++ List.replicate (n - cs.length) .un
theorem rel_start {c : Ctx K} {N : List Str} {vs : List V} {cs : List Cell} (hl : vs.length = cs.length) (h : ∀ (i : Nat) (x : Cell), cs[i]? = some x → ∃ v, vs[i]? = some v ∧ CellOk c c.G0 c.H0 (some v) x ∧ x.isOwn = false) : Rel c (startE N.length cs) (L2.start N vs) c.G0 c.H0 := by
  have own : ∀ (i : Nat) (x : Cell), (startE N.length cs)[i]? = some x → x.isOwn = false := fun i x e => by
    unfold startE at e
    by_cases hi : i < cs.length
    · rw [List.getElem?_append_left hi] at e
      obtain ⟨_, _, _, h3⟩ := h i x e
      exact h3
    · rw [List.getElem?_append_right (by omega), List.getElem?_replicate] at e
      split at e
      · cases e; rfl
      · cases e
  refine ⟨.refl (.zero c), ?_, fun i x e => ?_, fun i j x y p ex ey ox oy _ _ => ?_⟩
  · unfold startE L2.start
    rw [List.length_append, List.length_append, List.length_map, List.length_replicate, List.length_replicate, hl]
  · unfold startE at e
    unfold L2.start
    by_cases hi : i < cs.length
    · rw [List.getElem?_append_left hi] at e
      obtain ⟨v, h1, h2, _⟩ := h i x e
      exact ⟨some v, by rw [List.getElem?_append_left (by rw [List.length_map, hl]; exact hi), List.getElem?_map, h1]; rfl, h2⟩
    · rw [List.getElem?_append_right (by omega), List.getElem?_replicate] at e
      rw [List.getElem?_append_right (by rw [List.length_map, hl]; omega), List.length_map, hl, List.getElem?_replicate]
      split at e
      · cases e
        rename_i hlt
        exact ⟨none, by rw [if_pos hlt], trivial⟩
      · cases e
  · rw [own i x ex] at ox; cases ox
theorem body_pure {N : List Str} {vs : List V} {H : Hp} {Q : VK} {E : XK} {f : Ds} {t : TS} {a : AS} (hA : ∀ c : Ctx K, AbsS c t a) (hd : ∀ ds Qd, f ds Qd → a { nx := fun _ => Qd .none, rt := Qd } (startE N.length (ds.map Cell.d))) (h : spP K f vs H Q E) : t { nx := fun _ H' => Q .non H', rt := Q } (L2.start N vs) H := by
  obtain ⟨G, ds, e, r, Qd, hf, q⟩ := h
  have key : ∀ {G' H'}, Step (Ctx.pure K e) G H G' H' → PStep G H G' H' := fun s => ⟨s.gg, s.gh, fun b o h => s.hh b o (fun z => z) h, s.fr⟩
  refine hA (Ctx.pure K e) _ _ G H (rel_start (c := Ctx.pure K e) (by rw [r.length, List.length_map]) fun i x ex => ?_) _ _ (hd ds Qd hf) ⟨fun ε σ G' H' rl _ z => q _ _ G' H' (key rl.his) .non z, fun v d G' H' s rv z => q v d G' H' (key s) rv z, fun _ _ _ _ _ _ z => z.elim, fun _ _ _ _ _ _ z => z.elim⟩
  rw [List.getElem?_map] at ex
  cases hd' : ds[i]? with
  | none => rw [hd'] at ex; cases ex
  | some d =>
    rw [hd'] at ex
    cases ex
    obtain ⟨v, h1, h2⟩ := r.get hd'
    exact ⟨v, h1, ⟨v, rfl, h2⟩, rfl⟩
theorem body_tape {N : List Str} {vs : List V} {H : Hp} {Q : VK} {E : XK} {f : Ds} {t : TS} {a : AS} (hA : ∀ c : Ctx K, AbsS c t a) (hd : ∀ ds Qd, f ds Qd → a { nx := fun _ => Qd .none, rt := Qd } (startE N.length (.tape :: ds.map Cell.d))) (h : spT K f vs H Q E) : t { nx := fun _ H' => Q .non H', rt := Q } (L2.start N vs) H := by
  obtain ⟨tt, l, ns, G, us, ds, rfl, e, gt, gl, T, r, Qd, hf, q⟩ := h
  have key : ∀ {G' H'}, Step (Ctx.tape K e gt gl T) G H G' H' → TStep tt l ns G H G' H' := fun {G' H'} s => ⟨s.gg, s.gh, fun b o n h => by
    by_cases m : b = l
    · subst m
      obtain ⟨ne, hl, _⟩ := s.r
      obtain ⟨_, hl0, _⟩ := T
      rw [hl0] at h; cases h; exact hl
    · exact s.hh b o (fun z => z.elim n m) h, s.fr, s.r⟩
  refine hA (Ctx.tape K e gt gl T) _ _ G H (rel_start (c := Ctx.tape K e gt gl T) (by rw [List.length_cons, r.length, List.length_cons, List.length_map]) fun i x ex => ?_) _ _ (hd ds Qd hf) ⟨fun ε σ G' H' rl _ z => q _ _ G' H' (key rl.his) .non z, fun v d G' H' s rv z => q v d G' H' (key s) rv z, fun _ _ _ _ _ _ z => z.elim, fun _ _ _ _ _ _ z => z.elim⟩
  cases i with
  | zero => cases ex; exact ⟨_, rfl, ⟨tt, l, ns, rfl, rfl⟩, rfl⟩
  | succ i =>
    rw [List.getElem?_cons_succ, List.getElem?_map] at ex
    cases hd' : ds[i]? with
    | none => rw [hd'] at ex; cases ex
    | some d =>
      rw [hd'] at ex
      cases ex
      obtain ⟨v, h1, h2⟩ := r.get hd'
      exact ⟨v, by rw [List.getElem?_cons_succ]; exact h1, ⟨v, rfl, h2⟩, rfl⟩
theorem spP_len {n : Nat} {f : Ds} (h : ∀ ds Qd, f ds Qd → ds.length = n) {vs : List V} {H : Hp} {Q : VK} {E : XK} (x : spP K f vs H Q E) : vs.length = n := by
  obtain ⟨G, ds, _, r, Qd, hf, _⟩ := x
  rw [r.length]; exact h ds Qd hf
theorem spT_len {n : Nat} {f : Ds} (h : ∀ ds Qd, f ds Qd → ds.length + 1 = n) {vs : List V} {H : Hp} {Q : VK} {E : XK} (x : spT K f vs H Q E) : vs.length = n := by
  obtain ⟨t, l, ns, G, us, ds, rfl, _, _, _, _, r, Qd, hf, _⟩ := x
  rw [List.length_cons, r.length]; exact h ds Qd hf
end
end Fc

namespace Fc
open PySem L2
/-! ### rules with the written part named, for use within comprehensions -/
section
variable (K : PySem.W.Frag) {X : Cx}
theorem kAdd (h : X.K = K := by rfl) : OpR X (binaryOp .Add) (rAddP K) := h ▸ op_addP
theorem kIx (h : X.K = K := by rfl) : IxR X (rIx K) := h ▸ ix_seq
theorem kIxL (h : X.K = K := by rfl) : IxR X (rIxL K) := h ▸ ix_list
theorem kSl (h : X.K = K := by rfl) : SlR X (rSlP K) := h ▸ sl_P
theorem kEq (hu : X.A.units + 64 < cLine) (h : X.K = K := by rfl) : OpR X (compareOp .Eq) (rEqP K) := h ▸ op_eqP hu
theorem kNe (hu : X.A.units + 64 < cLine) (h : X.K = K := by rfl) : OpR X (compareOp .NotEq) (rNeP K) := h ▸ op_neP hu
theorem kLen (h : X.K = K := by rfl) : CallR X (.builtin "len") (fun xs H Q => ∃ x n, xs = [x] ∧ LenV K x H n ∧ Q (V.int ↑n) H) := h ▸ call_len
theorem kTuple (h : X.K = K := by rfl) : CallR X (.type "tuple") (fun xs H Q => ∃ p ys, xs = [V.ref p] ∧ ((SqL K H p ys ∧ ∀ l, H l = none → Q (V.ref l) (upd H l (HO.tup ys))) ∨ SqT K H p ys ∧ Q (V.ref p) H)) := h ▸ call_tuple_of
theorem kList (h : X.K = K := by rfl) : CallR X (.type "list") (fun xs H Q => ∃ p ys, xs = [V.ref p] ∧ (SqL K H p ys ∨ SqT K H p ys) ∧ ∀ l, H l = none → Q (V.ref l) (upd H l (HO.lst ys))) := h ▸ call_list_of
theorem kAll (h : X.K = K := by rfl) (hc : X.calm = true := by rfl) : CallR X (.builtin "all") (rAll K) := h ▸ cr_all hc
theorem kIsi (h : X.K = K := by rfl) : CallR X (.builtin "isinstance") (rIsi K) := h ▸ call_isi
theorem kIsiT (h : X.K = K := by rfl) : CallR X (.builtin "isinstance") (rIsiT K) := h ▸ call_isiT
theorem kJoin (h : X.K = K := by rfl) : MtR X "str.join" (fun x xs H Q => ∃ a p, ∃ ys : List Str, x = V.str a ∧ xs = [V.ref p] ∧ (SqL K H p (List.map V.str ys) ∨ SqT K H p (List.map V.str ys)) ∧ (List.map (fun x => x.length) ys).sum + ys.length * a.length ≤ 16777216 ∧ Q (V.str (Txt.join a ys)) H) := h ▸ mt_join
theorem kOrT {a b : Expr} {ta tb : TE} {rest : List Expr} {pos : Pos} (ha : PE X a ta) (hb : PE X (.BoolOp .Or (b :: rest) pos) tb) (h : X.K = K := by rfl) : PE X (.BoolOp .Or (a :: b :: rest) pos) (tOrT K ta tb) := h ▸ pe_orT ha hb
theorem kAndT {a b : Expr} {ta tb : TE} {rest : List Expr} {pos : Pos} (ha : PE X a ta) (hb : PE X (.BoolOp .And (b :: rest) pos) tb) (h : X.K = K := by rfl) : PE X (.BoolOp .And (a :: b :: rest) pos) (tAndT K ta tb) := h ▸ pe_andT ha hb
theorem kRevL {e : Expr} {te : TE} {k : Nat} {p1 p2 p3 pos : Pos} (he : PE X e te) (h : X.K = K := by rfl) : PE X (.Subscript e (.Slice none none (some (.UnaryOp .USub (.Constant (.int 1) k p1) p2)) p3) pos) (tRevL K te) := h ▸ pe_revL he
theorem kIn (h : X.K = K := by rfl) : OpR X (compareOp .In) (rIn K false) := h ▸ op_in_seq
theorem kNotIn (h : X.K = K := by rfl) : OpR X (compareOp .NotIn) (rIn K true) := h ▸ op_notIn_seq
theorem kTru {a : Expr} {ta : TE} (ha : PE X a ta) (hs : ∀ whole : Sem Value, PySem.isTrue a X.env whole = (do let v ← whole; standAt a.pos; holding [v] (truthy v)) := by intro _; rfl) (h : X.K = K := by rfl) : PT X a (fun σ H Q => ta σ H fun x H' => ∃ k, TruV K x H' k ∧ Q k H') := h ▸ pt_truth ha hs
end
end Fc

namespace Fc
open PySem L2
/-! ### a def of the text -/
structure Df (K : PySem.W.Frag) (mg : Str → Option Value) (x : Str) (st : Stmt) (ps : List Str) (f : Addr) (fd : FuncData) : Prop where
  F : ∃ dvs, FunD K x x (defArgs st) (defBody st) (defScope st) dvs [] f fd
  kp : PySem.W.keepIn K (.ref f) = true
  b : Binds K fd ps []
  m : mg x = some (.ref f)
theorem Df.ok {P : Program} {w : World} {K : PySem.W.Frag} {mg : Str → Option Value} {base : Heap} {x : Str} {st : Stmt} {f : Addr} {fd : FuncData} {N ps : List Str} {k : Nat} {sp : Sp} (d : Df K mg x st ps f fd) (S : FnScope N ps (defScope st)) (len : ∀ vs H Q E, sp vs H Q E → vs.length = ps.length)
    (body : ∀ (cdv : Value) (A : Around) (outer : List Env) (s : Shared) (H : Hp) (vs : List V) (Q : VK) (E : XK), Room k (A.deeper (PyProof.Rows.envOfC x (defScope st) s.heap.objs.size f cdv)) → sp vs H Q E →
      ∃ t, PSs (cxOf CX0 P w K mg base N x (defScope st) f cdv A outer s H E).nox (defBody st) t ∧ t { nx := fun _ H' => Q .non H', rt := Q } (L2.start N vs) H) : FnOk P w K mg base CX0 (k + 1) f fd ps sp := by
  obtain ⟨dvs, F⟩ := d.F
  refine F.ok S len fun cdv A outer s H vs Q E hr h => ?_
  obtain ⟨t, h1, h2⟩ := body cdv A outer s H vs Q E hr h
  exact ⟨t, h1.nox, h2⟩
theorem df_mk {K : PySem.W.Frag} {h : Heap} {mg : Str → Option Value} {x : Str} {st : Stmt} {ps : List Str} {f : Addr} {oc : Value} {od an : Option Addr} {osl : Array (Option Value)} {kV doc pm cdv ct : Value} (X : K.In h) (G : h.Ns mainGlobals mg) (a : PySem.W.nsIn K mainGlobals x = some (some (.ref f)))
    (l : K.lookup f = some ⟨oc, od, .func (PySem.W.fnOf x x (defArgs st) (defBody st) (defScope st) .none kV doc pm an cdv ct), osl⟩) (c : PySem.W.codeIn K cdv x = true) (k : PySem.W.keepIn K (.ref f) = true)
    (hb : ∀ (kV doc pm : Value) (an : Option Addr) (cdv ct : Value) (us : List Value), us.length = ps.length → bindArgs (PySem.W.fnOf x x (defArgs st) (defBody st) (defScope st) .none kV doc pm an cdv ct) ⟨us, []⟩ = pure (ps.zip us)) :
    Df K mg x st ps f (PySem.W.fnOf x x (defArgs st) (defBody st) (defScope st) .none kV doc pm an cdv ct) :=
  ⟨⟨[], ⟨⟨oc, od, .none, kV, doc, pm, an, cdv, ct, osl, rfl, l, c, .inl ⟨rfl, rfl⟩, .inl rfl⟩, k⟩⟩, k, .all (hb kV doc pm an cdv ct), PySem.W.mg_of X G a⟩
/-- the same with one default or more, all arguments handed in -/
theorem df_mkD {K : PySem.W.Frag} {h : Heap} {mg : Str → Option Value} {x : Str} {st : Stmt} {ps : List Str} {f T : Addr} {oc : Value} {od an : Option Addr} {osl : Array (Option Value)} {kV doc pm cdv ct : Value} {oT : Obj} {its : List Value} {m : Nat} {dvs : List V} (X : K.In h) (G : h.Ns mainGlobals mg) (a : PySem.W.nsIn K mainGlobals x = some (some (.ref f)))
    (l : K.lookup f = some ⟨oc, od, .func (PySem.W.fnOf x x (defArgs st) (defBody st) (defScope st) (.ref T) kV doc pm an cdv ct), osl⟩) (c : PySem.W.codeIn K cdv x = true) (k : PySem.W.keepIn K (.ref f) = true)
    (lT : K.lookup T = some oT) (eT : oT.data = .seq its.toArray m) (rT : Vals dvs its) (hd : dvs ≠ [])
    (hb : ∀ (T : Addr) (kV doc pm : Value) (an : Option Addr) (cdv ct : Value) (us its : List Value), us.length = ps.length → its.length = dvs.length →
      ∃ k, bindArgs (PySem.W.fnOf x x (defArgs st) (defBody st) (defScope st) (.ref T) kV doc pm an cdv ct) ⟨us, []⟩ = seqItems? (.ref T) >>= k ∧ k (some its.toArray) = pure (ps.zip us)) :
    Df K mg x st ps f (PySem.W.fnOf x x (defArgs st) (defBody st) (defScope st) (.ref T) kV doc pm an cdv ct) := by
  have F : FunD K x x (defArgs st) (defBody st) (defScope st) dvs [] f (PySem.W.fnOf x x (defArgs st) (defBody st) (defScope st) (.ref T) kV doc pm an cdv ct) := ⟨⟨oc, od, .ref T, kV, doc, pm, an, cdv, ct, osl, rfl, l, c, .inr ⟨hd, T, oT, its, m, rfl, lT, eT, rT⟩, .inl rfl⟩, k⟩
  refine ⟨⟨dvs, F⟩, k, ?_, PySem.W.mg_of X G a⟩
  obtain ⟨ds, v, B⟩ := F.binds1 (ps := ps) ps.length dvs.length hd (by omega) fun T kV doc pm an cdv ct us its h1 h2 => by
    obtain ⟨k, e1, e2⟩ := hb T kV doc pm an cdv ct us its h1 h2
    refine ⟨k, e1, ?_⟩
    rw [← h2, List.drop_length, List.append_nil]
    exact e2
  rw [List.drop_length] at v
  cases v
  exact B
/-! ### draws -/
def ds_law_draw : Ds := fun ds Q => ∃ n : Int, ds = [.int n] ∧ 0 < n ∧ n < 2 ^ 200 ∧ ∀ r : Int, 0 ≤ r → r < n → Q (.int r)
theorem len_law_draw : ∀ ds Qd, ds_law_draw ds Qd → ds.length + 1 = 2 := by
  rintro ds Qd ⟨n, rfl, _⟩; rfl
theorem draw_mod {x n : Int} (h : 0 < n) : 0 ≤ x % n ∧ x % n < n := ⟨Int.emod_nonneg _ (by omega), Int.emod_lt_of_pos _ h⟩
theorem draw_div {x n : Int} (h0 : 0 ≤ x) (h : 0 < n) : 0 ≤ x / n := Int.ediv_nonneg h0 (by omega)
theorem wide200 {x n : Int} (h : 0 < n) (h2 : n < 2 ^ 200) : CDivW x n := wide_div (b := 200) h (by
  have e : (2 : Int) ^ 200 = (((2 : Nat) ^ 200 : Nat) : Int) := by decide
  rw [e] at h2
  omega) (by decide) (by decide)
theorem mulP {i j : Int} (h0 : 0 ≤ i) (h : i < 2305843009213693951) : CMul i j := .inl ⟨by omega, by omega⟩
end Fc
namespace Fc
open PySem L2
/-! ### the law's own def: its first row makes the tape -/
def spLaw (K : PySem.W.Frag) : Sp := fun vs H Q _ => ∃ (a : Addr) (ns : List Int), vs = [.ref a] ∧ SqL K H a (ns.map V.int) ∧ ns.length ≤ 63 ∧ ∀ H', Q (.bl true) H'
theorem law_start {K : PySem.W.Frag} {N : List Str} {m : Nat} (hN : N.length = m + 2) {H : Hp} {sa : Addr} {ns : List Int} {Q : VK} {t : TS} {a : AS} (hA : ∀ c : Ctx K, AbsS c t a) (hv : a { nx := fun _ => False, rt := fun d => d = .bool true } (.un :: .tape :: List.replicate m .un)) (hS : SqL K H sa (ns.map V.int)) (q : ∀ H', Q (.bl true) H') :
    tSeq (tAsg (tLst (tCons (tCB (fun xs H Q => ∃ p ys, xs = [V.ref p] ∧ (SqL K H p ys ∨ SqT K H p ys) ∧ ∀ l, H l = none → Q (V.ref l) (upd H l (HO.lst ys))) (tCons (tVar 0) tNil)) (tCons (tC (.int 0)) (tCons (tC (.int 0)) tNil)))) (gName 1)) t { nx := fun _ H' => Q .non H', rt := Q } (L2.start N [.ref sa]) H := by
  have es : L2.start N [.ref sa] = some (V.ref sa) :: none :: List.replicate m none := by
    unfold L2.start
    rw [hN]
    show some (V.ref sa) :: List.replicate (m + 1) none = _
    rw [List.replicate_succ]
  rw [es]
  refine ⟨.ref sa, rfl, sa, ns.map V.int, rfl, .inl hS, fun l hl => ⟨by show 3 ≤ sizeLine; decide, fun p hp => ?_⟩⟩
  have npl : p ≠ l := fun e => by rw [e, upd_same] at hp; cases hp
  have T : TapeAt p l ns (upd (upd H l (.lst (ns.map V.int))) p (.lst [.ref l, .int 0, .int 0])) := ⟨npl, by rw [upd_ne npl.symm, upd_same], 0, 0, Int.le_refl 0, Int.le_refl 0, upd_same⟩
  have e0 : Ex (fun _ => none) (upd (upd H l (.lst (ns.map V.int))) p (.lst [.ref l, .int 0, .int 0])) := fun _ _ h => nomatch h
  refine hA (Ctx.tape K (G := fun _ => none) e0 rfl rfl T) (.un :: .tape :: List.replicate m .un) _ (fun _ => none) _ ⟨.refl (.zero _), ?_, fun i x e => ?_, fun i j x y r ex ey ox oy _ _ => ?_⟩ _ _ hv ⟨fun _ _ _ _ _ _ z => z.elim, fun v d G' H' _ rv z => ?_, fun _ _ _ _ _ _ z => z.elim, fun _ _ _ _ _ _ z => z.elim⟩
  · show (some (V.ref sa) :: some (V.ref p) :: List.replicate m none).length = _
    simp
  · show ∃ o, (some (V.ref sa) :: some (V.ref p) :: List.replicate m none)[i]? = some o ∧ _
    match i, e with
    | 0, e => cases e; exact ⟨_, rfl, trivial⟩
    | 1, e => cases e; exact ⟨_, rfl, p, l, ns, rfl, rfl⟩
    | i + 2, e =>
      rw [List.getElem?_cons_succ, List.getElem?_cons_succ, List.getElem?_replicate] at e
      rw [List.getElem?_cons_succ, List.getElem?_cons_succ, List.getElem?_replicate]
      split at e
      · rename_i hlt
        cases e
        exact ⟨none, by rw [if_pos hlt], trivial⟩
      · cases e
  · have : x.isOwn = false := by
      match i, ex with
      | 0, ex => cases ex; rfl
      | 1, ex => cases ex; rfl
      | i + 2, ex =>
        rw [List.getElem?_cons_succ, List.getElem?_cons_succ, List.getElem?_replicate] at ex
        split at ex
        · cases ex; rfl
        · cases ex
    rw [this] at ox; cases ox
  · subst z
    cases rv
    exact q _
end Fc

namespace Fc
open PySem L2
/-! ### texts as lists of signs -/
abbrev cl (x : Str) : List Nat := x.cps.toList
theorem cl_len (x : Str) : (cl x).length = x.length := by simp [Str.length]
theorem str_ext {x y : Str} (h : cl x = cl y) : x = y := by
  cases x; cases y
  simp only [Str.mk.injEq]
  exact Array.toList_inj.mp h
theorem cl_append (x y : Str) : cl (x ++ y) = cl x ++ cl y := by
  show (x.cps ++ y.cps).toList = _
  simp
theorem cl_one (k : Nat) : cl ⟨#[k]⟩ = [k] := rfl
def stripL (p : Nat → Bool) (l : List Nat) : List Nat := ((l.dropWhile p).reverse.dropWhile p).reverse
theorem drop_tw (p : Nat → Bool) : ∀ l : List Nat, l.drop (l.takeWhile p).length = l.dropWhile p
  | [] => rfl
  | a :: r => by
    rw [List.takeWhile_cons, List.dropWhile_cons]
    by_cases h : p a = true
    · rw [if_pos h, if_pos h]
      exact drop_tw p r
    · rw [if_neg h, if_neg h]; rfl
theorem cl_strip (x y : Str) : cl (Txt.stripChars x y) = stripL y.cps.contains (cl x) := by
  unfold Txt.stripChars
  rw [PyProof.Rows.stripBy_eq]
  unfold stripL
  show (Array.extract x.cps _ _).toList = _
  rw [Array.toList_extract]
  unfold stripLo stripHi
  simp only [if_true]
  rw [List.extract_eq_take_drop]
  generalize hp : (y.cps.contains : Nat → Bool) = p
  have e1 := drop_tw p (cl x)
  have hn : (cl x).length = x.length := cl_len x
  generalize hL : ((cl x).takeWhile p).length = L at e1
  have hle : L ≤ (cl x).length := by rw [← hL]; exact (List.takeWhile_sublist p).length_le
  rw [e1]
  have e2 := drop_tw p ((cl x).dropWhile p).reverse
  generalize hT : (((cl x).dropWhile p).reverse.takeWhile p).length = T at e2
  have hlen : ((cl x).dropWhile p).length = x.length - L := by rw [← e1, List.length_drop, hn]
  have hT2 : T ≤ x.length - L := by
    rw [← hT, ← hlen, ← List.length_reverse (as := (cl x).dropWhile p)]
    exact (List.takeWhile_sublist p).length_le
  rw [← e2, List.reverse_drop, List.reverse_reverse, List.length_reverse, hlen]
  congr 1
  omega
theorem mem_dropWhile {p : Nat → Bool} {l : List Nat} {k : Nat} (h : k ∈ l.dropWhile p) : k ∈ l := (List.dropWhile_sublist p).subset h
theorem dropWhile_head {p : Nat → Bool} : ∀ {l : List Nat} {k : Nat}, (l.dropWhile p).head? = some k → p k = false
  | [], _, h => by cases h
  | a :: r, k, h => by
    rw [List.dropWhile_cons] at h
    by_cases q : p a = true
    · rw [if_pos q] at h; exact dropWhile_head h
    · rw [if_neg q] at h; cases h; simpa using q
theorem strip_mem {p : Nat → Bool} {l : List Nat} {k : Nat} (h : k ∈ stripL p l) : k ∈ l := by
  unfold stripL at h
  exact mem_dropWhile (List.mem_reverse.mp (mem_dropWhile (List.mem_reverse.mp h)))
theorem strip_len (p : Nat → Bool) (l : List Nat) : (stripL p l).length ≤ l.length := by
  unfold stripL
  rw [List.length_reverse]
  refine Nat.le_trans (List.dropWhile_sublist p).length_le ?_
  rw [List.length_reverse]
  exact (List.dropWhile_sublist p).length_le
theorem strip_last {p : Nat → Bool} {l : List Nat} {k : Nat} (h : (stripL p l).getLast? = some k) : p k = false := by
  unfold stripL at h
  rw [List.getLast?_reverse] at h
  exact dropWhile_head h
theorem dropWhile_suffix_head {p : Nat → Bool} {l : List Nat} {k : Nat} (h : ((l.reverse.dropWhile p).reverse).head? = some k) : l.head? = some k := by
  have hs : (l.reverse.dropWhile p).reverse <+: l := by
    have := List.dropWhile_suffix p (l := l.reverse)
    rw [← List.reverse_prefix, List.reverse_reverse] at this
    exact this
  obtain ⟨t, ht⟩ := hs
  cases q : (l.reverse.dropWhile p).reverse with
  | nil => rw [q] at h; cases h
  | cons a r => rw [q] at h ht; rw [← ht]; exact h
theorem strip_head {p : Nat → Bool} {l : List Nat} {k : Nat} (h : (stripL p l).head? = some k) : p k = false := dropWhile_head (dropWhile_suffix_head h)
theorem strip_id {p : Nat → Bool} {l : List Nat} (h1 : ∀ k, l.head? = some k → p k = false) (h2 : ∀ k, l.getLast? = some k → p k = false) : stripL p l = l := by
  have dw : ∀ m : List Nat, (∀ k, m.head? = some k → p k = false) → m.dropWhile p = m := fun m hm => by
    cases m with
    | nil => rfl
    | cons a r => rw [List.dropWhile_cons, if_neg (by rw [hm a rfl]; exact Bool.false_ne_true)]
  unfold stripL
  rw [dw l h1, dw l.reverse (fun k hk => h2 k (by rw [← List.head?_reverse]; exact hk)), List.reverse_reverse]
theorem cl_join0 (ys : List Str) : cl (Txt.join ⟨#[]⟩ ys) = (ys.map cl).flatten := by
  rw [TL.join_eq]
  have e : ∀ l : List Str, cl (Str.join ⟨#[]⟩ l) = (l.map cl).flatten := fun l => by
    have h := TL.tl_join ⟨#[]⟩ l
    show TL.tl (Str.join ⟨#[]⟩ l) = _
    rw [h]
    have g : ∀ m : List (List Nat), TL.joinL [] m = m.flatten := fun m => by
      induction m with
      | nil => rfl
      | cons a r ih =>
        cases r with
        | nil => simp [TL.joinL]
        | cons b r => show a ++ ([] ++ TL.joinL [] (b :: r)) = _; rw [ih]; simp
    exact g _
  exact e ys
/-! ### lines -/
def smallS (k : Nat) : Bool := decide (97 ≤ k) && decide (k ≤ 122)
def signL (k : Nat) : Bool := smallS k || k == 32
structure LineL (l : List Nat) : Prop where
  ne : l ≠ []
  len : l.length ≤ 30
  all : ∀ k ∈ l, signL k = true
  hd : l.head? ≠ some 32
  lst : l.getLast? ≠ some 32
def LineS (x : Str) : Prop := LineL (cl x)
theorem signL_lt {k : Nat} (h : signL k = true) : k < 0x110000 := by
  unfold signL smallS at h
  simp only [Bool.or_eq_true, Bool.and_eq_true, decide_eq_true_eq, beq_iff_eq] at h
  omega
theorem strOk_of {x : Str} (h : ∀ k ∈ cl x, k < 0x110000) : PyData.strOk x = true := by
  unfold PyData.strOk
  rw [Array.all_eq_true']
  intro k hk
  exact decide_eq_true (h k (Array.mem_toList_iff.mpr hk))
theorem LineS.ok {x : Str} (h : LineS x) : PyData.strOk x = true := strOk_of fun k hk => signL_lt (h.all k hk)
theorem LineS.len {x : Str} (h : LineS x) : x.length ≤ 30 := by rw [← cl_len]; exact LineL.len h
/-! ### data that can be compared -/
structure Sh (n : Nat) (d : D) : Prop where
  lay : d.canLay0 = true
  dep : d.depth ≤ n
theorem Sh.shaped {n : Nat} {d : D} (h : Sh n d) (hn : n ≤ 64) : SeqAt.shaped d = true := by
  unfold SeqAt.shaped
  rw [h.lay, Bool.true_and]
  exact decide_eq_true (Nat.le_trans h.dep hn)
theorem Sh.mono {n m : Nat} {d : D} (h : Sh n d) (l : n ≤ m) : Sh m d := ⟨h.lay, Nat.le_trans h.dep l⟩
theorem Sh.none {n : Nat} : Sh n .none := ⟨by simp [PyData.canLay0], by simp [PyData.depth]⟩
theorem Sh.int {n : Nat} (i : Int) : Sh n (.int i) := ⟨by simp [PyData.canLay0], by simp [PyData.depth]⟩
theorem Sh.bool {n : Nat} (i : Bool) : Sh n (.bool i) := ⟨by simp [PyData.canLay0], by simp [PyData.depth]⟩
theorem Sh.str {n : Nat} {x : Str} (h : PyData.strOk x = true) : Sh n (.str x) := ⟨by simpa [PyData.canLay0] using h, by simp [PyData.depth]⟩
theorem sh_all {n : Nat} : ∀ {ds : List D}, (∀ d ∈ ds, Sh n d) → PyData.canLayAll0 ds = true ∧ PyData.depthAll ds ≤ n
  | [], _ => ⟨by simp [PyData.canLayAll0], by simp [PyData.depthAll]⟩
  | d :: r, h => by
    have h1 := h d (List.mem_cons_self ..)
    have h2 := sh_all (ds := r) fun e he => h e (List.mem_cons_of_mem _ he)
    refine ⟨by simp [PyData.canLayAll0, h1.lay, h2.1], ?_⟩
    simp only [PyData.depthAll]
    exact Nat.max_le.mpr ⟨h1.dep, h2.2⟩
theorem Sh.tuple {n : Nat} {ds : List D} (h : ∀ d ∈ ds, Sh n d) : Sh (n + 1) (.tuple ds) := by
  have k := sh_all h
  exact ⟨by simpa [PyData.canLay0] using k.1, by simp only [PyData.depth]; exact Nat.succ_le_succ k.2⟩
theorem Sh.list {n : Nat} {ds : List D} (h : ∀ d ∈ ds, Sh n d) : Sh (n + 1) (.list ds) := by
  have k := sh_all h
  exact ⟨by simpa [PyData.canLay0] using k.1, by simp only [PyData.depth]; exact Nat.succ_le_succ k.2⟩
theorem Sh.strs {n : Nat} {xs : List Str} (h : ∀ x ∈ xs, PyData.strOk x = true) : Sh (n + 1) (.tuple (xs.map PyData.str)) := .tuple fun d hd => by
  obtain ⟨x, hx, rfl⟩ := List.mem_map.mp hd
  exact .str (h x hx)
theorem Sh.ints {n : Nat} {xs : List Int} : Sh (n + 1) (.tuple (xs.map PyData.int)) := .tuple fun d hd => by
  obtain ⟨x, hx, rfl⟩ := List.mem_map.mp hd
  exact .int x
mutual
theorem eqv_self : ∀ {d : D}, d.canLay0 = true → PyData.eqv d d = true
  | .none, _ => by simp [PyData.eqv]
  | .bool _, _ => by simp [PyData.eqv]
  | .int _, _ => by simp [PyData.eqv]
  | .str _, _ => by simp [PyData.eqv]
  | .list xs, h => by simp only [PyData.eqv]; exact eqvAll_self (by simpa [PyData.canLay0] using h)
  | .tuple xs, h => by simp only [PyData.eqv]; exact eqvAll_self (by simpa [PyData.canLay0] using h)
  | .dict _, h => by simp [PyData.canLay0] at h
theorem eqvAll_self : ∀ {ds : List D}, PyData.canLayAll0 ds = true → PyData.eqvAll ds ds = true
  | [], _ => by simp [PyData.eqvAll]
  | d :: r, h => by
    simp only [PyData.canLayAll0, Bool.and_eq_true] at h
    simp only [PyData.eqvAll, Bool.and_eq_true]
    exact ⟨eqv_self h.1, eqvAll_self h.2⟩
end
/-! ### comprehensions -/
section
variable {items : List D} {p : D → Bool} {f : D → D} {i : Nat} {d : D}
theorem take_at {α : Type} {items : List α} {d : α} (h : items[i]? = some d) : items.take (i + 1) = items.take i ++ [d] := by
  rw [List.take_add_one, h]; rfl
theorem fm_yes (h : items[i]? = some d) (hp : p d = true) : ((items.take (i + 1)).filter p).map f = ((items.take i).filter p).map f ++ [f d] := by
  rw [take_at h, List.filter_append, List.map_append]
  simp [hp]
theorem fm_no (h : items[i]? = some d) (hp : p d = false) : ((items.take (i + 1)).filter p).map f = ((items.take i).filter p).map f := by
  rw [take_at h, List.filter_append, List.map_append]
  simp [hp]
theorem m_step (h : items[i]? = some d) : (items.take (i + 1)).map f = (items.take i).map f ++ [f d] := by
  rw [take_at h, List.map_append]; rfl
end
theorem sl_of {n : Nat} (h : n ≤ 1000000) : n ≤ sizeLine := Nat.le_trans h (by decide)
end Fc
namespace Fc
open PySem L2
/-! ### readings: small words -/
theorem draw_eq {n : Int} {Q : D → Prop} : ds_law_draw [.int n] Q = (0 < n ∧ n < 2 ^ 200 ∧ ∀ r : Int, 0 ≤ r → r < n → Q (.int r)) := by
  apply propext
  constructor
  · rintro ⟨m, e, h⟩
    cases e
    exact h
  · intro h
    exact ⟨n, rfl, h⟩
theorem atI_some {α : Type} {xs : List α} {i : Int} (h0 : 0 ≤ i) (h1 : i < (xs.length : Int)) : ∃ d, atI xs i = some d ∧ xs[i.toNat]? = some d := by
  have hl : i.toNat < xs.length := by omega
  refine ⟨xs[i.toNat], ?_, List.getElem?_eq_getElem hl⟩
  unfold atI ixN
  rw [if_pos h0, if_pos h1]
  exact List.getElem?_eq_getElem hl
theorem ix_list {xs : List D} {i : Int} {Q : D → Prop} (h0 : 0 ≤ i) (h1 : i < (xs.length : Int)) (h : ∀ d, xs[i.toNat]? = some d → Q d) : fIx (.list xs) (.int i) Q := by
  obtain ⟨d, e, e2⟩ := atI_some h0 h1
  unfold fIx
  simp only [e]
  exact h d e2
theorem ix_tuple {xs : List D} {i : Int} {Q : D → Prop} (h0 : 0 ≤ i) (h1 : i < (xs.length : Int)) (h : ∀ d, xs[i.toNat]? = some d → Q d) : fIx (.tuple xs) (.int i) Q := by
  obtain ⟨d, e, e2⟩ := atI_some h0 h1
  unfold fIx
  simp only [e]
  exact h d e2
theorem ix_str {x : Str} {i : Int} {Q : D → Prop} (hs : x.length ≤ sizeLine) (h0 : 0 ≤ i) (h1 : i < (x.length : Int)) (h : ∀ k, (cl x)[i.toNat]? = some k → Q (.str ⟨#[k]⟩)) : fIx (.str x) (.int i) Q := by
  obtain ⟨d, e, e2⟩ := atI_some (xs := cl x) h0 (by rw [cl_len]; exact h1)
  unfold fIx
  refine ⟨hs, ?_⟩
  simp only [e]
  exact h d e2
theorem mem_get {α : Type} {xs : List α} {i : Nat} {d : α} (h : xs[i]? = some d) : d ∈ xs := List.mem_of_getElem? h
theorem all_snoc {α : Type} {P : α → Prop} {xs : List α} {y : α} (h : ∀ x ∈ xs, P x) (hy : P y) : ∀ x ∈ xs ++ [y], P x := fun x hx => by
  rcases List.mem_append.mp hx with hx | hx
  · exact h x hx
  · rw [List.mem_singleton.mp hx]; exact hy
def lineB (l : List Nat) : Bool := !l.isEmpty && decide (l.length ≤ 30) && l.all signL && decide (l.head? ≠ some 32) && decide (l.getLast? ≠ some 32)
theorem lineB_iff {l : List Nat} : lineB l = true ↔ LineL l := by
  unfold lineB
  simp only [Bool.and_eq_true, decide_eq_true_eq, List.all_eq_true, Bool.not_eq_true', List.isEmpty_eq_false_iff]
  constructor
  · rintro ⟨⟨⟨⟨h1, h2⟩, h3⟩, h4⟩, h5⟩
    exact ⟨h1, h2, h3, h4, h5⟩
  · rintro ⟨h1, h2, h3, h4, h5⟩
    exact ⟨⟨⟨⟨h1, h2⟩, h3⟩, h4⟩, h5⟩
/-- texts of one sign, a list of data -/
theorem signs_of : ∀ {acc : List D}, (∀ y ∈ acc, ∃ k, signL k = true ∧ y = .str ⟨#[k]⟩) → ∃ l : List Nat, acc = l.map (fun k => PyData.str ⟨#[k]⟩) ∧ ∀ k ∈ l, signL k = true
  | [], _ => ⟨[], rfl, fun _ h => nomatch h⟩
  | y :: r, h => by
    obtain ⟨k, hk, rfl⟩ := h y (List.mem_cons_self ..)
    obtain ⟨l, rfl, hl⟩ := signs_of (acc := r) fun z hz => h z (List.mem_cons_of_mem _ hz)
    refine ⟨k :: l, rfl, fun j hj => ?_⟩
    rcases List.mem_cons.mp hj with rfl | hj
    · exact hk
    · exact hl j hj
theorem join_signs (l : List Nat) : cl (Txt.join ⟨#[]⟩ (l.map fun k => (⟨#[k]⟩ : Str))) = l := by
  rw [cl_join0]
  induction l with
  | nil => rfl
  | cons a r ih => simp only [List.map_cons, List.flatten_cons, ih]; rfl
theorem sum_ones (l : List Nat) : ((l.map fun k => (⟨#[k]⟩ : Str)).map (·.length)).sum = l.length := by
  induction l with
  | nil => rfl
  | cons a r ih => simp only [List.map_cons, List.sum_cons, ih, List.length_cons]; show 1 + r.length = _; omega
/-- what is left of signs without the blanks at their ends is a line, or nothing -/
theorem line_strip {l : List Nat} {p : Nat → Bool} (hp : p 32 = true) (hl : l.length ≤ 30) (ha : ∀ k ∈ l, signL k = true) (hn : stripL p l ≠ []) : LineL (stripL p l) :=
  ⟨hn, Nat.le_trans (strip_len p l) hl, fun k hk => ha k (strip_mem hk), fun e => (by
    have h := strip_head e
    rw [hp] at h; exact Bool.noConfusion h), fun e => (by
    have h := strip_last e
    rw [hp] at h; exact Bool.noConfusion h)⟩
/-- a body as a datum -/
def bodyD (xs : List Str) : D := .tuple (xs.map PyData.str)
def ds_law_a_line : Ds := fun ds Q => ds = [] ∧ ∀ x, LineS x → Q (.str x)
theorem len_law_a_line : ∀ ds Qd, ds_law_a_line ds Qd → ds.length + 1 = 1 := by rintro ds Qd ⟨rfl, _⟩; rfl
theorem aline_eq {Q : D → Prop} : ds_law_a_line [] Q = ∀ x, LineS x → Q (.str x) := propext ⟨fun h => h.2, fun h => ⟨rfl, h⟩⟩
def ds_law_a_body : Ds := fun ds Q => ∃ m : Int, ds = [.int m] ∧ 0 ≤ m ∧ m ≤ 1000 ∧ ∀ xs : List Str, (xs.length : Int) ≤ m → (∀ x ∈ xs, LineS x) → Q (bodyD xs)
theorem len_law_a_body : ∀ ds Qd, ds_law_a_body ds Qd → ds.length + 1 = 2 := by rintro ds Qd ⟨m, rfl, _⟩; rfl
theorem abody_eq {m : Int} {Q : D → Prop} : ds_law_a_body [.int m] Q = (0 ≤ m ∧ m ≤ 1000 ∧ ∀ xs : List Str, (xs.length : Int) ≤ m → (∀ x ∈ xs, LineS x) → Q (bodyD xs)) := by
  apply propext
  constructor
  · rintro ⟨n, e, h⟩; cases e; exact h
  · intro h; exact ⟨m, rfl, h⟩
theorem strs_of : ∀ {acc : List D}, (∀ y ∈ acc, ∃ x, LineS x ∧ y = .str x) → ∃ l : List Str, acc = l.map PyData.str ∧ ∀ x ∈ l, LineS x
  | [], _ => ⟨[], rfl, fun _ h => nomatch h⟩
  | y :: r, h => by
    obtain ⟨k, hk, rfl⟩ := h y (List.mem_cons_self ..)
    obtain ⟨l, rfl, hl⟩ := strs_of (acc := r) fun z hz => h z (List.mem_cons_of_mem _ hz)
    refine ⟨k :: l, rfl, fun j hj => ?_⟩
    rcases List.mem_cons.mp hj with rfl | hj
    · exact hk
    · exact hl j hj
end Fc

namespace Fc
open PySem L2
/-! ### own lists: made, grown, changed, frozen -/
section
variable {K : PySem.W.Frag} {c : Ctx K}
abbrev rListOf (K : PySem.W.Frag) : List V → Hp → VK → Prop := fun xs H Q => ∃ p ys, xs = [V.ref p] ∧ (SqL K H p ys ∨ SqT K H p ys) ∧ ∀ l, H l = none → Q (V.ref l) (upd H l (HO.lst ys))
theorem Rel.ownNew {ε : En} {σ : St} {G H : Hp} (r : Rel c ε σ G H) {i : Nat} {p : Addr} {vs : List V} {ds : List D} (hp : H p = none) (hv : RvA K G vs ds) : Rel c (ε.set i (.own ds)) (σ.set i (some (.ref p))) G (upd H p (.lst vs)) := by
  obtain ⟨_, hg, h0⟩ := r.fresh (o := .lst vs) hp
  exact r.putOwn hp ⟨p, vs, rfl, upd_same, hv, hg, h0⟩
theorem Rel.ownAt {ε : En} {σ : St} {G H : Hp} (r : Rel c ε σ G H) {i : Nat} {ds : List D} (h : ε[i]? = some (.own ds)) : ∃ p vs, σ[i]? = some (some (.ref p)) ∧ H p = some (.lst vs) ∧ RvA K G vs ds ∧ G p = none ∧ c.H0 p = none := by
  obtain ⟨o, ho, p, vs, rfl, h1, h2, h3, h4⟩ := r.cell i _ h
  exact ⟨p, vs, ho, h1, h2, h3, h4⟩
theorem Rel.ownSet {ε : En} {σ : St} {G H : Hp} (r : Rel c ε σ G H) {i : Nat} {ds es : List D} {p : Addr} {us : List V} (h : ε[i]? = some (.own ds)) (hs : σ[i]? = some (some (.ref p))) (hg : G p = none) (h0 : c.H0 p = none) (hv : RvA K G us es) : Rel c (ε.set i (.own es)) σ G (upd H p (.lst us)) :=
  r.mut h rfl hs hg h0 ⟨p, us, rfl, upd_same, hv, hg, h0⟩
def aSetOwnLst (i : Nat) (r : AA) : AS := fun E ε => r ε fun xs => xs.length ≤ sizeLine ∧ E.nx (ε.set i (.own xs))
theorem as_setOwnLst (i : Nat) {tr : TA} {ar : AA} (hr : AbsA c tr ar) : AbsS c (tAsg (tLst tr) (gName i)) (aSetOwnLst i ar) := by
  intro ε σ G H rl E D' h k
  refine hr ε σ G H rl _ _ h fun vs ds G1 H1 s1 r1 h1 => ⟨by rw [r1.length]; exact h1.1, fun p hp => ?_⟩
  exact k.nx _ _ G1 _ ((rl.step s1).ownNew hp r1) s1.gg h1.2
def aSetOwnList (i : Nat) (a : AE) : AS := fun E ε => a ε fun d => match d with
  | .list xs => E.nx (ε.set i (.own xs))
  | .tuple xs => E.nx (ε.set i (.own xs))
  | _ => False
theorem as_setOwnList (i : Nat) {ta : TE} {a : AE} (ha : AbsE c ta a) : AbsS c (tAsg (tCB (rListOf K) (tCons ta tNil)) (gName i)) (aSetOwnList i a) := by
  intro ε σ G H rl E D' h k
  refine ha ε σ G H rl _ _ h fun v d G1 H1 s1 r1 h1 => ?_
  have o1 := (rl.step s1).ok
  cases r1 with
  | @lst q us ds hq hA => exact ⟨q, us, rfl, .inl (SqL.of (o1.ex _ _ hq)), fun p hp => k.nx _ _ G1 _ ((rl.step s1).ownNew hp hA) s1.gg h1⟩
  | @tup q us ds hq hA => exact ⟨q, us, rfl, .inr (o1.ex.sqt hq), fun p hp => k.nx _ _ G1 _ ((rl.step s1).ownNew hp hA) s1.gg h1⟩
  | _ => exact h1.elim
def aSetOwnRev (i j : Nat) : AS := fun E ε => match ε[j]? with | some (.own xs) => E.nx (ε.set i (.own xs.reverse)) | _ => False
theorem as_setOwnRev (i j : Nat) : AbsS c (tAsg (tRevL K (tVar j)) (gName i)) (aSetOwnRev i j) := by
  intro ε σ G H rl E D' h k
  unfold aSetOwnRev at h
  split at h
  · rename_i xs hx
    obtain ⟨p, vs, h1, h2, h3, h4, h5⟩ := rl.ownAt hx
    exact ⟨.ref p, h1, p, vs, rfl, SqL.of h2, fun q hq => k.nx _ _ G _ (rl.ownNew hq h3.reverse) (Ex.refl _) h⟩
  · exact h.elim
def aAppend (i : Nat) (a : AE) : AS := fun E ε => match ε[i]? with
  | some (.own xs) => a ε fun d => xs.length < sizeLine ∧ E.nx (ε.set i (.own (xs ++ [d])))
  | _ => False
theorem as_append (i : Nat) {te : TE} {a : AE} (ha : AbsE c te a) : AbsS c (tDrop (tBM K "list" rAppend (tVar i) (tCons te tNil))) (aAppend i a) := by
  intro ε σ G H rl E D' h k
  unfold aAppend at h
  split at h
  · rename_i xs hx
    obtain ⟨p, vs, h1, h2, h3, h4, h5⟩ := rl.ownAt hx
    refine ⟨.ref p, h1, .inl ⟨rfl, vs, SqL.of h2⟩, ?_⟩
    refine ha ε σ G H rl _ _ h fun v d G1 H1 s1 r1 q1 => ?_
    obtain ⟨p', vs', g1, g2, g3, g4, g5⟩ := (rl.step s1).ownAt hx
    have e := g1.symm.trans h1
    cases e
    refine ⟨p, vs', v, rfl, rfl, g2, by rw [g3.length]; exact q1.1, ?_⟩
    exact k.nx _ _ G1 _ ((rl.step s1).ownSet hx g1 g4 g5 (g3.append (.one r1))) s1.gg q1.2
  · exact h.elim
def aSetAt (i : Nat) (a b : AE) : AS := fun E ε => match ε[i]? with
  | some (.own xs) => a ε fun d => b ε fun kd => (match kd with
    | .int k => (match ixN xs.length k with | some j => E.nx (ε.set i (.own (xs.set j d))) | none => False)
    | _ => False)
  | _ => False
theorem as_setAt (i : Nat) {te ti : TE} {a b : AE} (ha : AbsE c te a) (hb : AbsE c ti b) : AbsS c (tAsg te (gSub (tVar i) ti rSetL)) (aSetAt i a b) := by
  intro ε σ G H rl E D' h k
  unfold aSetAt at h
  split at h
  · rename_i xs hx
    refine ha ε σ G H rl _ _ h fun v d G1 H1 s1 r1 q1 => ?_
    obtain ⟨p, vs, h1, h2, h3, h4, h5⟩ := (rl.step s1).ownAt hx
    refine ⟨.ref p, h1, ?_⟩
    refine hb ε σ G1 H1 (rl.step s1) _ _ q1 fun y dy G2 H2 s2 r2 q2 => ?_
    have rl2 := (rl.step s1).step s2
    obtain ⟨p', vs', g1, g2, g3, g4, g5⟩ := rl2.ownAt hx
    have e := g1.symm.trans h1
    cases e
    cases r2 with
    | int z =>
      cases hj : ixN xs.length z with
      | some j =>
        simp only [hj] at q2
        refine ⟨p, vs', z, j, rfl, rfl, g2, by rw [g3.length]; exact hj, ?_⟩
        exact k.nx _ _ G2 _ (rl2.ownSet hx g1 g4 g5 (g3.set j (r1.mono s2.gg))) (s1.gg.trans s2.gg) q2
      | none => simp only [hj] at q2
    | _ => exact q2.elim
  · exact h.elim
def aPop (i : Nat) (a : AE) : AS := fun E ε => match ε[i]? with
  | some (.own xs) => a ε fun kd => (match kd with
    | .int k => 0 ≤ k ∧ k < (xs.length : Int) ∧ k < 2 ^ 63 ∧ E.nx (ε.set i (.own (xs.eraseIdx k.toNat)))
    | _ => False)
  | _ => False
theorem RvA.erase {G : Hp} : ∀ {vs : List V} {ds : List D} (n : Nat), RvA K G vs ds → RvA K G (vs.eraseIdx n) (ds.eraseIdx n)
  | _, _, _, .nil => by simp only [List.eraseIdx_nil]; exact .nil
  | _, _, 0, .cons h r => r
  | _, _, n + 1, .cons h r => .cons h (RvA.erase n r)
theorem as_pop (i : Nat) {te : TE} {a : AE} (ha : AbsE c te a) : AbsS c (tDrop (tBM K "list" rPopAt (tVar i) (tCons te tNil))) (aPop i a) := by
  intro ε σ G H rl E D' h k
  unfold aPop at h
  split at h
  · rename_i xs hx
    obtain ⟨p, vs, h1, h2, h3, h4, h5⟩ := rl.ownAt hx
    refine ⟨.ref p, h1, .inl ⟨rfl, vs, SqL.of h2⟩, ?_⟩
    refine ha ε σ G H rl _ _ h fun v d G1 H1 s1 r1 q1 => ?_
    obtain ⟨p', vs', g1, g2, g3, g4, g5⟩ := (rl.step s1).ownAt hx
    have e := g1.symm.trans h1
    cases e
    cases r1 with
    | int z =>
      obtain ⟨z0, z1, z2, q1⟩ : 0 ≤ z ∧ z < (xs.length : Int) ∧ z < 2 ^ 63 ∧ E.nx (ε.set i (.own (xs.eraseIdx z.toNat))) := q1
      have hl : z.toNat < vs'.length := by rw [g3.length]; omega
      refine ⟨p, vs', z, z.toNat, vs'[z.toNat], rfl, rfl, g2, by omega, z2, ?_, List.getElem?_eq_getElem hl, ?_⟩
      · unfold seqIndex?
        rw [g3.length]
        simp only [show ¬ z < 0 by omega, if_false]
        rw [if_pos (by simp; omega)]
      · exact k.nx _ _ G1 _ ((rl.step s1).ownSet hx g1 g4 g5 (g3.erase _)) s1.gg q1
    | _ => exact q1.elim
  · exact h.elim
def aInsert (i : Nat) (a b : AE) : AS := fun E ε => match ε[i]? with
  | some (.own xs) => a ε fun kd => b ε fun d => (match kd with
    | .int k => 0 ≤ k ∧ k < 2 ^ 63 ∧ xs.length < sizeLine ∧ E.nx (ε.set i (.own (xs.take k.toNat ++ [d] ++ xs.drop k.toNat)))
    | _ => False)
  | _ => False
theorem as_insert (i : Nat) {tk te : TE} {a b : AE} (ha : AbsE c tk a) (hb : AbsE c te b) : AbsS c (tDrop (tBM K "list" (fun x vs H Q => ∃ (l : Addr) (xs : List V) (i : Int) (y : V), x = .ref l ∧ vs = [.int i, y] ∧ H l = some (.lst xs) ∧ xs.length < sizeLine ∧ 0 ≤ i ∧ i < 2 ^ 63 ∧ Q .non (upd H l (.lst (xs.take i.toNat ++ [y] ++ xs.drop i.toNat)))) (tVar i) (tCons tk (tCons te tNil)))) (aInsert i a b) := by
  intro ε σ G H rl E D' h k
  unfold aInsert at h
  split at h
  · rename_i xs hx
    obtain ⟨p, vs, h1, h2, h3, h4, h5⟩ := rl.ownAt hx
    refine ⟨.ref p, h1, .inl ⟨rfl, vs, SqL.of h2⟩, ?_⟩
    refine ha ε σ G H rl _ _ h fun v d G1 H1 s1 r1 q1 => ?_
    refine hb ε σ G1 H1 (rl.step s1) _ _ q1 fun y dy G2 H2 s2 r2 q2 => ?_
    have rl2 := (rl.step s1).step s2
    obtain ⟨p', vs', g1, g2, g3, g4, g5⟩ := rl2.ownAt hx
    have e := g1.symm.trans h1
    cases e
    cases r1 with
    | int z =>
      obtain ⟨z0, z1, z2, q2⟩ : 0 ≤ z ∧ z < 2 ^ 63 ∧ xs.length < sizeLine ∧ E.nx (ε.set i (.own (xs.take z.toNat ++ [dy] ++ xs.drop z.toNat))) := q2
      refine ⟨p, vs', z, y, rfl, rfl, g2, by rw [g3.length]; exact z2, z0, z1, ?_⟩
      exact k.nx _ _ G2 _ (rl2.ownSet hx g1 g4 g5 (((g3.take _).append (.one r2)).append (g3.drop _))) (s1.gg.trans s2.gg) q2
    | _ => exact q2.elim
  · exact h.elim
def aFreeze (i : Nat) (s : AS) : AS := fun E ε => match ε[i]? with | some (.own xs) => s E (ε.set i (.d (.list xs))) | _ => False
theorem as_freeze (i : Nat) {t : TS} {s : AS} (hs : AbsS c t s) : AbsS c t (aFreeze i s) := by
  intro ε σ G H rl E D' h k
  unfold aFreeze at h
  split at h
  · rename_i xs hx
    obtain ⟨G', r', e⟩ := rl.freeze hx
    exact hs _ σ G' H r' E D' h (k.mono e)
  · exact h.elim
def aRetOwn (i : Nat) : AS := aFreeze i (aRet (aVar i))
theorem as_retOwn (i : Nat) : AbsS c (tRet (tVar i)) (aRetOwn i) := as_freeze i (as_ret (ae_var i))
def aAug (f : Int → Int → Int) (i : Nat) (a : AE) : AS := fun E ε => match ε[i]? with
  | some (.d (.int x)) => a ε fun d => (match d with | .int y => E.nx (ε.set i (.d (.int (f x y)))) | _ => False)
  | _ => False
theorem as_aug (i : Nat) {f : Int → Int → Int} {te : TE} {a : AE} (ha : AbsE c te a) : AbsS c (tAug i te (ipI f)) (aAug f i a) := by
  intro ε σ G H rl E D' h k
  unfold aAug at h
  split at h
  · rename_i x hx
    obtain ⟨o, ho, v, rfl, rv⟩ := rl.cell i _ hx
    cases rv
    refine ⟨.int x, ho, ?_⟩
    refine ha ε σ G H rl _ _ h fun y dy G1 H1 s1 r1 q1 => ?_
    cases r1 with
    | int z => exact ⟨x, z, rfl, rfl, k.nx _ _ G1 H1 ((rl.step s1).put (x := .d (.int (f x z))) ⟨_, rfl, .int _⟩ rfl) s1.gg q1⟩
    | _ => exact q1.elim
  · exact h.elim
/-- len, an item of a name that may be an own list -/
def aLenV (i : Nat) : AE := fun ε Q => match ε[i]? with | some (.own xs) => Q (.int (xs.length : Nat)) | some (.d d) => fLen [d] Q | _ => False
theorem ae_lenV (i : Nat) : AbsE c (tCB (fun xs H Q => ∃ x n, xs = [x] ∧ LenV K x H n ∧ Q (V.int ↑n) H) (tCons (tVar i) tNil)) (aLenV i) := by
  intro ε σ G H rl Qd Q h q
  unfold aLenV at h
  split at h
  · rename_i xs hx
    obtain ⟨p, vs, h1, h2, h3, h4, h5⟩ := rl.ownAt hx
    refine ⟨.ref p, h1, .ref p, vs.length, rfl, .inl ⟨vs, SqL.of h2, rfl⟩, q _ _ G H (.refl rl.ok) (.int _) ?_⟩
    rw [h3.length]; exact h
  · rename_i d hd
    obtain ⟨o, ho, v, rfl, rv⟩ := rl.cell i _ hd
    exact ⟨v, ho, ac_len G H [v] [d] rl.ok (.one rv) Qd Q h q⟩
  · exact h.elim
def aIxOwn (i : Nat) (b : AE) : AE := fun ε Q => match ε[i]? with
  | some (.own xs) => b ε fun y => fIx (.list xs) y Q
  | some (.d (.list xs)) => b ε fun y => fIx (.list xs) y Q
  | _ => False
theorem ae_ixOwn (i : Nat) {tb : TE} {b : AE} (hb : AbsE c tb b) : AbsE c (tOp (rIxL K) (tVar i) tb) (aIxOwn i b) := by
  intro ε σ G H rl Qd Q h q
  have fin : ∀ (xs : List D) (p : Addr), σ[i]? = some (some (.ref p)) → (∀ G1 H1, Step c G H G1 H1 → ∃ vs, SqL K H1 p vs ∧ RvA K G1 vs xs) → (b ε fun y => fIx (.list xs) y Qd) → tOp (rIxL K) (tVar i) tb σ H Q := fun xs p hp hl h => by
    refine ⟨.ref p, hp, ?_⟩
    refine hb ε σ G H rl _ _ h fun y dy G1 H1 s1 r1 h1 => ?_
    obtain ⟨vs, hS, hA⟩ := hl G1 H1 s1
    cases r1 with
    | int z =>
      unfold fIx at h1
      simp only at h1
      split at h1
      · rename_i d hd
        obtain ⟨v, e1, e2⟩ := at_get hA hd
        exact ⟨p, vs, z, v, rfl, rfl, hS, e1, q _ _ G1 H1 s1 e2 h1⟩
      · exact h1.elim
    | _ => exact h1.elim
  unfold aIxOwn at h
  split at h
  · rename_i xs hx
    obtain ⟨p, vs, h1, h2, h3, h4, h5⟩ := rl.ownAt hx
    refine fin xs p h1 (fun G1 H1 s1 => ⟨vs, SqL.of (s1.hh p _ (nM c h5) h2), h3.mono s1.gg⟩) h
  · rename_i xs hx
    obtain ⟨o, ho, v, rfl, rv⟩ := rl.cell i _ hx
    cases rv with
    | @lst p vs _ hp hA => exact fin xs p ho (fun G1 H1 s1 => ⟨vs, SqL.of (s1.gh _ _ (s1.gg _ _ hp)), hA.mono s1.gg⟩) h
  · exact h.elim
end
/-! ### a list or a tuple is walked -/
def iAny (K : PySem.W.Frag) (tl : TE) : TI := fun σ H R => tl σ H fun x H1 => ∃ a, x = .ref a ∧ (((∃ xs, SqL K H1 a xs) ∧ R (Itl K a) H1) ∨ ((∃ xs, SqT K H1 a xs) ∧ R (Itt K a) H1))
section
variable {X : Cx} {pins : List (Addr × Obj)} {σ : St} {H : Hp} {s : Shared} {tg : Expr} {R : It → Hp → Prop} {a : Addr} {xs : List V}
theorem it_list (J : L2.Inv X pins σ H s) (hs : SqL X.K H a xs) (q : R (Itl X.K a) H) : wpAny (model X.prog X.w) X.A (pyIter (.ref a)) (PIE X pins σ tg R) X.xe s := by
  obtain ⟨us, _, il, _⟩ := J.list hs
  refine wpAny_pyIter_list il.isList ⟨_, [s.heap.objs.size], _, _, H, rfl, J.kept (t' := s.toks) fun b o e => ?_, turn_list a _, ⟨_, Heap.get?_push_size _ rfl, rfl, rfl⟩, fun b hb => ?_, q⟩
  · exact Heap.get?_push_of_some _ e
  · cases List.mem_singleton.mp hb
    exact J.fpOk (Nat.le_refl _) (J.hok.fresh (Nat.le_refl _))
theorem it_tup (J : L2.Inv X pins σ H s) (hs : SqT X.K H a xs) (q : R (Itt X.K a) H) : wpAny (model X.prog X.w) X.A (pyIter (.ref a)) (PIE X pins σ tg R) X.xe s := by
  obtain ⟨us, _, il, _⟩ := J.tuple hs
  refine wpAny_pyIter_tuple (show s.heap.IsTuple a us.toArray from il) ⟨_, [s.heap.objs.size], _, _, H, rfl, J.kept (t' := s.toks) fun b o e => ?_, turn_tuple a _, ⟨_, Heap.get?_push_size _ rfl, rfl, rfl⟩, fun b hb => ?_, q⟩
  · exact Heap.get?_push_of_some _ e
  · cases List.mem_singleton.mp hb
    exact J.fpOk (Nat.le_refl _) (J.hok.fresh (Nat.le_refl _))
theorem pi_any {l : Expr} {tl : TE} (hl : PE X l tl) : PI X tg l (iAny X.K tl) := ⟨fun pins s σ H R I h => thn (hl.run pins s σ H _ I h) fun v s1 ⟨x, H1, I1, r1, b, e, q⟩ => by
  subst e
  cases r1
  rcases q with ⟨⟨xs, hs⟩, q⟩ | ⟨⟨xs, hs⟩, q⟩
  · exact it_list I1 hs q
  · exact it_tup I1 hs q⟩
end
section
variable {K : PySem.W.Frag} {c : Ctx K} {ta : TE} {a : AE}
theorem walk_list {p : Addr} {xs : List V} {ds : List D} {g : Hp} (hp : g p = some (.lst xs)) (hA : RvA K g xs ds) : Walk c (Itl K p) ds g := fun i G H e k => ⟨fun hi => by
    have hS : SqL K H p xs := SqL.of (k.ex _ _ (e _ _ hp))
    have hl : i < xs.length := by rw [hA.length]; exact hi
    refine ⟨⟨xs, xs[i], hS, List.getElem?_eq_getElem hl⟩, fun x H' hy => ?_⟩
    obtain ⟨rfl, hy⟩ := hy
    obtain ⟨d, hd, hr⟩ := (hA.mono e).getV (hy xs hS)
    exact ⟨G, .refl k, d, hd, hr⟩, fun hi => ⟨xs, SqL.of (k.ex _ _ (e _ _ hp)), by rw [hA.length]; exact hi⟩⟩
theorem walk_tup {p : Addr} {xs : List V} {ds : List D} {g : Hp} (hp : SqT K g p xs) (hA : RvA K g xs ds) : Walk c (Itt K p) ds g := fun i G H e k => ⟨fun hi => by
    have hS : SqT K H p xs := k.ex.sqt (e.sqt hp)
    have hl : i < xs.length := by rw [hA.length]; exact hi
    refine ⟨⟨xs, xs[i], hS, List.getElem?_eq_getElem hl⟩, fun x H' hy => ?_⟩
    obtain ⟨rfl, hy⟩ := hy
    obtain ⟨d, hd, hr⟩ := (hA.mono e).getV (hy xs hS)
    exact ⟨G, .refl k, d, hd, hr⟩, fun hi => ⟨xs, k.ex.sqt (e.sqt hp), by rw [hA.length]; exact hi⟩⟩
def aiAny (a : AE) : AI := fun ε Q => a ε fun d => match d with | .list ds => Q ds | .tuple ds => Q ds | _ => False
theorem ai_any (ha : AbsE c ta a) : AbsI c (iAny K ta) (aiAny a) := by
  intro ε σ G H rl Qd R h q
  refine ha ε σ G H rl _ _ h fun x dx G1 H1 s1 r1 h1 => ?_
  have k1 := (rl.step s1).ok
  cases r1 with
  | @lst p xs ds hp hA => exact ⟨p, rfl, .inl ⟨⟨xs, SqL.of (k1.ex _ _ hp)⟩, q _ ds G1 H1 s1 (walk_list hp hA) h1⟩⟩
  | @tup p xs ds hp hA => exact ⟨p, rfl, .inr ⟨⟨xs, k1.ex.sqt hp⟩, q _ ds G1 H1 s1 (walk_tup hp hA) h1⟩⟩
  | _ => exact h1.elim
/-! list(range(n)) -/
def aListRg1 (a : AE) : AE := fun ε Q => a ε fun d => match d with | .int n => 0 ≤ n ∧ n ≤ 1000000 ∧ Q (.list (rngD 0 n.toNat)) | _ => False
theorem rgV_rv {G : Hp} (n : Nat) : RvA K G ((List.range n).map fun (i : Nat) => V.int (0 + (i : Nat))) (rngD 0 n) := by
  unfold rngD
  induction n with
  | zero => exact .nil
  | succ n ih =>
    rw [List.range_succ, List.map_append, List.map_append]
    exact ih.append (.one (.int _))
theorem ae_listRg1 (ha : AbsE c ta a) : AbsE c (tLstRg (tRg1 ta)) (aListRg1 a) := by
  intro ε σ G H rl Qd Q h q
  refine ha ε σ G H rl _ _ h fun x dx G1 H1 s1 r1 h1 => ?_
  cases r1 with
  | int n =>
    obtain ⟨n0, n1, h1⟩ : 0 ≤ n ∧ n ≤ 1000000 ∧ Qd (.list (rngD 0 n.toNat)) := h1
    refine ⟨n, rfl, ⟨by omega, by omega, by omega, by omega, by omega⟩, fun p hp => ?_⟩
    have s2 := Step.new (o := .lst (rgV 0 n)) (rl.step s1).ok hp
    refine q _ _ _ _ (s1.trans s2) (.lst upd_same ?_) h1
    unfold rgV
    rw [Int.sub_zero]
    exact rgV_rv _
  | _ => exact h1.elim
end
/-! ### products -/
def rMulS : R2 := fun x y H Q => ∃ z n, x = V.str z ∧ y = V.int n ∧ 0 ≤ n ∧ n ≤ 1000 ∧ z.length ≤ 1000 ∧ Q (V.str (Txt.mul z n)) H
theorem op_mulS {X : Cx} : OpR X (binaryOp .Mult) rMulS := by
  intro pins s σ H x y v u Q J rx ry ⟨z, n, ex, ey, n0, n1, hz, q⟩
  subst ex ey
  obtain ⟨t, et⟩ := rx
  obtain ⟨t2, et2⟩ := ry
  subst et et2
  exact SB.mul (PyProof.Rows.mulOk_of 1000 1000 hz (by omega) (by omega) (by decide) (by decide)) fun t' k => ⟨.str (Txt.mul z n), H, J.tok _, ⟨_, rfl⟩, q⟩
def rMulP (K : PySem.W.Frag) : R2 := fun x y H Q => rI CMul (fun i j => V.int (i * j)) x y H Q ∨ rMulS x y H Q ∨ rRepT K x y H Q
theorem kMul (K : PySem.W.Frag) {X : Cx} (h : X.K = K := by rfl) : OpR X (binaryOp .Mult) (rMulP K) := fun pins s σ H x y v u Q J rx ry hq => by
  subst h
  rcases hq with hq | hq | hq
  · exact op_mul pins s σ H x y v u Q J rx ry hq
  · exact op_mulS pins s σ H x y v u Q J rx ry hq
  · exact op_repT pins s σ H x y v u Q J rx ry hq
def fMulP : A2 := fun x y Q => match x, y with
  | .int i, .int j => CMul i j ∧ Q (.int (i * j))
  | .str z, .int n => 0 ≤ n ∧ n ≤ 1000 ∧ z.length ≤ 1000 ∧ Q (.str (Txt.mul z n))
  | .tuple xs, .int n => xs ≠ [] ∧ 2 ≤ n ∧ n ≤ 1000 ∧ xs.length ≤ 1000 ∧ Q (.tuple (List.replicate n.toNat xs).flatten)
  | _, _ => False
theorem ar_mulP {K : PySem.W.Frag} {c : Ctx K} : AbsR2 c (rMulP K) fMulP := by
  intro G H x y dx dy k rx ry Qd Q h q
  unfold fMulP at h
  split at h
  · cases rx; cases ry; exact .inl ⟨_, _, rfl, rfl, h.1, q _ _ G H (.refl k) (.int _) h.2⟩
  · cases rx; cases ry; exact .inr (.inl ⟨_, _, rfl, rfl, h.1, h.2.1, h.2.2.1, q _ _ G H (.refl k) (.str _) h.2.2.2⟩)
  · rename_i xs n
    cases ry
    cases rx with
    | @tup p us ds hp hA =>
      obtain ⟨h1, h2, h3, h4, h5⟩ := h
      refine .inr (.inr ⟨p, _, us, rfl, rfl, k.ex.sqt hp, fun e => h1 (by subst e; cases hA; rfl), h2, h3, by rw [hA.length]; exact h4, fun t ht => ?_⟩)
      have s := Step.new (o := .tup (List.replicate n.toNat us).flatten) k ht
      exact q _ _ _ _ s (.tup (SqT.of upd_same) ((hA.flat _).mono s.gg)) h5
  · exact h.elim
/-! ### in, not in -/
section
variable {K : PySem.W.Frag} {c : Ctx K}
def fInS : A2 := fun x y Q => ∃ (k : Nat) (z : Str), x = .str ⟨#[k]⟩ ∧ y = .str z ∧ Q (.bool (decide (k ∈ cl z)))
def fNotInS : A2 := fun x y Q => ∃ (k : Nat) (z : Str), x = .str ⟨#[k]⟩ ∧ y = .str z ∧ Q (.bool (!decide (k ∈ cl z)))
theorem ar_inS : AbsR2 c (fun x y H Q => ∃ (k : Nat) (z : Str), x = .str ⟨#[k]⟩ ∧ y = .str z ∧ Q (.bl (decide (k ∈ z.cps.toList))) H) fInS := by
  intro G H x y dx dy k rx ry Qd Q h q
  obtain ⟨j, z, rfl, rfl, h⟩ := h
  cases rx; cases ry
  exact ⟨j, z, rfl, rfl, q _ _ G H (.refl k) (.bl _) h⟩
theorem ar_notInS : AbsR2 c (fun x y H Q => ∃ (k : Nat) (z : Str), x = .str ⟨#[k]⟩ ∧ y = .str z ∧ Q (.bl (!decide (k ∈ z.cps.toList))) H) fNotInS := by
  intro G H x y dx dy k rx ry Qd Q h q
  obtain ⟨j, z, rfl, rfl, h⟩ := h
  cases rx; cases ry
  exact ⟨j, z, rfl, rfl, q _ _ G H (.refl k) (.bl _) h⟩
def flatD : D → Bool
  | .none => true | .bool _ => true | .int _ => true | .str _ => true | _ => false
def inD (x : D) (xs : List D) : Bool := xs.any fun y => PyData.eqv y x
theorem flat_of {G : Hp} {v : V} {d : D} (r : Rv K G v d) : flatV v = flatD d := by cases r <;> rfl
theorem eqV_of {G : Hp} {v w : V} {d e : D} (r : Rv K G v d) (r' : Rv K G w e) (h : flatD d = true) (h' : flatD e = true) : eqV v w = PyData.eqv d e := by
  cases r <;> cases r' <;> first | (simp [flatD] at h h'; done) | (simp [eqV, PyData.eqv])
theorem all_flat {G : Hp} : ∀ {vs : List V} {ds : List D}, RvA K G vs ds → ds.all flatD = true → vs.all flatV = true
  | _, _, .nil, _ => rfl
  | _, _, .cons h r, e => by
    simp only [List.all_cons, Bool.and_eq_true] at e ⊢
    exact ⟨by rw [flat_of h]; exact e.1, all_flat r e.2⟩
theorem inV_of {G : Hp} {x : V} {dx : D} (rx : Rv K G x dx) (hx : flatD dx = true) : ∀ {vs : List V} {ds : List D}, RvA K G vs ds → ds.all flatD = true → inV x vs = inD dx ds
  | _, _, .nil, _ => rfl
  | _, _, .cons h r, e => by
    simp only [List.all_cons, Bool.and_eq_true] at e
    unfold inV inD
    simp only [List.any_cons]
    rw [eqV_of h rx e.1 hx]
    exact congrArg _ (inV_of rx hx r e.2)
def fInG (neg : Bool) : A2 := fun x y Q => match y with
  | .list xs => flatD x = true ∧ xs.all flatD = true ∧ Q (.bool (if neg then !inD x xs else inD x xs))
  | .tuple xs => flatD x = true ∧ xs.all flatD = true ∧ Q (.bool (if neg then !inD x xs else inD x xs))
  | _ => False
abbrev fIn : A2 := fInG false
abbrev fNotIn : A2 := fInG true
theorem ar_inG {neg : Bool} : AbsR2 c (rIn K neg) (fInG neg) := by
  intro G H x y dx dy k rx ry Qd Q h q
  unfold fInG at h
  split at h
  · obtain ⟨h1, h2, h3⟩ := h
    cases ry with
    | @lst p us ds hp hA =>
      refine ⟨p, us, rfl, .inl (SqL.of (k.ex _ _ hp)), by rw [flat_of rx]; exact h1, all_flat hA h2, ?_⟩
      rw [inV_of rx h1 hA h2]
      exact q _ _ G H (.refl k) (.bl _) h3
  · obtain ⟨h1, h2, h3⟩ := h
    cases ry with
    | @tup p us ds hp hA =>
      refine ⟨p, us, rfl, .inr (k.ex.sqt hp), by rw [flat_of rx]; exact h1, all_flat hA h2, ?_⟩
      rw [inV_of rx h1 hA h2]
      exact q _ _ G H (.refl k) (.bl _) h3
  · exact h.elim
theorem ar_in : AbsR2 c (rIn K false) fIn := ar_inG
theorem ar_notIn : AbsR2 c (rIn K true) fNotIn := ar_inG
/-! isinstance(x, (T, U)) -/
def aIsi2 (T U : String) (a : AE) : AE := fun ε Q => a ε fun d => ∃ b b', kitB (tyD d) T = some b ∧ kitB (tyD d) U = some b' ∧ Q (.bool (b || b'))
theorem ae_isi2 {T U : String} {ta : TE} {a : AE} (ha : AbsE c ta a) : AbsE c (tCB (rIsiT K) (tCons ta (tCons (tTup (tCons (tC (.ty T)) (tCons (tC (.ty U)) tNil))) tNil))) (aIsi2 T U a) := by
  intro ε σ G H rl Qd Q h q
  refine ha ε σ G H rl _ _ h fun x dx G1 H1 s1 r1 h1 => ?_
  obtain ⟨b, b', hb, hb', h1⟩ := h1
  refine ⟨by show 2 ≤ sizeLine; decide, fun p hp => ?_⟩
  have k1 := (rl.step s1).ok
  have s2 := Step.new (o := .tup [.ty T, .ty U]) k1 hp
  refine ⟨x, p, [.ty T, .ty U], _, [.type T, .type U], b || b', rfl, upd_same, .cons (.ty T) (.cons (.ty U) .nil), ty_of (s2.ok k1).ex (r1.mono s2.gg), ?_, q _ _ _ _ (s1.trans s2) (.bl _) h1⟩
  refine kitAny_cons (kit_ty hb) (fun e => ?_) (fun e => by rw [e, Bool.true_or])
  refine kitAny_cons (kit_ty hb') (fun e' => ?_) (fun e' => by rw [e', Bool.or_true])
  rw [e, e']
  rfl
/-! truth of lists ahead of or, and -/
def aAndT (a b : AE) : AE := fun ε Q => a ε fun d => truOk d ∧ if truD d = true then b ε Q else Q d
theorem ae_andT {ta tb : TE} {a b : AE} (ha : AbsE c ta a) (hb : AbsE c tb b) : AbsE c (tAndT K ta tb) (aAndT a b) := by
  intro ε σ G H rl Qd Q h q
  refine ha ε σ G H rl _ _ h fun x dx G1 H1 s1 r1 h1 => ⟨truD dx, tru_of (rl.step s1).ok.ex r1 h1.1, ?_⟩
  have h2 := h1.2
  cases e : truD dx with
  | false => rw [e, if_neg Bool.false_ne_true] at h2; exact iteF (q _ _ G1 H1 s1 r1 h2)
  | true => rw [e, if_pos rfl] at h2; exact iteT (hb ε σ G1 H1 (rl.step s1) _ _ h2 fun v d G2 H2 s2 r2 h2 => q v d G2 H2 (s1.trans s2) r2 h2)
/-! reversed by a slice -/
def aRevL (a : AE) : AE := fun ε Q => a ε fun d => match d with | .list xs => Q (.list xs.reverse) | _ => False
theorem ae_revL {ta : TE} {a : AE} (ha : AbsE c ta a) : AbsE c (tRevL K ta) (aRevL a) := by
  intro ε σ G H rl Qd Q h q
  refine ha ε σ G H rl _ _ h fun x dx G1 H1 s1 r1 h1 => ?_
  cases r1 with
  | @lst p us ds hp hA =>
    refine ⟨p, us, rfl, SqL.of ((rl.step s1).ok.ex _ _ hp), fun t ht => ?_⟩
    have s2 := Step.new (o := .lst us.reverse) (rl.step s1).ok ht
    exact q _ _ _ _ (s1.trans s2) (.lst upd_same (hA.reverse.mono s2.gg)) h1
  | _ => exact h1.elim
/-! tuples of ints in order -/
def fLtT : A2 := fun x y Q => ∃ ns ms : List Int, x = .tuple (ns.map PyData.int) ∧ y = .tuple (ms.map PyData.int) ∧ Q (.bool (HT.lexLt ns ms))
theorem ar_ltT : AbsR2 c (rLtT K) fLtT := by
  intro G H x y dx dy k rx ry Qd Q h q
  obtain ⟨ns, ms, rfl, rfl, h⟩ := h
  cases rx with
  | @tup p us _ hp hA =>
    cases ry with
    | @tup p2 us2 _ hp2 hA2 =>
      have e := hA.ints
      have e2 := hA2.ints
      subst e e2
      exact ⟨p, p2, ns, ms, rfl, rfl, k.ex.sqt hp, k.ex.sqt hp2, q _ _ G H (.refl k) (.bl _) h⟩
end
end Fc

namespace Fc
open PySem L2
/-! ### more small words of readings -/
section
variable {Q : D → Prop} {a b e : D} {r : List D}
theorem atI_nat' {α : Type} {xs : List α} {i : Nat} {x : α} (h : xs[i]? = some x) : atI xs (i : Int) = some x := atI_nat h
theorem ixt0 : fIx (.tuple (a :: r)) (.int 0) Q = Q a := by
  have e : atI (a :: r) 0 = some a := atI_nat' (i := 0) rfl
  unfold fIx
  simp only [e]
theorem ixt1 : fIx (.tuple (a :: b :: r)) (.int 1) Q = Q b := by
  have e : atI (a :: b :: r) 1 = some b := atI_nat' (i := 1) rfl
  unfold fIx
  simp only [e]
theorem ixt2 : fIx (.tuple (a :: b :: e :: r)) (.int 2) Q = Q e := by
  have e : atI (a :: b :: e :: r) 2 = some e := atI_nat' (i := 2) rfl
  unfold fIx
  simp only [e]
theorem ixl0 : fIx (.list (a :: r)) (.int 0) Q = Q a := by
  have e : atI (a :: r) 0 = some a := atI_nat' (i := 0) rfl
  unfold fIx
  simp only [e]
theorem ixl1 : fIx (.list (a :: b :: r)) (.int 1) Q = Q b := by
  have e : atI (a :: b :: r) 1 = some b := atI_nat' (i := 1) rfl
  unfold fIx
  simp only [e]
theorem ix_nat {xs : List D} {i : Nat} {d : D} (h : xs[i]? = some d) (q : Q d) : fIx (.tuple xs) (.int (i : Int)) Q := by
  have e := atI_nat' h
  unfold fIx
  simp only [e]; exact q
theorem ixl_nat {xs : List D} {i : Nat} {d : D} (h : xs[i]? = some d) (q : Q d) : fIx (.list xs) (.int (i : Int)) Q := by
  have e := atI_nat' h
  unfold fIx
  simp only [e]; exact q
theorem ix_map {α : Type} {xs : List α} {f : α → D} {i : Nat} {x : α} (h : xs[i]? = some x) (q : Q (f x)) : fIx (.tuple (xs.map f)) (.int (i : Int)) Q := ix_nat (d := f x) (by rw [List.getElem?_map, h]; rfl) q
theorem ixl_map {α : Type} {xs : List α} {f : α → D} {i : Nat} {x : α} (h : xs[i]? = some x) (q : Q (f x)) : fIx (.list (xs.map f)) (.int (i : Int)) Q := ixl_nat (d := f x) (by rw [List.getElem?_map, h]; rfl) q
theorem ixl_last {xs : List D} {d : D} (h : xs.getLast? = some d) (q : Q d) : fIx (.list xs) (.int (-1)) Q := by
  unfold fIx
  have hn : xs ≠ [] := fun z => by rw [z] at h; cases h
  have hl : 0 < xs.length := List.length_pos_iff.mpr hn
  have e : atI xs (-1) = some d := by
    unfold atI ixN
    rw [if_neg (by omega), if_pos (by omega)]
    show xs[((-1 : Int) + (xs.length : Int)).toNat]? = some d
    rw [List.getLast?_eq_getElem?] at h
    rw [show ((-1 : Int) + (xs.length : Int)).toNat = xs.length - 1 by omega]
    exact h
  simp only [e]; exact q
/-- == and != of two ints, two texts -/
theorem eq_int {i j : Int} : fEq (.int i) (.int j) Q ↔ Q (.bool (decide (i = j))) := by
  constructor
  · rintro (⟨_, h⟩ | ⟨_, _, h⟩)
    · exact h
    · simp only [PyData.eqv] at h
      have e : (i == j) = decide (i = j) := rfl
      rwa [e] at h
  · intro h; exact .inl ⟨rfl, h⟩
theorem ne_int {i j : Int} : fNe (.int i) (.int j) Q ↔ Q (.bool (!decide (i = j))) := by
  constructor
  · rintro (⟨_, h⟩ | ⟨_, _, h⟩)
    · exact h
    · simp only [PyData.eqv] at h
      have e : (i == j) = decide (i = j) := rfl
      rwa [e] at h
  · intro h; exact .inl ⟨rfl, h⟩
theorem eq_str {i j : Str} (h : Q (.bool (decide (i = j)))) : fEq (.str i) (.str j) Q := .inl ⟨rfl, h⟩
theorem ne_str {i j : Str} (h : Q (.bool (!decide (i = j)))) : fNe (.str i) (.str j) Q := .inl ⟨rfl, h⟩
theorem ne_same {n : Nat} {d : D} (h : Sh n d) (hn : n ≤ 64) (q : Q (.bool false)) : fNe d d Q := by
  refine .inr ⟨h.shaped hn, h.shaped hn, ?_⟩
  rw [eqv_self h.lay]; exact q
theorem eq_same {n : Nat} {d : D} (h : Sh n d) (hn : n ≤ 64) (q : Q (.bool true)) : fEq d d Q := by
  refine .inr ⟨h.shaped hn, h.shaped hn, ?_⟩
  rw [eqv_self h.lay]; exact q
end
theorem rng_at {n i : Nat} {d : D} (h : (rngD 0 n)[i]? = some d) : i < n ∧ d = .int (i : Int) := by
  have hl := (List.getElem?_eq_some_iff.mp h).1
  rw [rngD_len] at hl
  rw [rngD_get hl, Int.zero_add] at h
  exact ⟨hl, (Option.some.inj h).symm⟩
theorem kb_tuple : kitB "tuple" "tuple" = some true := by decide +kernel
theorem kb_int : kitB "int" "int" = some true := by decide +kernel
theorem kb_intb : kitB "int" "bool" = some false := by decide +kernel
theorem kb_bb : kitB "bool" "bool" = some true := by decide +kernel
/-- _law_whole -/
def wholeD : D → Bool | .int _ => true | _ => false
def ds_law_whole : Ds := fun ds Q => ∃ d, ds = [d] ∧ (∀ x, d ≠ .dict x) ∧ Q (.bool (wholeD d))
theorem len_law_whole : ∀ ds Qd, ds_law_whole ds Qd → ds.length = 1 := by rintro ds Qd ⟨d, rfl, _⟩; rfl
theorem whole_eq {d : D} {Q : D → Prop} : ds_law_whole [d] Q ↔ ((∀ x, d ≠ .dict x) ∧ Q (.bool (wholeD d))) := by
  constructor
  · rintro ⟨e, h, h2⟩; cases h; exact h2
  · intro h; exact ⟨d, rfl, h⟩
theorem kit_whole : ∀ d : D, (∀ x, d ≠ .dict x) → ∃ b b', kitB (tyD d) "int" = some b ∧ kitB (tyD d) "bool" = some b' ∧ (b && !b') = wholeD d
  | .none, _ => ⟨false, false, by decide +kernel, by decide +kernel, rfl⟩
  | .bool _, _ => ⟨true, true, (show kitB "bool" "int" = some true by decide +kernel), (show kitB "bool" "bool" = some true by decide +kernel), rfl⟩
  | .int _, _ => ⟨true, false, (show kitB "int" "int" = some true by decide +kernel), (show kitB "int" "bool" = some false by decide +kernel), rfl⟩
  | .str _, _ => ⟨false, false, (show kitB "str" "int" = some false by decide +kernel), (show kitB "str" "bool" = some false by decide +kernel), rfl⟩
  | .list _, _ => ⟨false, false, (show kitB "list" "int" = some false by decide +kernel), (show kitB "list" "bool" = some false by decide +kernel), rfl⟩
  | .tuple _, _ => ⟨false, false, (show kitB "tuple" "int" = some false by decide +kernel), (show kitB "tuple" "bool" = some false by decide +kernel), rfl⟩
  | .dict x, h => (h x rfl).elim
/-! ### slips -/
abbrev Slips := List (Nat × Str)
def slipsD (sl : Slips) : D := .tuple (sl.map fun p => PyData.tuple [.int (p.1 : Int), .str p.2])
def numsD (rs : List Nat) : List D := rs.map fun n : Nat => PyData.int (n : Int)
theorem rngD_nums (n : Nat) : rngD 0 n = numsD (List.range n) := by
  unfold rngD numsD
  apply List.map_congr_left
  intro i _
  rw [Int.zero_add]
def readsL (body : List Str) (sl : Slips) (rs : List Nat) : List Str := rs.foldl (fun acc r => match sl[r]? with | some p => acc.set p.1 p.2 | none => acc) body
theorem readsL_len (body : List Str) (sl : Slips) (rs : List Nat) : (readsL body sl rs).length = body.length := by
  unfold readsL
  induction rs generalizing body with
  | nil => rfl
  | cons r t ih =>
    rw [List.foldl_cons, ih]
    split
    · rw [List.length_set]
    · rfl
/-- the lines that slips put right tell of line k -/
def toldL (sl : Slips) (rs : List Nat) (k : Nat) : List Str := rs.filterMap fun r => match sl[r]? with | some p => if p.1 = k then some p.2 else none | none => none
theorem readsL_get (body : List Str) (sl : Slips) (rs : List Nat) (k : Nat) (hk : k < body.length) : (readsL body sl rs)[k]? = some ((toldL sl rs k).getLast?.getD (body[k]'hk)) := by
  induction rs generalizing body with
  | nil => show body[k]? = _; rw [List.getElem?_eq_getElem hk]; rfl
  | cons r t ih =>
    unfold readsL toldL
    rw [List.foldl_cons, List.filterMap_cons]
    cases hr : sl[r]? with
    | none => simp only; exact ih body hk
    | some p =>
      simp only
      have h2 := ih (body.set p.1 p.2) (by rw [List.length_set]; exact hk)
      unfold readsL toldL at h2
      rw [h2]
      by_cases e : p.1 = k
      · simp only [e, if_true]
        congr 1
        rw [List.getElem_set]
        simp only [e, if_true]
        generalize (List.filterMap _ t) = m
        cases m with
        | nil => rfl
        | cons x y => rw [List.getLast?_cons_cons, List.getLast?_eq_some_getLast (List.cons_ne_nil x y)]; rfl
      · simp only [e, if_false]
        congr 2
        rw [List.getElem_set, if_neg e]
def lawReads (body : List Str) (sl : Slips) (rs : List Nat) : List Str := (List.range body.length).map fun k => (toldL sl rs k).getLast?.getD (body.getD k ⟨#[]⟩)
theorem reads_same (body : List Str) (sl : Slips) (rs : List Nat) : readsL body sl rs = lawReads body sl rs := by
  apply List.ext_getElem?
  intro k
  by_cases hk : k < body.length
  · rw [readsL_get body sl rs k hk]
    unfold lawReads
    rw [List.getElem?_map, List.getElem?_range hk]
    simp only [Option.map_some]
    rw [List.getD_eq_getElem?_getD, List.getElem?_eq_getElem hk]
    rfl
  · rw [List.getElem?_eq_none (by rw [readsL_len]; omega), List.getElem?_eq_none (by unfold lawReads; rw [List.length_map, List.length_range]; omega)]
structure SlipsOk (n : Nat) (sl : Slips) : Prop where
  lt : ∀ p ∈ sl, p.1 < n
  ln : ∀ p ∈ sl, LineS p.2
theorem toldL_mem {sl : Slips} {rs : List Nat} {k : Nat} {x : Str} (h : x ∈ toldL sl rs k) : ∃ p ∈ sl, p.2 = x := by
  unfold toldL at h
  obtain ⟨r, _, hr⟩ := List.mem_filterMap.mp h
  split at hr
  · rename_i p hp
    split at hr
    · cases hr; exact ⟨p, List.mem_of_getElem? hp, rfl⟩
    · cases hr
  · cases hr
theorem readsL_line {body : List Str} {sl : Slips} {rs : List Nat} (hb : ∀ x ∈ body, LineS x) (hs : ∀ p ∈ sl, LineS p.2) : ∀ x ∈ readsL body sl rs, LineS x := by
  unfold readsL
  induction rs generalizing body with
  | nil => exact hb
  | cons r t ih =>
    rw [List.foldl_cons]
    refine ih ?_
    split
    · rename_i p hp
      intro x hx
      rcases List.mem_or_eq_of_mem_set hx with hx | rfl
      · exact hb x hx
      · exact hs p (List.mem_of_getElem? hp)
    · exact hb
theorem Sh.body {n : Nat} {xs : List Str} (h : ∀ x ∈ xs, LineS x) : Sh (n + 1) (bodyD xs) := .strs fun x hx => (h x hx).ok
/-- a word of numbers: a tuple or a list -/
def NumsIs (d : D) (rs : List Nat) : Prop := d = .tuple (numsD rs) ∨ d = .list (numsD rs)
def ds_reads : Ds := fun ds Q => ∃ (body : List Str) (sl : Slips) (d : D) (rs : List Nat), ds = [bodyD body, slipsD sl, d] ∧ NumsIs d rs ∧ (∀ r ∈ rs, r < sl.length) ∧ SlipsOk body.length sl ∧ Q (bodyD (readsL body sl rs))
theorem len_reads : ∀ ds Qd, ds_reads ds Qd → ds.length = 3 := by rintro ds Qd ⟨_, _, _, _, rfl, _⟩; rfl
def ds_law_reads : Ds := fun ds Q => ∃ (body : List Str) (sl : Slips) (d : D) (rs : List Nat), ds = [bodyD body, slipsD sl, d] ∧ body.length ≤ 1000 ∧ rs.length ≤ 1000 ∧ NumsIs d rs ∧ (∀ r ∈ rs, r < sl.length) ∧ Q (bodyD (lawReads body sl rs))
theorem len_law_reads : ∀ ds Qd, ds_law_reads ds Qd → ds.length = 3 := by rintro ds Qd ⟨_, _, _, _, rfl, _⟩; rfl
def ds_law_slipped : Ds := fun ds Q => ∃ (n : Nat) (m : Int), ds = [.int (n : Int), .int m] ∧ n ≤ 1000 ∧ 0 ≤ m ∧ m ≤ 1000 ∧ ∀ sl : Slips, SlipsOk n sl → (sl.length : Int) ≤ m → Q (slipsD sl)
theorem len_law_slipped : ∀ ds Qd, ds_law_slipped ds Qd → ds.length + 1 = 3 := by rintro ds Qd ⟨_, _, rfl, _⟩; rfl
def ds_law_rights : Ds := fun ds Q => ∃ (sl : Slips) (m : Int), ds = [slipsD sl, .int m] ∧ sl.length ≤ 1000 ∧ 0 < m ∧ m ≤ 1000 ∧ ∀ rs : List Nat, rs.Pairwise (· < ·) → (∀ r ∈ rs, r < sl.length) → rs.length ≤ sl.length → Q (.tuple (numsD rs))
theorem len_law_rights : ∀ ds Qd, ds_law_rights ds Qd → ds.length + 1 = 3 := by rintro ds Qd ⟨_, _, rfl, _⟩; rfl
end Fc
namespace Fc
theorem ite_no {c A B : Prop} [Decidable c] (h : ¬ c) (b : B) : if c then A else B := by rw [if_neg h]; exact b
theorem ite_yes {c A B : Prop} [Decidable c] (h : c) (a : A) : if c then A else B := by rw [if_pos h]; exact a
end Fc
namespace Fc
open PySem L2
theorem spT_never {P : Program} {w : World} {K : PySem.W.Frag} {mg : Str → Option Value} {base : Heap} {CX : CXT} {k : Nat} {f : Addr} {fd : FuncData} {ps : List Str} : FnOk P w K mg base CX k f fd ps (spT K fun _ _ => False) :=
  ⟨fun _ _ _ _ h => by obtain ⟨_, _, _, _, _, _, _, _, _, _, _, _, _, h, _⟩ := h; exact h.elim, fun _ _ _ _ _ _ _ _ _ _ _ _ _ h => by obtain ⟨_, _, _, _, _, _, _, _, _, _, _, _, _, h, _⟩ := h; exact h.elim⟩
theorem spP_never {P : Program} {w : World} {K : PySem.W.Frag} {mg : Str → Option Value} {base : Heap} {CX : CXT} {k : Nat} {f : Addr} {fd : FuncData} {ps : List Str} : FnOk P w K mg base CX k f fd ps (spP K fun _ _ => False) :=
  ⟨fun _ _ _ _ h => by obtain ⟨_, _, _, _, _, h, _⟩ := h; exact h.elim, fun _ _ _ _ _ _ _ _ _ _ _ _ _ h => by obtain ⟨_, _, _, _, _, h, _⟩ := h; exact h.elim⟩
end Fc

namespace Fc
open PySem L2
/-! ### enumerate(t), t a tuple -/
theorem enumT_new (t : Addr) (its : Array Value) (n : Nat) (dd : Option Addr) (sl : Array (Option Value)) :
    Meets (Builtin.«enumerate.__new__» ⟨[.type "enumerate", .ref t], []⟩) (fun _ R s => s.heap.get? t = some ⟨.type "tuple", dd, .seq its n, sl⟩ ∧
      R (.ok (.ret (.ref (s.heap.push { cls := .type "tuple_iterator", data := .fields #[.ref t, .int 0 0] }).objs.size))) { s with heap := (s.heap.push { cls := .type "tuple_iterator", data := .fields #[.ref t, .int 0 0] }).push { cls := .type "enumerate", data := .fields #[.none, .bool false, .ref s.heap.objs.size, rawInt 0, .none, .none] } }) :=
  .of_wp fun prog w A R s h0 => by
    obtain ⟨hp, g, d, tk, os⟩ := s
    obtain ⟨ht, h⟩ := h0
    have hsub := sub_enumerate
    have hT : Heap.IsTuple (Shared.heap ⟨hp, g, d, tk, os⟩) t its := ⟨_, ht, rfl, n, rfl⟩
    wp_walk using AutoSeq1.wpAny_loadPart' ht
    refine wpAny_stack_any fun st => wpAny_pure ?_
    split
    · rename_i c _ _ _ _ _
      cases (c == Value.type "enumerate") <;> (wp_walk using AutoSeq1.wpAny_loadPart' ht, wpAny_pyIter_tuple hT; exact ⟨_, rfl, h⟩)
    · wp_walk using AutoSeq1.wpAny_loadPart' ht, wpAny_pyIter_tuple hT
      exact ⟨_, rfl, h⟩
theorem call_enumT {prog : Program} {w : World} {A : Around} {E : Value → Shared → Prop} {s : Shared} {t : Addr} {its : Array Value} {Q : Value → Shared → Prop} (ht : s.heap.IsTuple t its)
    (q : ∀ h', IsEnum h' (s.heap.objs.size + 1) s.heap.objs.size 0 .none → h'.IsTupleIter s.heap.objs.size t 0 → (∀ b o, s.heap.get? b = some o → h'.get? b = some o) → Q (.ref (s.heap.objs.size + 1)) { s with heap := h' }) :
    wpAny (model prog w) A (call (.type "enumerate") [.ref t]) Q E s := by
  obtain ⟨⟨c, dd, dt, sl⟩, hl, hc, n, hd⟩ := ht
  cases (show c = .type "tuple" from hc)
  cases (show dt = .seq its n from hd)
  refine callType_new F.called_enumerate (by decide) (F.typeCall_enumerate_1 _) (F.newCall_enumerate_1 _) (fun obj => F.args_object_init_2 obj _) F.entry_enumerate_new (enumT_new t its n dd sl) ⟨hl, ?_⟩
  generalize eo : (⟨.type "tuple_iterator", none, .fields #[.ref t, .int 0 0], #[]⟩ : Obj) = oi
  have fr : oi.isFreed = false := by rw [← eo]; rfl
  have hz : (s.heap.push oi).objs.size = s.heap.objs.size + 1 := Heap.size_push ..
  show _ ∧ _
  rw [hz]
  have he : IsEnum ((s.heap.push oi).push { cls := .type "enumerate", data := .fields #[.none, .bool false, .ref s.heap.objs.size, rawInt 0, .none, .none] }) (s.heap.objs.size + 1) s.heap.objs.size 0 .none := by
    have g := Heap.get?_push_size (s.heap.push oi) (o := { cls := .type "enumerate", data := .fields #[.none, .bool false, .ref s.heap.objs.size, rawInt 0, .none, .none] }) rfl
    rw [hz] at g
    exact g
  refine ⟨⟨_, he, rfl⟩, q _ he ⟨oi, Heap.get?_push_of_some _ (Heap.get?_push_size _ fr), by rw [← eo], by rw [← eo]; rfl⟩ fun b o x => Heap.get?_push_of_some _ (Heap.get?_push_of_some _ x)⟩
def IteT (K : PySem.W.Frag) (a : Addr) : It :=
  ⟨fun i H => ∃ (xs : List V) (x : V), SqT K H a xs ∧ xs[i]? = some x,
   fun i H v H' => ∃ T x, v = .ref T ∧ H T = none ∧ H' = upd H T (.tup [.int (i : Nat), x]) ∧ ∀ xs, SqT K H a xs → xs[i]? = some x,
   fun i H => ∃ xs : List V, SqT K H a xs ∧ xs.length ≤ i⟩
theorem turn_enumT {P : Program} {w : World} {K : PySem.W.Frag} {elts : List Expr} {kk : Nat} {tpos : Pos} (a e it : Addr) (hei : e ≠ it) (hai : a ≠ it) (hea : e ≠ a) :
    Turn P w K (.Tuple elts kk tpos) (IteT K a) [e, it] e (fun i h => (∃ old, IsEnum h e it ((i : Nat) : Int) old) ∧ h.IsTupleIter it a i) where
  mem := List.mem_cons_self ..
  obj := fun i h st b hb => by
    obtain ⟨⟨old, he⟩, o, ho, hc, hd⟩ := st
    rcases List.mem_cons.mp hb with rfl | hb
    · exact ⟨_, he, fun v q => nomatch q⟩
    · cases List.mem_singleton.mp hb
      exact ⟨o, ho, fun v q => by rw [hd] at q; cases q⟩
  keep := fun i h h' st k => by
    obtain ⟨⟨old, he⟩, o, ho, r⟩ := st
    exact ⟨⟨old, k e (List.mem_cons_self ..) _ he⟩, o, k it (List.mem_cons_of_mem _ (List.mem_singleton.mpr rfl)) _ ho, r⟩
  item := by
    intro X hP hw hK hc i pins s σ H E J hf st hg
    subst hP hw hK
    obtain ⟨⟨old, he⟩, hit⟩ := st
    obtain ⟨xs, x, hq, hx⟩ := hg
    obtain ⟨us, rv, p, hz⟩ := J.tuple hq
    obtain ⟨u, hu, ru⟩ := rv.get hx
    have hel : e < s.heap.objs.size := Heap.lt_size he
    have hil : it < s.heap.objs.size := by obtain ⟨_, q, _⟩ := hit; exact Heap.lt_size q
    have Dr := Draws.tuple (prog := X.prog) (w := X.w) (A := X.A.in1) (J.ok.hd hc) it a hai us.toArray
    have hlt : i < us.toArray.size := by
      have := (List.getElem?_eq_some_iff.mp hu).1
      rw [List.size_toArray]; exact this
    refine wpAny_pyNext_enum_itemD Dr he ⟨hit, p⟩ hlt hei (fun z => ?_) fun y h' tk hy ho hst hT hsz hk => ?_
    · rcases List.mem_cons.mp z with z | z
      · exact hei z
      · exact hea (List.mem_singleton.mp z)
    have ey : y = u := by
      rw [List.getElem?_toArray, hu] at hy
      exact (Option.some.inj hy).symm
    subst ey
    refine ⟨_, rfl, wpAny_letOwnedTupleGo_enum (s := { s with heap := h', toks := tk + 1 }) ho fun h'' he' sb => ?_⟩
    have hT2 : h''.get? s.heap.objs.size = some { cls := .type "tuple", data := .seq #[.int i tk, y] } := (sb.2 _ (Nat.ne_of_gt hel)).trans hT
    have new : ObjOk X.prog X.w (upd H s.heap.objs.size (.tup [.int (i : Nat), x])) h'' s.heap.objs.size (.tup [.int (i : Nat), x]) := ⟨by show 2 ≤ sizeLine; decide, [.int i tk, y], .cons ⟨_, rfl⟩ (.cons ru .nil), ⟨_, hT2, rfl, _, rfl⟩⟩
    have ch : ∀ b, b ∉ ([e, it] : List Addr) → b ≠ e ∧ b ≠ it := fun b hb => ⟨fun z => hb (by simp [z]), fun z => hb (by simp [z])⟩
    have J1 := J.turnedNew (t' := tk + 1) (ch := [e, it]) (fun b ob hb q => (sb.2 b (ch b hb).1).trans (hk b ob (ch b hb).1 (ch b hb).2 q)) hf (Nat.le_refl _) new
    refine ⟨.ref s.heap.objs.size, _, J1, rfl, ⟨_, x, rfl, J.hok.fresh (Nat.le_refl _), rfl, fun ys hy' => by rw [J.tuple_inj hy' hq]; exact hx⟩, ⟨⟨y, ?_⟩, ?_⟩, fun b hb => ?_⟩
    · have e1 : ((i + 1 : Nat) : Int) = (i : Int) + 1 := by omega
      rw [e1]; exact he'
    · obtain ⟨⟨o, ho', r⟩, _⟩ := hst
      exact ⟨o, (sb.2 it hei.symm).trans ho', r⟩
    · have hlt' : b < s.heap.objs.size := by
        rcases List.mem_cons.mp hb with z | z
        · rw [z]; exact hel
        · rw [List.mem_singleton.mp z]; exact hil
      rw [upd_ne (Nat.ne_of_lt hlt')]
      exact (hf b hb).1
  done := by
    intro X hP hw hK hc i pins s σ H E J hf st hg
    subst hP hw hK
    obtain ⟨⟨old, he⟩, hit⟩ := st
    obtain ⟨xs, hq, hx⟩ := hg
    obtain ⟨us, rv, p, hz⟩ := J.tuple hq
    obtain ⟨f0, f1, f2, f3, f4, f5⟩ := hf it (List.mem_cons_of_mem _ (List.mem_singleton.mpr rfl))
    have Dr : Draws X.prog X.w X.A.in1 it [it, a] i (fun _ _ => True) (fun j h => h.IsTupleIter it a i ∧ h.IsTuple a us.toArray ∧ j = i) := {
      live := fun _ _ st => let ⟨o, ho, _⟩ := st.1; ⟨o, ho⟩
      frame := fun _ _ _ st hk => ⟨st.1.at fun o e => hk it (by simp) o e, st.2.1.at fun o e => hk a (by simp) o e, st.2.2⟩
      item := fun j s Q E hi st hQ => absurd hi (by rw [st.2.2]; exact Nat.lt_irrefl _)
      done := fun s Q E st hE => wpAny_nextOf_tuple_end (J.ok.hd hc) st.1 st.2.1 (by rw [List.getElem?_toArray]; exact List.getElem?_eq_none (by rw [← rv.length]; exact hx)) hE }
    exact wpAny_pyNext_enum_endD Dr he ⟨hit, p, rfl⟩ fun h' eb => ⟨rfl, J.turned (t' := s.toks) (fun b o hb q => eb b o hb q) f0 f1 f3 f4 f5⟩
  self := fun A i s Q E st h => by
    obtain ⟨⟨_, he⟩, _⟩ := st
    exact wpAny_pyIter_enum he h
def iEnumT (K : PySem.W.Frag) (ta : TA) : TI := fun σ H R => ta σ H fun vs H1 => ∃ a xs, vs = [.ref a] ∧ SqT K H1 a xs ∧ R (IteT K a) H1
theorem pi_enumT {X : Cx} {e : Expr} {ta : TA} {p pos tpos : Pos} {elts : List Expr} {kk : Nat} (hg : Gl X "enumerate") (hm : X.mg "enumerate" = none) (ha : PA X [e] ta) (hs : starEach [e] X.env = [(false, eval e X.env)] := by rfl) :
    PI X (.Tuple elts kk tpos) (.Call (.Name "enumerate" p) [e] [] pos) (iEnumT X.K ta) := ⟨fun pins s σ H R J h => by
  refine PyProof.Rows.Call_ (ld_blt J hg hm PyProof.Rows.boot_enumerate (PyProof.Rows.callWith_type1 (thn (ha.run pos pins s σ H _ J h) fun us s1 ⟨vs, H1, J1, r1, a, xs, ex, hq, q⟩ => ?_) hs rfl))
  subst ex
  cases r1 with
  | cons r rr =>
    cases rr
    cases r
    obtain ⟨ws, rv, p', hz⟩ := J1.tuple hq
    have hal : a < s1.heap.objs.size := by obtain ⟨o, ho, _⟩ := p'; exact Heap.lt_size ho
    refine call_enumT (show s1.heap.IsTuple a ws.toArray from p') fun h' he hit hk => wpAny_pyIter_enum he ?_
    have J2 : L2.Inv X pins σ H1 { s1 with heap := h' } := J1.kept (t' := s1.toks) hk
    refine ⟨s1.heap.objs.size + 1, [s1.heap.objs.size + 1, s1.heap.objs.size], _, _, H1, rfl, J2, turn_enumT a (s1.heap.objs.size + 1) s1.heap.objs.size (Nat.succ_ne_self _) (Nat.ne_of_lt hal) (Nat.ne_of_gt (Nat.lt_succ_of_lt hal)), ⟨⟨.none, he⟩, hit⟩, fun b hb => ?_, q⟩
    have hle : s1.heap.objs.size ≤ b := by
      rcases List.mem_cons.mp hb with z | z
      · rw [z]; exact Nat.le_succ _
      · rw [List.mem_singleton.mp z]; exact Nat.le_refl _
    exact J1.fpOk hle (J1.hok.fresh hle)⟩
section
variable {K : PySem.W.Frag} {c : Ctx K}
def enumD (xs : List D) : List D := xs.mapIdx fun i x => PyData.tuple [.int (i : Int), x]
def aiEnumT (r : AA) : AI := fun ε Q => r ε fun ds => match ds with | [.tuple xs] => Q (enumD xs) | _ => False
theorem ai_enumT {tr : TA} {ar : AA} (hr : AbsA c tr ar) : AbsI c (iEnumT K tr) (aiEnumT ar) := by
  intro ε σ G H rl Qd R h q
  refine hr ε σ G H rl _ _ h fun vs ds G1 H1 s1 r1 h1 => ?_
  split at h1
  · rename_i xs
    cases r1 with
    | cons a b =>
      cases b
      cases a with
      | @tup p us _ hp hA =>
        have k1 := (rl.step s1).ok
        refine ⟨p, us, rfl, k1.ex.sqt hp, q (IteT K p) _ G1 H1 s1 (fun i G2 H2 e k2 => ?_) h1⟩
        have hS : SqT K H2 p us := k2.ex.sqt (e.sqt hp)
        unfold enumD
        rw [List.length_mapIdx]
        refine ⟨fun hi => ?_, fun hi => ⟨us, hS, by rw [hA.length]; exact hi⟩⟩
        have hl : i < us.length := by rw [hA.length]; exact hi
        refine ⟨⟨us, us[i], hS, List.getElem?_eq_getElem hl⟩, fun x H' hy => ?_⟩
        obtain ⟨T, y, rfl, hT, rfl, hy⟩ := hy
        obtain ⟨d, hd, hr⟩ := (hA.mono e).getV (hy us hS)
        have s3 := Step.new (o := .tup [.int (i : Nat), y]) k2 hT
        refine ⟨_, s3, _, ?_, .tup (SqT.of upd_same) (.cons (.int _) (.cons (hr.mono s3.gg) .nil))⟩
        rw [List.getElem?_mapIdx, hd]; rfl
  · exact h1.elim
theorem enum_at {xs : List D} {i : Nat} {d : D} (h : (enumD xs)[i]? = some d) : ∃ x, xs[i]? = some x ∧ d = .tuple [.int (i : Int), x] := by
  unfold enumD at h
  rw [List.getElem?_mapIdx] at h
  cases hx : xs[i]? with
  | none => rw [hx] at h; cases h
  | some x => rw [hx] at h; exact ⟨x, rfl, (Option.some.inj h).symm⟩
theorem enumD_len (xs : List D) : (enumD xs).length = xs.length := by unfold enumD; rw [List.length_mapIdx]
end
/-! ### own dicts -/
def putD (kds : List (Key × D)) (k : Key) (v : D) : List (Key × D) :=
  if (kds.any fun kv => decide (kv.1 = k)) = true then kds.map (fun kv => if kv.1 = k then (kv.1, v) else kv) else kds ++ [(k, v)]
def getD' (kds : List (Key × D)) (k : Key) : Option D := (kds.find? fun kv => decide (kv.1 = k)).map (·.2)
theorem keyOf_inj {a b : Key} (h : kD a = kD b) : a = b := by
  cases a <;> cases b <;> simp [kD] at h <;> rw [h]
section
variable {K : PySem.W.Frag} {G : Hp}
theorem RvK.cases {kvs : List (Key × V)} {kds : List (Key × D)} (h : RvK K G kvs kds) : (kvs = [] ∧ kds = []) ∨ ∃ k v d r s, kvs = (k, v) :: r ∧ kds = (k, d) :: s ∧ Rv K G v d ∧ RvK K G r s := by
  obtain ⟨h1, h2⟩ := h
  cases kvs with
  | nil =>
    cases kds with
    | nil => exact .inl ⟨rfl, rfl⟩
    | cons a b => cases h1
  | cons a r =>
    cases kds with
    | nil => cases h1
    | cons b s =>
      obtain ⟨k, v⟩ := a
      obtain ⟨k', d⟩ := b
      simp only [List.map_cons, List.cons.injEq] at h1
      obtain ⟨rfl, h1⟩ := h1
      cases h2 with
      | cons hv hr => exact .inr ⟨k, v, d, r, s, rfl, rfl, hv, h1, hr⟩
theorem RvK.nil : RvK K G [] [] := ⟨rfl, .nil⟩
theorem RvK.cons {k : Key} {v : V} {d : D} {r : List (Key × V)} {s : List (Key × D)} (h : Rv K G v d) (hr : RvK K G r s) : RvK K G ((k, v) :: r) ((k, d) :: s) := ⟨by simp only [List.map_cons, hr.1], .cons h hr.2⟩
theorem RvK.len {kvs : List (Key × V)} {kds : List (Key × D)} (h : RvK K G kvs kds) : kvs.length = kds.length := by
  have := congrArg List.length h.1
  simpa using this
theorem RvK.get (kvs : List (Key × V)) : ∀ {kds : List (Key × D)}, RvK K G kvs kds → ∀ k : Key, (valV kvs k = none ∧ getD' kds k = none) ∨ ∃ v d, valV kvs k = some v ∧ getD' kds k = some d ∧ Rv K G v d := by
  induction kvs with
  | nil =>
    intro kds h k
    rcases h.cases with ⟨_, rfl⟩ | ⟨_, _, _, _, _, e, _⟩
    · exact .inl ⟨rfl, rfl⟩
    · cases e
  | cons a r ih =>
    intro kds h k
    rcases h.cases with ⟨e, _⟩ | ⟨k', v, d, r', s, e, rfl, hv, hr⟩
    · cases e
    · cases e
      unfold valV getD'
      by_cases q : k' = k
      · subst q
        exact .inr ⟨v, d, by simp, by simp, hv⟩
      · have := ih hr k
        unfold valV getD' at this
        simpa [q] using this
theorem RvK.any {kvs : List (Key × V)} {kds : List (Key × D)} (h : RvK K G kvs kds) (k : Key) : (kvs.any fun kv => decide (kv.1 = k)) = (kds.any fun kv => decide (kv.1 = k)) := by
  have e : ∀ {α : Type} (l : List (Key × α)), (l.any fun kv => decide (kv.1 = k)) = ((l.map (·.1)).any fun x => decide (x = k)) := fun l => by rw [List.any_map]; rfl
  rw [e, e, h.1]
theorem RvK.put {kvs : List (Key × V)} {kds : List (Key × D)} {k : Key} {v : V} {d : D} (h : RvK K G kvs kds) (hv : Rv K G v d) : RvK K G (putK kvs k v) (putD kds k d) := by
  unfold putK putD
  rw [h.any k]
  split
  · have go : ∀ (l : List (Key × V)) {m : List (Key × D)}, RvK K G l m → RvK K G (l.map fun kv => if kv.1 = k then (kv.1, v) else kv) (m.map fun kv => if kv.1 = k then (kv.1, d) else kv) := by
      intro l
      induction l with
      | nil =>
        intro m hm
        rcases hm.cases with ⟨_, rfl⟩ | ⟨_, _, _, _, _, e, _⟩
        · exact .nil
        · cases e
      | cons a r ih =>
        intro m hm
        rcases hm.cases with ⟨e, _⟩ | ⟨k', u, e', r', s, e, rfl, hu, hr⟩
        · cases e
        · cases e
          simp only [List.map_cons]
          by_cases q : k' = k
          · simp only [q, if_true]; exact .cons hv (ih hr)
          · simp only [q, if_false]; exact .cons hu (ih hr)
    exact go kvs h
  · refine ⟨by simp only [List.map_append, h.1, List.map_cons, List.map_nil], ?_⟩
    simp only [List.map_append, List.map_cons, List.map_nil]
    exact h.2.append (.one hv)
theorem RvK.ofDic {kvs : List (Key × V)} {kds : List (Key × D)} (h1 : kvs.map (·.1) = kds.map (·.1)) (h2 : RvA K G (kvs.map (·.2)) (kds.map (·.2))) : RvK K G kvs kds := ⟨h1, h2⟩
theorem key_of {v : V} {k : Key} (r : Rv K G v (kD k)) : v = kV k := by
  cases k with
  | inl i => cases r; rfl
  | inr x => cases r; rfl
end
section
variable {K : PySem.W.Frag} {c : Ctx K}
theorem Rel.dicAt {ε : En} {σ : St} {G H : Hp} (r : Rel c ε σ G H) {i : Nat} {kds : List (Key × D)} (h : ε[i]? = some (.dic kds)) : ∃ p kvs, σ[i]? = some (some (.ref p)) ∧ H p = some (.dK kvs) ∧ RvK K G kvs kds ∧ G p = none ∧ c.H0 p = none := by
  obtain ⟨o, ho, p, vs, rfl, h1, h2, h3, h4⟩ := r.cell i _ h
  exact ⟨p, vs, ho, h1, h2, h3, h4⟩
def aSetDic (i : Nat) : AS := fun E ε => E.nx (ε.set i (.dic []))
theorem as_setDic (i : Nat) : AbsS c (tAsg tDNewK (gName i)) (aSetDic i) := by
  intro ε σ G H rl E D' h k p hp
  obtain ⟨_, hg, h0⟩ := rl.fresh (o := .dK []) hp
  exact k.nx _ _ G _ (rl.putOwn (x := .dic []) hp ⟨p, [], rfl, upd_same, RvK.nil, hg, h0⟩) (Ex.refl _) h
/-- a key as a datum -/
def keyOf : D → Option Key | .int i => some (.inl i) | .str x => some (.inr x) | _ => none
theorem keyOf_some {d : D} {k : Key} (h : keyOf d = some k) : d = kD k := by
  cases d <;> simp [keyOf] at h <;> rw [← h] <;> rfl
def aDPut (i : Nat) (ak av : AE) : AS := fun E ε => match ε[i]? with
  | some (.dic kds) => av ε fun v => ak ε fun kd => (match keyOf kd with | some k => kds.length < sizeLine ∧ E.nx (ε.set i (.dic (putD kds k v))) | none => False)
  | _ => False
theorem as_dput (i : Nat) {tk tv : TE} {ak av : AE} (hk : AbsE c tk ak) (hv : AbsE c tv av) : AbsS c (sDPut (tVar i) tk tv) (aDPut i ak av) := by
  intro ε σ G H rl E D' h k
  unfold aDPut at h
  split at h
  · rename_i kds hx
    refine hv ε σ G H rl _ _ h fun v d G1 H1 s1 r1 q1 => ?_
    obtain ⟨p, vs, h1, h2, h3, h4, h5⟩ := (rl.step s1).dicAt hx
    refine ⟨.ref p, h1, ?_⟩
    refine hk ε σ G1 H1 (rl.step s1) _ _ q1 fun y dy G2 H2 s2 r2 q2 => ?_
    have rl2 := (rl.step s1).step s2
    obtain ⟨p', kvs, g1, g2, g3, g4, g5⟩ := rl2.dicAt hx
    have e := g1.symm.trans h1
    cases e
    cases hkey : keyOf dy with
    | none => simp only [hkey] at q2
    | some key =>
      simp only [hkey] at q2
      have ey := keyOf_some hkey
      subst ey
      have eq := key_of r2
      subst eq
      refine ⟨p, _, rfl, .inl ⟨kvs, key, g2, rfl, by rw [g3.len]; exact q2.1, rfl⟩, ?_⟩
      exact k.nx _ _ G2 _ (rl2.mut (x' := .dic (putD kds key d)) hx rfl g1 g4 g5 ⟨p, _, rfl, upd_same, g3.put (r1.mono s2.gg), g4, g5⟩) (s1.gg.trans s2.gg) q2.2
  · exact h.elim
/-- an own dict is from now on a datum -/
theorem Rel.freezeD {ε : En} {σ : St} {G H : Hp} (r : Rel c ε σ G H) {i : Nat} {kds : List (Key × D)} (hi : ε[i]? = some (.dic kds)) : ∃ G', Rel c (ε.set i (.d (dictD kds))) σ G' H ∧ Ex G G' := by
  obtain ⟨p, kvs, hs, hp, ha, hg, h0⟩ := r.dicAt hi
  have k := r.ok
  have eg : Ex G (upd G p (.dK kvs)) := Ex.new hg
  refine ⟨upd G p (.dK kvs), ⟨⟨r.his.gg.trans eg, fun b u e => ?_, r.his.hh, fun b g h => ?_, r.his.r⟩, by rw [List.length_set]; exact r.len, fun j y e => ?_, fun j l y z q ey ez oy oz sj sk => ?_⟩, eg⟩
  · by_cases q : b = p
    · subst q; rw [upd_same] at e; cases e; exact hp
    · rw [upd_ne q] at e; exact k.ex b u e
  · rw [upd_ne (fun q => h (by rw [q]; exact h0))]; exact r.his.fr b g h
  · rcases set_get e with ⟨rfl, hl, rfl⟩ | ⟨n, e⟩
    · exact ⟨_, hs, _, rfl, .dic upd_same (ha.mono eg).1 (ha.mono eg).2⟩
    · obtain ⟨w, w1, w2⟩ := r.cell j y e
      refine ⟨w, w1, ?_⟩
      cases y with
      | un => trivial
      | d x => obtain ⟨v, e1, e2⟩ := w2; exact ⟨v, e1, e2.mono eg⟩
      | own ys =>
        obtain ⟨q, us, e', g1, g2, g3, g4⟩ := w2
        refine ⟨q, us, e', g1, g2.mono eg, ?_, g4⟩
        rw [upd_ne (fun z => n (r.inj j i _ _ p e hi rfl rfl (by rw [w1, e', z]) hs))]; exact g3
      | dic kds =>
        obtain ⟨q, us, e', g1, g2, g3, g4⟩ := w2
        refine ⟨q, us, e', g1, g2.mono eg, ?_, g4⟩
        rw [upd_ne (fun z => n (r.inj j i _ _ p e hi rfl rfl (by rw [w1, e', z]) hs))]; exact g3
      | tape => exact w2
      | raw v => exact w2
  · rcases set_get ey with ⟨rfl, _, rfl⟩ | ⟨n, ey⟩
    · cases oy
    · rcases set_get ez with ⟨rfl, _, rfl⟩ | ⟨n2, ez⟩
      · cases oz
      · exact r.inj j l y z q ey ez oy oz sj sk
def aFreezeD (i : Nat) (s : AS) : AS := fun E ε => match ε[i]? with | some (.dic kds) => s E (ε.set i (.d (dictD kds))) | _ => False
theorem as_freezeD (i : Nat) {t : TS} {s : AS} (hs : AbsS c t s) : AbsS c t (aFreezeD i s) := by
  intro ε σ G H rl E D' h k
  unfold aFreezeD at h
  split at h
  · rename_i xs hx
    obtain ⟨G', r', e⟩ := rl.freezeD hx
    exact hs _ σ G' H r' E D' h (k.mono e)
  · exact h.elim
/-! d[k], k in d, d.get(k, x), of a dict that is a datum -/
def fDGet : A2 := fun x y Q => ∃ kds k, x = dictD kds ∧ keyOf y = some k ∧ ∃ d, getD' kds k = some d ∧ Q d
def aDGet (a b : AE) : AE := fun ε Q => a ε fun x => b ε fun y => fDGet x y Q
theorem dic_of {G : Hp} {x : V} {kds : List (Key × D)} (r : Rv K G x (dictD kds)) : ∃ p kvs, x = .ref p ∧ G p = some (.dK kvs) ∧ RvK K G kvs kds := by
  generalize e : dictD kds = d at r
  cases r with
  | pl _ _ _ =>
    unfold dictD at e
    cases kds with
    | nil => cases e
    | cons a r => obtain ⟨k, y⟩ := a; cases k <;> cases e
  | @dic p kvs kds' h1 h2 h3 =>
    unfold dictD at e
    have e2 : kds = kds' := by
      have e3 := PyData.dict.inj e
      clear e h1 h2 h3
      induction kds generalizing kds' with
      | nil => cases kds' with
        | nil => rfl
        | cons a b => cases e3
      | cons a b ih => cases kds' with
        | nil => cases e3
        | cons a' b' =>
          simp only [List.map_cons, List.cons.injEq, Prod.mk.injEq] at e3
          obtain ⟨⟨e4, e5⟩, e6⟩ := e3
          rw [ih e6]
          obtain ⟨k1, d1⟩ := a
          obtain ⟨k2, d2⟩ := a'
          rw [show k1 = k2 from keyOf_inj e4, show d1 = d2 from e5]
    subst e2
    exact ⟨p, kvs, rfl, h1, h2, h3⟩
  | _ => cases e
theorem ae_dget {ta tb : TE} {a b : AE} (ha : AbsE c ta a) (hb : AbsE c tb b) : AbsE c (tDGet ta tb) (aDGet a b) := by
  intro ε σ G H rl Qd Q h q
  refine ha ε σ G H rl _ _ h fun x dx G1 H1 s1 r1 h1 => ?_
  refine hb ε σ G1 H1 (rl.step s1) _ _ h1 fun y dy G2 H2 s2 r2 h2 => ?_
  obtain ⟨kds, key, rfl, hk, d, hd, h3⟩ := h2
  have ey := keyOf_some hk
  subst ey
  have eq := key_of r2
  subst eq
  obtain ⟨p, kvs, rfl, e1, e2⟩ := dic_of (r1.mono s2.gg)
  have k2 := ((rl.step s1).step s2).ok
  rcases e2.get kvs key with ⟨_, z⟩ | ⟨v, d', g1, g2, g3⟩
  · rw [hd] at z; cases z
  · rw [hd] at g2; cases g2
    exact ⟨p, v, rfl, .inl ⟨kvs, key, .inl (k2.ex _ _ e1), rfl, g1.symm⟩, q _ _ G2 H2 (s1.trans s2) g3 h3⟩
def aDIn (neg : Bool) (b a : AE) : AE := fun ε Q => b ε fun y => a ε fun x => ∃ kds k, x = dictD kds ∧ keyOf y = some k ∧ Q (.bool (if neg then !(getD' kds k).isSome else (getD' kds k).isSome))
theorem ae_din {ta tb : TE} {a b : AE} (hb : AbsE c tb b) (ha : AbsE c ta a) : AbsE c (tDIn tb ta) (aDIn false b a) := by
  intro ε σ G H rl Qd Q h q
  refine hb ε σ G H rl _ _ h fun y dy G1 H1 s1 r1 h1 => ?_
  refine ha ε σ G1 H1 (rl.step s1) _ _ h1 fun x dx G2 H2 s2 r2 h2 => ?_
  obtain ⟨kds, key, rfl, hk, h3⟩ := h2
  have ey := keyOf_some hk
  subst ey
  have eq := key_of r1
  subst eq
  obtain ⟨p, kvs, rfl, e1, e2⟩ := dic_of r2
  have k2 := ((rl.step s1).step s2).ok
  refine ⟨p, _, rfl, .inl ⟨kvs, key, .inl (k2.ex _ _ e1), rfl, rfl⟩, q _ _ G2 H2 (s1.trans s2) (.bl _) ?_⟩
  rcases e2.get kvs key with ⟨z1, z⟩ | ⟨v, d', g1, g2, g3⟩
  · rw [z1]; rw [z] at h3; exact h3
  · rw [g1]; rw [g2] at h3; exact h3
theorem ae_dnotin {ta tb : TE} {a b : AE} (hb : AbsE c tb b) (ha : AbsE c ta a) : AbsE c (tDNotIn tb ta) (aDIn true b a) := by
  intro ε σ G H rl Qd Q h q
  refine hb ε σ G H rl _ _ h fun y dy G1 H1 s1 r1 h1 => ?_
  refine ha ε σ G1 H1 (rl.step s1) _ _ h1 fun x dx G2 H2 s2 r2 h2 => ?_
  obtain ⟨kds, key, rfl, hk, h3⟩ := h2
  have ey := keyOf_some hk
  subst ey
  have eq := key_of r1
  subst eq
  obtain ⟨p, kvs, rfl, e1, e2⟩ := dic_of r2
  have k2 := ((rl.step s1).step s2).ok
  refine ⟨p, _, rfl, .inl ⟨kvs, key, .inl (k2.ex _ _ e1), rfl, rfl⟩, q _ _ G2 H2 (s1.trans s2) (.bl _) ?_⟩
  rcases e2.get kvs key with ⟨z1, z⟩ | ⟨v, d', g1, g2, g3⟩
  · rw [z1]; rw [z] at h3; exact h3
  · rw [g1]; rw [g2] at h3; exact h3
def aDGet2 (a b e : AE) : AE := fun ε Q => a ε fun x => (∃ kds, x = dictD kds) ∧ b ε fun y => e ε fun z => ∃ kds k, x = dictD kds ∧ keyOf y = some k ∧ Q ((getD' kds k).getD z)
theorem ae_dget2 {ta tb te : TE} {a b e : AE} (ha : AbsE c ta a) (hb : AbsE c tb b) (he : AbsE c te e) : AbsE c (tDGet2 ta tb te) (aDGet2 a b e) := by
  intro ε σ G H rl Qd Q h q
  refine ha ε σ G H rl _ _ h fun x dx G1 H1 s1 r1 h1 => ?_
  obtain ⟨⟨kds0, rfl⟩, h1⟩ := h1
  obtain ⟨p, kvs, rfl, e1, e2⟩ := dic_of r1
  have k1 := (rl.step s1).ok
  refine ⟨p, rfl, .inl ⟨kvs, .inl (k1.ex _ _ e1)⟩, ?_⟩
  refine hb ε σ G1 H1 (rl.step s1) _ _ h1 fun y dy G2 H2 s2 r2 h2 => ?_
  refine he ε σ G2 H2 ((rl.step s1).step s2) _ _ h2 fun z dz G3 H3 s3 r3 h3 => ?_
  obtain ⟨kds, key, ek, hk, h4⟩ := h3
  rw [ek] at r1
  obtain ⟨p', kvs', ep, e1', e2'⟩ := dic_of r1
  cases ep
  rw [e1] at e1'
  cases e1'
  have ey := keyOf_some hk
  subst ey
  have eq := key_of r2
  subst eq
  have sg := s2.gg.trans s3.gg
  have k3 := (((rl.step s1).step s2).step s3).ok
  refine ⟨_, .inl ⟨kvs, key, .inl (k3.ex _ _ (sg _ _ e1)), rfl, rfl⟩, ?_⟩
  rcases (e2'.mono sg).get kvs key with ⟨z1, z2⟩ | ⟨v, d', g1, g2, g3⟩
  · rw [z1]; rw [z2] at h4; exact q _ _ G3 H3 ((s1.trans s2).trans s3) r3 h4
  · rw [g1]; rw [g2] at h4; exact q _ _ G3 H3 ((s1.trans s2).trans s3) g3 h4
end
end Fc

namespace Fc
open PySem L2
theorem getD_put_same (kds : List (Key × D)) (k : Key) (v : D) : getD' (putD kds k v) k = some v := by
  unfold getD' putD
  by_cases h : (kds.any fun kv => decide (kv.1 = k)) = true
  · rw [if_pos h]
    induction kds with
    | nil => simp at h
    | cons a r ih =>
      by_cases q : a.1 = k
      · simp [q]
      · simp only [List.map_cons, q, if_false, List.find?_cons, decide_false]
        exact ih (by simpa [q] using h)
  · rw [if_neg h, List.find?_append]
    have e : kds.find? (fun kv => decide (kv.1 = k)) = none := by
      rw [List.find?_eq_none]
      intro x hx z
      exact h (List.any_eq_true.mpr ⟨x, hx, z⟩)
    rw [e]; simp
theorem getD_put_other (kds : List (Key × D)) {k k' : Key} (v : D) (hk : k' ≠ k) : getD' (putD kds k v) k' = getD' kds k' := by
  unfold getD' putD
  split
  · rename_i hh
    clear hh
    induction kds with
    | nil => rfl
    | cons a r ih =>
      by_cases q : a.1 = k
      · have n : ¬ a.1 = k' := fun z => hk (z.symm.trans q)
        have n2 : ¬ k = k' := fun z => hk z.symm
        simp only [List.map_cons, q, if_true, List.find?_cons, n2, decide_false]
        exact ih
      · simp only [List.map_cons, q, if_false, List.find?_cons]
        by_cases q2 : a.1 = k'
        · simp [q2]
        · simp only [q2, decide_false]; exact ih
  · rw [List.find?_append]
    have n2 : ¬ k = k' := fun z => hk z.symm
    cases kds.find? (fun kv => decide (kv.1 = k')) with
    | none => simp [n2]
    | some x => simp
theorem putD_len (kds : List (Key × D)) (k : Key) (v : D) : (putD kds k v).length ≤ kds.length + 1 := by
  unfold putD
  split
  · rw [List.length_map]; omega
  · rw [List.length_append]; exact Nat.le_refl _
/-! ### the last slip of each line -/
def lastIx (sl : Slips) (k i : Nat) : List Nat := (List.range i).filter fun n => decide ((sl[n]?.map (·.1)) = some k)
def lastD (sl : Slips) (i : Nat) : List (Key × D) := (List.range i).foldl (fun acc n => match sl[n]? with | some p => putD acc (.inl (p.1 : Int)) (.int (n : Int)) | none => acc) []
theorem lastD_succ (sl : Slips) (i : Nat) {p : Nat × Str} (h : sl[i]? = some p) : lastD sl (i + 1) = putD (lastD sl i) (.inl (p.1 : Int)) (.int (i : Int)) := by
  unfold lastD
  rw [List.range_succ, List.foldl_append]
  simp only [List.foldl_cons, List.foldl_nil, h]
theorem lastIx_succ (sl : Slips) (k i : Nat) {p : Nat × Str} (h : sl[i]? = some p) : lastIx sl k (i + 1) = lastIx sl k i ++ (if p.1 = k then [i] else []) := by
  unfold lastIx
  rw [List.range_succ, List.filter_append]
  congr 1
  by_cases e : p.1 = k <;> simp [h, e]
theorem lastD_len (sl : Slips) (i : Nat) : (lastD sl i).length ≤ i := by
  induction i with
  | zero => exact Nat.le_refl _
  | succ i ih =>
    cases h : sl[i]? with
    | some p => rw [lastD_succ sl i h]; have := putD_len (lastD sl i) (.inl (p.1 : Int)) (.int (i : Int)); omega
    | none =>
      unfold lastD at ih ⊢
      rw [List.range_succ, List.foldl_append]
      simp only [List.foldl_cons, List.foldl_nil, h]
      omega
theorem lastD_get (sl : Slips) (k : Nat) : ∀ i, i ≤ sl.length → getD' (lastD sl i) (.inl (k : Int)) = (lastIx sl k i).getLast?.map fun n : Nat => PyData.int (n : Int)
  | 0, _ => rfl
  | i + 1, h => by
    obtain ⟨p, hp⟩ : ∃ p, sl[i]? = some p := ⟨_, List.getElem?_eq_getElem (by omega)⟩
    rw [lastD_succ sl i hp, lastIx_succ sl k i hp]
    by_cases e : p.1 = k
    · rw [e, getD_put_same, if_pos rfl, List.getLast?_append]; rfl
    · rw [getD_put_other _ _ (by intro z; have := Sum.inl.inj z; omega), if_neg e, List.append_nil, lastD_get sl k i (by omega)]
theorem told_none {sl : Slips} {rs : List Nat} {k : Nat} (h : lastIx sl k sl.length = []) : toldL sl rs k = [] := by
  unfold toldL
  rw [List.filterMap_eq_nil_iff]
  intro r _
  split
  · rename_i p hp
    rw [if_neg]
    intro e
    have hl := (List.getElem?_eq_some_iff.mp hp).1
    have : r ∈ lastIx sl k sl.length := by
      unfold lastIx
      rw [List.mem_filter]
      exact ⟨List.mem_range.mpr hl, by simp [hp, e]⟩
    rw [h] at this; cases this
  · rfl
def ds_last_slips : Ds := fun ds Q => ∃ sl : Slips, ds = [slipsD sl] ∧ sl.length ≤ 1000 ∧ Q (dictD (lastD sl sl.length))
theorem len_last_slips : ∀ ds Qd, ds_last_slips ds Qd → ds.length = 1 := by rintro ds Qd ⟨_, rfl, _⟩; rfl
def wholeL (body : List Str) (sl : Slips) : List Str := readsL body sl (List.range sl.length)
def ds_wanted : Ds := fun ds Q => ∃ (body : List Str) (sl : Slips), ds = [bodyD body, slipsD sl] ∧ sl.length ≤ 1000 ∧ SlipsOk body.length sl ∧ Q (bodyD (wholeL body sl))
theorem len_wanted : ∀ ds Qd, ds_wanted ds Qd → ds.length = 2 := by rintro ds Qd ⟨_, _, rfl, _⟩; rfl
def copiesD (cs : List (List Nat)) : D := .list (cs.map fun rs => PyData.tuple (numsD rs))
/-- copy c lacks at line k -/
def LackAt (body : List Str) (sl : Slips) (rs : List Nat) (k : Nat) : Prop := (readsL body sl rs)[k]? ≠ (wholeL body sl)[k]?
inductive SameRes (body : List Str) (sl : Slips) (cs : List (List Nat)) : D → Prop
  | lacks {c k j : Nat} {rs : List Nat} : cs[c]? = some rs → k < body.length → LackAt body sl rs k → (∀ k' : Nat, k' < k → ¬ LackAt body sl rs k') → (∀ (c' : Nat) (rs' : List Nat), c' < c → cs[c']? = some rs' → ∀ k' : Nat, k' < body.length → ¬ LackAt body sl rs' k') → (lastIx sl k sl.length).getLast? = some j →
      SameRes body sl cs (.tuple [.str (Str.ofString "lacks"), .int (c : Int), .int (k : Int), .int (j : Int)])
  | same : (∀ (c : Nat) (rs : List Nat), cs[c]? = some rs → ∀ k : Nat, k < body.length → ¬ LackAt body sl rs k) → SameRes body sl cs (.tuple [.str (Str.ofString "same"), bodyD (wholeL body sl)])
theorem SameRes.one {body : List Str} {sl : Slips} {cs : List (List Nat)} {d e : D} (h : SameRes body sl cs d) (g : SameRes body sl cs e) : d = e := by
  cases h with
  | @lacks c k j rs h1 h2 h3 h4 h5 h6 =>
    cases g with
    | @lacks c' k' j' rs' g1 g2 g3 g4 g5 g6 =>
      have ec : c = c' := by
        rcases Nat.lt_trichotomy c c' with l | l | l
        · exact absurd h3 (g5 c rs l h1 k h2)
        · exact l
        · exact absurd g3 (h5 c' rs' l g1 k' g2)
      subst ec
      rw [h1] at g1
      cases g1
      have ek : k = k' := by
        rcases Nat.lt_trichotomy k k' with l | l | l
        · exact absurd h3 (g4 k l)
        · exact l
        · exact absurd g3 (h4 k' l)
      subst ek
      rw [h6] at g6
      cases g6
      rfl
    | same g1 => exact absurd h3 (g1 c rs h1 k h2)
  | same h1 =>
    cases g with
    | @lacks c' k' j' rs' g1 g2 g3 g4 g5 g6 => exact absurd g3 (h1 c' rs' g1 k' g2)
    | same g1 => rfl
theorem lack_last {body : List Str} {sl : Slips} {rs : List Nat} {k : Nat} (hk : k < body.length) (h : LackAt body sl rs k) : ∃ j, (lastIx sl k sl.length).getLast? = some j := by
  cases e : lastIx sl k sl.length with
  | cons a r => exact ⟨_, List.getLast?_eq_some_getLast (List.cons_ne_nil a r)⟩
  | nil =>
    exfalso
    apply h
    unfold wholeL
    rw [readsL_get body sl rs k hk, readsL_get body sl _ k hk, told_none e, told_none e]
def CopiesOk (sl : Slips) (cs : List (List Nat)) : Prop := ∀ rs ∈ cs, (∀ r ∈ rs, r < sl.length) ∧ rs.length ≤ 1000
def ds_same : Ds := fun ds Q => ∃ (body : List Str) (sl : Slips) (cs : List (List Nat)), ds = [bodyD body, slipsD sl, copiesD cs] ∧ body.length ≤ 1000 ∧ sl.length ≤ 1000 ∧ SlipsOk body.length sl ∧ CopiesOk sl cs ∧ ∀ d, SameRes body sl cs d → Q d
theorem len_same : ∀ ds Qd, ds_same ds Qd → ds.length = 3 := by rintro ds Qd ⟨_, _, _, rfl, _⟩; rfl
abbrev ds_law_same : Ds := ds_same
theorem len_law_same : ∀ ds Qd, ds_law_same ds Qd → ds.length = 3 := len_same
theorem Sh.same {body : List Str} {sl : Slips} {cs : List (List Nat)} {d : D} (hb : ∀ x ∈ body, LineS x) (hs : ∀ p ∈ sl, LineS p.2) (h : SameRes body sl cs d) : Sh 3 d := by
  cases h with
  | lacks =>
    refine .tuple fun e he => ?_
    simp only [List.mem_cons, List.not_mem_nil, or_false] at he
    rcases he with rfl | rfl | rfl | rfl
    · exact .str (by decide +kernel)
    · exact .int _
    · exact .int _
    · exact .int _
  | same =>
    refine .tuple fun e he => ?_
    simp only [List.mem_cons, List.not_mem_nil, or_false] at he
    rcases he with rfl | rfl
    · exact .str (by decide +kernel)
    · exact Sh.body (readsL_line hb hs)
theorem Sh.nums {n : Nat} {rs : List Nat} : Sh (n + 1) (.tuple (numsD rs)) := .tuple fun d hd => by
  obtain ⟨x, hx, rfl⟩ := List.mem_map.mp hd
  exact .int _
theorem Sh.copies {n : Nat} {cs : List (List Nat)} : Sh (n + 2) (copiesD cs) := .list fun d hd => by
  obtain ⟨x, hx, rfl⟩ := List.mem_map.mp hd
  exact .nums
end Fc

namespace Fc
open PySem L2
/-! ### anything: data of bounded depth and size -/
inductive Gd : Nat → Nat → D → Prop
  | none {n L : Nat} : Gd n L .none
  | bool {n L : Nat} (b : Bool) : Gd n L (.bool b)
  | int {n L : Nat} (i : Int) : Gd n L (.int i)
  | str {n L : Nat} {x : Str} : x.length ≤ L → PyData.strOk x = true → Gd n L (.str x)
  | list {n L : Nat} {ds : List D} : ds.length ≤ L → (∀ d ∈ ds, Gd n L d) → Gd (n + 1) L (.list ds)
  | tuple {n L : Nat} {ds : List D} : ds.length ≤ L → (∀ d ∈ ds, Gd n L d) → Gd (n + 1) L (.tuple ds)
theorem Gd.mono {n L : Nat} {d : D} (h : Gd n L d) : ∀ {m M : Nat}, n ≤ m → L ≤ M → Gd m M d := by
  induction h with
  | none => intro m M _ _; exact .none
  | bool b => intro m M _ _; exact .bool b
  | int i => intro m M _ _; exact .int i
  | str h1 h2 => intro m M _ h; exact .str (Nat.le_trans h1 h) h2
  | @list n L ds h1 h2 ih =>
    intro m M hn hl
    obtain ⟨m', rfl⟩ : ∃ m', m = m' + 1 := ⟨m - 1, by omega⟩
    exact .list (Nat.le_trans h1 hl) fun d hd => ih d hd (by omega) hl
  | @tuple n L ds h1 h2 ih =>
    intro m M hn hl
    obtain ⟨m', rfl⟩ : ∃ m', m = m' + 1 := ⟨m - 1, by omega⟩
    exact .tuple (Nat.le_trans h1 hl) fun d hd => ih d hd (by omega) hl
theorem Gd.sh {n L : Nat} {d : D} (h : Gd n L d) : Sh n d := by
  induction h with
  | none => exact .none
  | bool b => exact .bool b
  | int i => exact .int i
  | str h1 h2 => exact .str h2
  | list h1 h2 ih => exact .list ih
  | tuple h1 h2 ih => exact .tuple ih
theorem Gd.nd {n L : Nat} {d : D} (h : Gd n L d) : ∀ x, d ≠ .dict x := by intro x e; cases h <;> cases e
theorem Gd.of_line {n L : Nat} {x : Str} (h : LineS x) (hL : 30 ≤ L) : Gd n L (.str x) := .str (Nat.le_trans h.len hL) h.ok
theorem Gd.of_body {n L : Nat} {xs : List Str} (h : ∀ x ∈ xs, LineS x) (hL : 30 ≤ L) (hl : xs.length ≤ L) : Gd (n + 1) L (bodyD xs) := .tuple (by rw [List.length_map]; exact hl) fun d hd => by
  obtain ⟨x, hx, rfl⟩ := List.mem_map.mp hd
  exact .of_line (h x hx) hL
def isStr : D → Bool | .str _ => true | _ => false
def isTup : D → Bool | .tuple _ => true | _ => false
def isLst : D → Bool | .list _ => true | _ => false
def isBool : D → Bool | .bool _ => true | _ => false
theorem kit_str {d : D} (h : ∀ x, d ≠ .dict x) : kitB (tyD d) "str" = some (isStr d) := by
  cases d with
  | none => exact (show kitB "NoneType" "str" = some false by decide +kernel)
  | bool b => exact (show kitB "bool" "str" = some false by decide +kernel)
  | int i => exact (show kitB "int" "str" = some false by decide +kernel)
  | str x => exact (show kitB "str" "str" = some true by decide +kernel)
  | list x => exact (show kitB "list" "str" = some false by decide +kernel)
  | tuple x => exact (show kitB "tuple" "str" = some false by decide +kernel)
  | dict x => exact (h x rfl).elim
theorem kit_tup {d : D} (h : ∀ x, d ≠ .dict x) : kitB (tyD d) "tuple" = some (isTup d) := by
  cases d with
  | none => exact (show kitB "NoneType" "tuple" = some false by decide +kernel)
  | bool b => exact (show kitB "bool" "tuple" = some false by decide +kernel)
  | int i => exact (show kitB "int" "tuple" = some false by decide +kernel)
  | str x => exact (show kitB "str" "tuple" = some false by decide +kernel)
  | list x => exact (show kitB "list" "tuple" = some false by decide +kernel)
  | tuple x => exact (show kitB "tuple" "tuple" = some true by decide +kernel)
  | dict x => exact (h x rfl).elim
theorem kit_lst {d : D} (h : ∀ x, d ≠ .dict x) : kitB (tyD d) "list" = some (isLst d) := by
  cases d with
  | none => exact (show kitB "NoneType" "list" = some false by decide +kernel)
  | bool b => exact (show kitB "bool" "list" = some false by decide +kernel)
  | int i => exact (show kitB "int" "list" = some false by decide +kernel)
  | str x => exact (show kitB "str" "list" = some false by decide +kernel)
  | list x => exact (show kitB "list" "list" = some true by decide +kernel)
  | tuple x => exact (show kitB "tuple" "list" = some false by decide +kernel)
  | dict x => exact (h x rfl).elim
theorem kit_bool {d : D} (h : ∀ x, d ≠ .dict x) : kitB (tyD d) "bool" = some (isBool d) := by
  cases d with
  | none => exact (show kitB "NoneType" "bool" = some false by decide +kernel)
  | bool b => exact (show kitB "bool" "bool" = some true by decide +kernel)
  | int i => exact (show kitB "int" "bool" = some false by decide +kernel)
  | str x => exact (show kitB "str" "bool" = some false by decide +kernel)
  | list x => exact (show kitB "list" "bool" = some false by decide +kernel)
  | tuple x => exact (show kitB "tuple" "bool" = some false by decide +kernel)
  | dict x => exact (h x rfl).elim
/-! ### signs -/
theorem signs_at {x : Str} {i : Nat} {d : D} (h : (signs x)[i]? = some d) : ∃ k, (cl x)[i]? = some k ∧ d = .str ⟨#[k]⟩ := by
  unfold signs at h
  rw [List.getElem?_map] at h
  cases hk : (cl x)[i]? with
  | none => rw [show x.cps.toList[i]? = (cl x)[i]? from rfl, hk] at h; cases h
  | some k => rw [show x.cps.toList[i]? = (cl x)[i]? from rfl, hk] at h; exact ⟨k, rfl, (Option.some.inj h).symm⟩
theorem cl_small : cl (Str.ofString "abcdefghijklmnopqrstuvwxyz") = List.range' 97 26 := by decide +kernel
theorem cl_small_ : cl (Str.ofString "abcdefghijklmnopqrstuvwxyz ") = List.range' 97 26 ++ [32] := by decide +kernel
theorem in_small (k : Nat) : decide (k ∈ cl (Str.ofString "abcdefghijklmnopqrstuvwxyz")) = smallS k := by
  rw [cl_small]
  unfold smallS
  rw [← Bool.decide_and]
  apply decide_eq_decide.mpr
  rw [List.mem_range'_1]
  omega
theorem in_small_ (k : Nat) : decide (k ∈ cl (Str.ofString "abcdefghijklmnopqrstuvwxyz ")) = signL k := by
  rw [cl_small_]
  unfold signL smallS
  rw [← Bool.decide_and, show (k == 32) = decide (k = 32) from rfl, ← Bool.decide_or]
  apply decide_eq_decide.mpr
  rw [List.mem_append, List.mem_range'_1, List.mem_singleton]
  omega
theorem blank_eq : Str.ofString " " = ⟨#[32]⟩ := by decide +kernel
theorem one_blank (k : Nat) : decide ((⟨#[k]⟩ : Str) = Str.ofString " ") = (k == 32) := by
  rw [blank_eq, show (k == 32) = decide (k = 32) from rfl]
  apply decide_eq_decide.mpr
  constructor
  · intro h
    have := congrArg cl h
    simpa [cl_one] using this
  · intro h; rw [h]
theorem ixs_last {x : Str} {k : Nat} {Q : D → Prop} (hs : x.length ≤ sizeLine) (h : (cl x).getLast? = some k) (q : Q (.str ⟨#[k]⟩)) : fIx (.str x) (.int (-1)) Q := by
  have hn : cl x ≠ [] := fun z => by rw [z] at h; cases h
  have hl : 0 < (cl x).length := List.length_pos_iff.mpr hn
  have e : atI (cl x) (-1) = some k := by
    unfold atI ixN
    rw [if_neg (by omega), if_pos (by omega)]
    show (cl x)[((-1 : Int) + ((cl x).length : Int)).toNat]? = some k
    rw [List.getLast?_eq_getElem?] at h
    rw [show ((-1 : Int) + ((cl x).length : Int)).toNat = (cl x).length - 1 by omega]
    exact h
  unfold fIx
  refine ⟨hs, ?_⟩
  simp only [e]; exact q
theorem ixs_first {x : Str} {k : Nat} {Q : D → Prop} (hs : x.length ≤ sizeLine) (h : (cl x).head? = some k) (q : Q (.str ⟨#[k]⟩)) : fIx (.str x) (.int 0) Q := by
  have e : atI (cl x) 0 = some k := atI_nat' (i := 0) (by rw [← List.head?_eq_getElem?]; exact h)
  unfold fIx
  refine ⟨hs, ?_⟩
  simp only [e]; exact q
/-! ### lines, bodies, names of anything -/
def isLineD : D → Bool | .str x => lineB (cl x) | _ => false
def isBodyD : D → Bool | .tuple xs => decide (xs.length ≤ 60) && xs.all isLineD | _ => false
def nameB (l : List Nat) : Bool := decide (1 ≤ l.length) && decide (l.length ≤ 8) && l.all smallS
def isNameD : D → Bool | .str x => nameB (cl x) | _ => false
def ds_of (f : D → Bool) : Ds := fun ds Q => ∃ (d : D) (n L : Nat), ds = [d] ∧ Gd n L d ∧ n ≤ 60 ∧ L ≤ 100000 ∧ Q (.bool (f d))
theorem len_of (f : D → Bool) : ∀ ds Qd, ds_of f ds Qd → ds.length = 1 := by rintro ds Qd ⟨_, _, _, rfl, _⟩; rfl
theorem dsof {f : D → Bool} {d : D} {n L : Nat} {Q : D → Prop} (h : Gd n L d) (hn : n ≤ 60) (hL : L ≤ 100000) (q : Q (.bool (f d))) : ds_of f [d] Q := ⟨d, n, L, rfl, h, hn, hL, q⟩
abbrev ds_is_line : Ds := ds_of isLineD
abbrev ds_is_body : Ds := ds_of isBodyD
abbrev ds_is_name : Ds := ds_of isNameD
abbrev ds_law_is_line : Ds := ds_of isLineD
abbrev ds_law_is_body : Ds := ds_of isBodyD
abbrev ds_law_is_name : Ds := ds_of isNameD
theorem len_is_line : ∀ ds Qd, ds_is_line ds Qd → ds.length = 1 := len_of _
theorem len_is_body : ∀ ds Qd, ds_is_body ds Qd → ds.length = 1 := len_of _
theorem len_is_name : ∀ ds Qd, ds_is_name ds Qd → ds.length = 1 := len_of _
theorem len_law_is_line : ∀ ds Qd, ds_law_is_line ds Qd → ds.length = 1 := len_of _
theorem len_law_is_body : ∀ ds Qd, ds_law_is_body ds Qd → ds.length = 1 := len_of _
theorem len_law_is_name : ∀ ds Qd, ds_law_is_name ds Qd → ds.length = 1 := len_of _
/-! ### drawn texts and anything drawn -/
def NameL (l : List Nat) (m : Nat) : Prop := 1 ≤ l.length ∧ l.length ≤ m ∧ ∀ k ∈ l, smallS k = true
def ds_law_letters : Ds := fun ds Q => ∃ m : Nat, ds = [.int (m : Int)] ∧ 1 ≤ m ∧ m ≤ 1000 ∧ ∀ x : Str, NameL (cl x) m → Q (.str x)
theorem len_law_letters : ∀ ds Qd, ds_law_letters ds Qd → ds.length + 1 = 2 := by rintro ds Qd ⟨_, rfl, _⟩; rfl
theorem small_lt {k : Nat} (h : smallS k = true) : k < 0x110000 := by
  unfold smallS at h
  simp only [Bool.and_eq_true, decide_eq_true_eq] at h
  omega
theorem NameL.gd {x : Str} {m n L : Nat} (h : NameL (cl x) m) (hL : m ≤ L) : Gd n L (.str x) := .str (by rw [← cl_len]; exact Nat.le_trans h.2.1 hL) (strOk_of fun k hk => small_lt (h.2.2 k hk))
def ds_law_any (n : Nat) : Ds := fun ds Q => ∃ deep : Int, ds = [.int deep] ∧ deep ≤ n ∧ ∀ e, Gd n 30 e → Q e
theorem len_law_any (n : Nat) : ∀ ds Qd, ds_law_any n ds Qd → ds.length + 1 = 2 := by rintro ds Qd ⟨_, rfl, _⟩; rfl
def prev_law_any : Nat → Ds | 0 => fun _ _ => False | n + 1 => ds_law_any n
def ds_law_spoilt (n : Nat) : Ds := fun ds Q => ∃ (d : D) (L : Nat), ds = [d] ∧ Gd n L d ∧ 30 ≤ L ∧ L ≤ 900 ∧ ∀ e, Gd (n + 3) (L + 30) e → Q e
theorem len_law_spoilt (n : Nat) : ∀ ds Qd, ds_law_spoilt n ds Qd → ds.length + 1 = 2 := by rintro ds Qd ⟨_, _, rfl, _⟩; rfl
def prev_law_spoilt : Nat → Ds | 0 => fun _ _ => False | n + 1 => ds_law_spoilt n
theorem small_of : ∀ {acc : List D}, (∀ y ∈ acc, ∃ k, smallS k = true ∧ y = .str ⟨#[k]⟩) → ∃ l : List Nat, acc = l.map (fun k => PyData.str ⟨#[k]⟩) ∧ ∀ k ∈ l, smallS k = true
  | [], _ => ⟨[], rfl, fun _ h => nomatch h⟩
  | y :: r, h => by
    obtain ⟨k, hk, rfl⟩ := h y (List.mem_cons_self ..)
    obtain ⟨l, rfl, hl⟩ := small_of (acc := r) fun z hz => h z (List.mem_cons_of_mem _ hz)
    refine ⟨k :: l, rfl, fun j hj => ?_⟩
    rcases List.mem_cons.mp hj with rfl | hj
    · exact hk
    · exact hl j hj
theorem strOk_append {x y : Str} (h : PyData.strOk x = true) (h' : PyData.strOk y = true) : PyData.strOk (x ++ y) = true := by
  have f : ∀ {z : Str}, PyData.strOk z = true → ∀ k ∈ cl z, k < 0x110000 := fun {z} hz k hk => by
    unfold PyData.strOk at hz
    rw [Array.all_eq_true'] at hz
    exact of_decide_eq_true (hz k (Array.mem_toList_iff.mp hk))
  refine strOk_of fun k hk => ?_
  rw [cl_append] at hk
  rcases List.mem_append.mp hk with hk | hk
  · exact f h k hk
  · exact f h' k hk
theorem strOk_cut {x : Str} {lo hi : Option Int} (h : PyData.strOk x = true) : PyData.strOk (cutS x lo hi) = true := by
  refine strOk_of fun k hk => ?_
  unfold PyData.strOk at h
  rw [Array.all_eq_true'] at h
  have hk2 : k ∈ (x.cps.toList.drop (HT.sIx x.length 0 lo)).take (HT.sIx x.length x.length hi - HT.sIx x.length 0 lo) := hk
  exact of_decide_eq_true (h k (Array.mem_toList_iff.mp (List.mem_of_mem_drop (List.mem_of_mem_take hk2))))
theorem cl_cut (x : Str) (lo hi : Option Int) : cl (cutS x lo hi) = cut (cl x) lo hi := by
  unfold cut
  rw [cl_len]; rfl
theorem len_append (x y : Str) : (x ++ y).length = x.length + y.length := by rw [← cl_len, cl_append, List.length_append, cl_len, cl_len]
theorem cut_to {α : Type} (xs : List α) (k : Nat) (h : k ≤ xs.length) : cut xs none (some (k : Int)) = xs.take k := by
  unfold cut HT.sIx
  simp only [show ¬ ((k : Int) < 0) by omega, if_false, Int.toNat_natCast, Nat.min_eq_left h, List.drop_zero, Nat.sub_zero]
theorem cut_from {α : Type} (xs : List α) (k : Nat) (h : k ≤ xs.length) : cut xs (some (k : Int)) none = xs.drop k := by
  unfold cut HT.sIx
  simp only [show ¬ ((k : Int) < 0) by omega, if_false, Int.toNat_natCast, Nat.min_eq_left h]
  rw [List.take_of_length_le (by simp)]
theorem mul_z : (Txt.mul (Str.ofString "z") 30).length = 30 ∧ PyData.strOk (Txt.mul (Str.ofString "z") 30) = true := by decide +kernel
end Fc

set_option maxHeartbeats 4000000
namespace Fc
open PySem PySem.Spec L2 PyProof.Rows
/-! ### t[::-1] of a tuple -/
section
variable {prog : Program} {w : World} {A : Around} {E : Value → Shared → Prop} {s : Shared}
theorem adjust_rev (n : Nat) : Builtin.Slice.sliceAdjust none none (-1) (n : Int) = ((n : Int) - 1, -1) := by
  unfold Builtin.Slice.sliceAdjust
  simp
theorem places_rev (n : Nat) : Builtin.Slice.slicePlaces ((n : Int) - 1) (-1) (-1) = n := by
  unfold Builtin.Slice.slicePlaces
  have h1 : ¬ ((-1 : Int) > 0) := by omega
  simp only [h1, if_false]
  split <;> simp <;> omega
theorem applied_rev {sl : Addr} {vl vu vs : Value} {n : Nat} {Q : Int × Int × Nat → Shared → Prop} (hs : s.heap.IsSliceOf sl vl vu vs) (pl : IsPart vl none) (pu : IsPart vu none) (ps : IsPart vs (some (-1)))
    (h : Q ((n : Int) - 1, -1, n) s) : wpAny (model prog w) A (Builtin.Slice.sliceApplied (.ref sl) (pure (n : Int))) Q E s := by
  obtain ⟨os, hos, hcs, hds⟩ := id hs
  unfold Builtin.Slice.sliceApplied Builtin.Slice.sliceFields
  refine wpAny_bind (wpAny_bind (wpAny_field hos hds (x := vl) rfl (wpAny_bind (wpAny_field hos hds (x := vu) rfl (wpAny_bind (wpAny_field hos hds (x := vs) rfl (wpAny_pure ?_)))))))
  refine wpAny_bind (HT.slicePart_ ps ?_)
  show wpAny _ _ (if ((-1 : Int) == 0) = true then _ else _) _ _ s
  rw [if_neg (by decide)]
  refine wpAny_bind (HT.slicePart_ pl (wpAny_bind (HT.slicePart_ pu (wpAny_bind (wpAny_pure ?_)))))
  show wpAny _ _ (match Builtin.Slice.sliceAdjust none none (-1) (n : Int) with | (lo, hi) => pure (lo, (-1 : Int), Builtin.Slice.slicePlaces lo hi (-1))) _ _ s
  rw [adjust_rev n]
  show wpAny _ _ (pure ((n : Int) - 1, (-1 : Int), Builtin.Slice.slicePlaces ((n : Int) - 1) (-1) (-1))) _ _ s
  rw [places_rev]
  exact wpAny_pure h
theorem fm_map {α β : Type} {f : α → Option β} {g : α → β} : ∀ {l : List α}, (∀ m ∈ l, f m = some (g m)) → l.filterMap f = l.map g
  | [], _ => rfl
  | x :: r, h => by
    rw [List.filterMap_cons, h x List.mem_cons_self, List.map_cons, fm_map fun m hm => h m (List.mem_cons_of_mem _ hm)]
theorem pick_rev (xs : Array Value) : ((List.range xs.size).filterMap fun (m : Nat) => xs[((xs.size : Int) - 1 + (m : Int) * (-1)).toNat]?).toArray = xs.toList.reverse.toArray := by
  congr 1
  apply List.ext_getElem?
  intro i
  have e : (List.range xs.size).filterMap (fun (m : Nat) => xs[((xs.size : Int) - 1 + (m : Int) * (-1)).toNat]?) = (List.range xs.size).map fun m => xs.toList.reverse.getD m Value.none := by
    refine fm_map fun m hm => ?_
    have hm' := List.mem_range.mp hm
    have e2 : ((xs.size : Int) - 1 + (m : Int) * (-1)).toNat = xs.size - 1 - m := by omega
    rw [e2, List.getD_eq_getElem?_getD, List.getElem?_reverse (by rw [Array.length_toList]; exact hm'), Array.length_toList, Array.getElem?_toList]
    have e3 : xs.size - 1 - m < xs.size := by omega
    rw [Array.getElem?_eq_getElem e3]
    rfl
  rw [e, List.getElem?_map]
  by_cases hi : i < xs.size
  · rw [List.getElem?_range hi]
    have e4 : i < xs.toList.reverse.length := by rw [List.length_reverse, Array.length_toList]; exact hi
    rw [List.getElem?_eq_getElem e4]
    show some (xs.toList.reverse.getD i Value.none) = _
    rw [List.getD_eq_getElem?_getD, List.getElem?_eq_getElem e4]
    rfl
  · rw [List.getElem?_eq_none (by rw [List.length_range]; omega), List.getElem?_eq_none (by rw [List.length_reverse, Array.length_toList]; omega)]
    rfl
theorem getItem_tuple_rev {t sl : Addr} {items : Array Value} {vl vu vs : Value} {Q : Value → Shared → Prop} (ht : IsTup s.heap t items) (hs : s.heap.IsSliceOf sl vl vu vs) (pl : IsPart vl none) (pu : IsPart vu none) (ps : IsPart vs (some (-1)))
    (h : Q (.ref s.heap.objs.size) { s with heap := s.heap.push { cls := .type "tuple", data := .seq items.toList.reverse.toArray } })
    (hsz : items.size ≤ sizeLine) : wpAny (model prog w) A (getItem (.ref t) (.ref sl)) Q E s := by
  have htake : sizeOk (.seq items.toList.reverse.toArray) := by
    show items.toList.reverse.toArray.size ≤ sizeLine
    rw [List.size_toArray, List.length_reverse, Array.length_toList]
    exact hsz
  obtain ⟨os, hos, hcs, hds⟩ := id hs
  have hTs : s.TypeIs (.ref sl) "slice" := ⟨os, hos, hcs⟩
  unfold getItem
  try with_reducible refine wpAny_holding ?_
  first | refine wpAny_bind (wpAny_pure ?_) | skip
  refine wpAny_bind (wpAny_sequenceKey ht.typeIs (by decide) ?_)
  refine wpAny_bind (wpAny_callSpecial?_slot (name := Str.ofString "__getitem__") ht.typeIs PyProof.Rows.slot_tuple_getitem
    (wpAny_call_entry PyProof.Rows.slot_tuple_getitem ht.typeIs PyProof.Rows.entry_tuple_getitem ?_ (PyProof.Rows.args_tuple_getitem _ _)))
  show wpAny _ _ (Builtin.Tuple.tupleItemsOf (.ref t) >>= _) _ _ s
  refine wpAny_bind (PyProof.Rows.tupleItemsOf_ ht ?_)
  refine wpAny_bind (wpAny_typeOf hTs ?_)
  rw [if_pos (by decide)]
  refine wpAny_bind (applied_rev hs pl pu ps ?_)
  have hno : ¬ ((((items.size : Int) - 1 == 0) && (-1 : Int) == 1 && items.size == items.size) = true) := by
    intro q
    rw [Bool.and_eq_true, Bool.and_eq_true] at q
    exact absurd q.1.2 (by decide)
  show wpAny _ _ (if (((items.size : Int) - 1 == 0) && (-1 : Int) == 1 && items.size == items.size) = true then _ else _) _ _ s
  rw [if_neg hno, pick_rev]
  first
    | exact wpAny_bind (m := Builtin.Tuple.tupleExact _) (wpAny_newObj_type (wpAny_pure ⟨_, rfl, wpAny_pure h⟩) htake)
    | exact wpAny_bind (m := Builtin.Tuple.tupleExact _) (wpAny_newObj_type (wpAny_bind (wpAny_pure (wpAny_pure ⟨_, rfl, wpAny_pure h⟩))) htake)
    | exact wpAny_bind (wpAny_bind (m := Builtin.Tuple.tupleExact _) (wpAny_newObj_type (wpAny_pure (wpAny_pure ⟨_, rfl, wpAny_pure h⟩)) htake))
    | exact wpAny_bind (wpAny_bind (m := Builtin.Tuple.tupleExact _) (wpAny_newObj_type (wpAny_pure ⟨_, rfl, wpAny_pure h⟩) htake))
end
def tRevT (K : PySem.W.Frag) (te : TE) : TE := fun σ H Q => te σ H fun x H1 => ∃ a xs, x = .ref a ∧ SqT K H1 a xs ∧ ∀ p, H1 p = none → Q (.ref p) (upd H1 p (.tup xs.reverse))
section
variable {X : Cx} (K : PySem.W.Frag)
theorem pe_revT {e : Expr} {te : TE} {k : Nat} {p1 p2 p3 pos : Pos} (he : PE X e te) : PE X (.Subscript e (.Slice none none (some (.UnaryOp .USub (.Constant (.int 1) k p1) p2)) p3) pos) (tRevT X.K te) := by
  refine ⟨fun pins s σ H Q I h => ?_⟩
  refine Subscript_ (thn (he.run pins s σ H _ I h) fun v s1 ⟨x, H1, I1, r1, q1⟩ => ?_)
  obtain ⟨a, xs, ex, hx, q⟩ := q1
  subst ex
  cases r1
  have hst : PO X (some (.UnaryOp .USub (.Constant (.int 1) k p1) p2)) (tPart (tUn (rU fun i => .int (-i)) (tC (.int 1)))) := po_some (pe_un un_neg pe_int)
  refine wpAny_Slice (thn (po_none.run pins s1 σ H1 (fun o H2 => o = none ∧ H2 = H1) I1 ⟨rfl, rfl⟩) fun vl s2 ⟨l, H2, I2, pl, el, e2⟩ => ?_)
  subst el e2
  refine thn (po_none.run pins s2 σ H2 (fun o H3 => o = none ∧ H3 = H2) I2 ⟨rfl, rfl⟩) fun vu s3 ⟨u, H3, I3, pu, eu, e3⟩ => ?_
  subst eu e3
  refine thn (hst.run pins s3 σ H3 (fun o H4 => o = some (-1) ∧ H4 = H3) I3 ⟨1, rfl, -1, rfl, rfl, rfl⟩) fun vs s4 ⟨o, H4, I4, ps, eo, e4⟩ => ?_
  subst eo e4
  have I5 : Inv X pins σ H4 { s4 with heap := s4.heap.push { cls := .type "slice", data := .fields #[vl, vu, vs] } } := I4.kept (t' := s4.toks) fun b ob q => Heap.get?_push_of_some _ q
  obtain ⟨its, r, ht, hz⟩ := I5.tuple hx
  have hlen := r.length
  show wpAny (model X.prog X.w) X.A (subscriptTail e (.Slice none none (some (.UnaryOp .USub (.Constant (.int 1) k p1) p2)) p3) (.ref a) (.ref s4.heap.objs.size)) (EP X pins σ Q) X.xe { s4 with heap := s4.heap.push { cls := .type "slice", data := .fields #[vl, vu, vs] } }
  refine tail_any (ops := [.ref a, .ref s4.heap.objs.size]) ht.typeIs PyProof.Rows.slot_tuple_getitem.lookup ?_ (by with_unfolding_all rfl)
  refine getItem_tuple_rev ht (Heap.IsSliceOf.new _ vl vu vs) pl pu ps ?_ (by rw [List.size_toArray]; omega)
  refine ⟨.ref _, _, I5.laid (t' := s4.toks) (o := .tup xs.reverse) (fun b ob q => Heap.get?_push_of_some _ q) (Nat.le_refl _) ?_, rfl, q _ (I5.hok.fresh (Nat.le_refl _))⟩
  exact ⟨by rw [List.length_reverse]; exact hz, _, r.reverse, IsTup.new _ _⟩
theorem kRevT {e : Expr} {te : TE} {k : Nat} {p1 p2 p3 pos : Pos} (he : PE X e te) (h : X.K = K := by rfl) : PE X (.Subscript e (.Slice none none (some (.UnaryOp .USub (.Constant (.int 1) k p1) p2)) p3) pos) (tRevT K te) := h ▸ pe_revT he
end
section
variable {K : PySem.W.Frag} {c : Ctx K}
def aRevT (a : AE) : AE := fun ε Q => a ε fun d => match d with | .tuple xs => Q (.tuple xs.reverse) | _ => False
theorem ae_revT {ta : TE} {a : AE} (ha : AbsE c ta a) : AbsE c (tRevT K ta) (aRevT a) := by
  intro ε σ G H rl Qd Q h q
  refine ha ε σ G H rl _ _ h fun x dx G1 H1 s1 r1 h1 => ?_
  cases r1 with
  | @tup p us ds hp hA =>
    refine ⟨p, us, rfl, (rl.step s1).ok.ex.sqt hp, fun t ht => ?_⟩
    have s2 := Step.new (o := .tup us.reverse) (rl.step s1).ok ht
    exact q _ _ _ _ (s1.trans s2) (.tup (SqT.of upd_same) (hA.reverse.mono s2.gg)) h1
  | _ => exact h1.elim
end
/-! ### set(list of ints), sorted(set(..)) -/
section
variable {P : Program} {w : World} {A : Around} {E : Value → Shared → Prop} {s : Shared}
abbrev newSet (w : World) : Obj := { cls := .type "set", dict := none, data := .set #[] 0 (.fresh 0 0 (!w.params.followText "set-order")) }
theorem set_of_list {l : Addr} {items : Array Value} (ns : List Int) {Q : Value → Shared → Prop} (hh : A.handled = none) (hl : s.heap.IsList l items) (hit : IntsAre items.toList ns) (hb : ns.length + 1 < scanBound)
    (h : ∀ (h' : Heap) (tk c : Nat), SetR w h' s.heap.objs.size (fun j => decide (j ∈ ns)) c → c ≤ ns.length → (∀ b o, s.heap.get? b = some o → h'.get? b = some o) → Q (.ref s.heap.objs.size) { s with heap := h', toks := tk }) :
    wpAny (model P w) A (call (.type "set") [.ref l]) Q E s := by
  have hisz : items.size = ns.length := by
    have q := IntsAre.length hit
    rw [Array.length_toList] at q
    exact q
  obtain ⟨c, tl, hmro⟩ := F.called_set.mro
  have hmade := F.called_set.made
  have hsub := F.called_set.sub
  refine wpAny_call (codeAny_of_tree ?_)
  show wpAny _ _ (callAny (.type "set") _) _ _ _
  refine wpAny_pure ⟨Code.quiet_builtin _ (by decide +kernel), codeAny_builtin F.entry_type_call ?_⟩
  rw [Around.under_plain (weight_type_call_type "set" [.ref l] []) rfl]
  have h1 := F.called_set.notType
  have h2 := F.called_set.canCreate
  have hct := F.typeCall_set_1 (.ref l)
  repeat (any_goals (first | assumption | wp_step))
  refine codeAny_mono (code_set_led1 (.ref l) (E := E) (Q₁ := fun obj s₁ => obj = .ref s.heap.objs.size ∧ s₁ = { s with heap := s.heap.push (newSet w) }) ⟨rfl, rfl⟩) fun r s₁ hr => ?_
  cases r with
  | error e => exact hr
  | ok fl =>
    cases fl with
    | ret obj =>
      obtain ⟨rfl, rfl⟩ := hr
      have hS : (s.heap.push (newSet w)).get? s.heap.objs.size = some (newSet w) := Heap.get?_push_size _ rfl
      have hT : Shared.TypeIs { s with heap := s.heap.push (newSet w) } (.ref s.heap.objs.size) "set" := ⟨_, hS, rfl⟩
      have hli := F.called_set.init.lookup
      have hbi := F.called_set.init.bind (.ref s.heap.objs.size)
      repeat (any_goals (first | assumption | wp_step))
      refine codeAny_mono (codeAny_call_builtin (R := wants (fun r s₂ => r = .none ∧ ∃ h' tk c, s₂ = { s with heap := h', toks := tk } ∧ SetR w h' s.heap.objs.size (fun j => decide (j ∈ ns)) c ∧ c ≤ ns.length ∧
          (∀ b o, s.heap.get? b = some o → h'.get? b = some o)) E) F.called_set.init.plain F.entry_set_init (check_set_init_1 hT ?_)) fun r₂ s₂ hr₂ => ?_
      · obtain ⟨ol, hol, hcl, nl, hdl⟩ := hl
        obtain ⟨ocls, odict, odata, oslots⟩ := ol
        simp only at hcl hdl
        subst hcl; subst hdl
        have hol' : (s.heap.push (newSet w)).get? l = some { cls := .type "list", dict := odict, data := .seq items nl, slots := oslots } := Heap.get?_push_of_some _ hol
        have hsls := F.sub_list_set
        have hslf := F.sub_list_frozenset
        have hne : (Value.type "list" == Value.type "dict") = false := by decide
        have hl1 : (s.heap.push (newSet w)).IsList l items := ⟨_, hol', rfl, nl, rfl⟩
        unfold Builtin.«set.__init__» noKeywords Builtin.Frozenset.updateFrom
        generalize hPI : pyIter = PI
        wp_walk
        subst hPI
        refine wpAny_pyIter_list hl1 ?_
        refine wpAny_bind (wpAny_runValue ?_)
        have hlS : l < s.heap.objs.size := Heap.lt_size hol
        have hh3 : A.in1.in1.in1.handled = none := by simp [hh]
        have hneI : l ≠ (s.heap.push (newSet w)).objs.size := by
          rw [Heap.size_push]; exact Nat.ne_of_lt (Nat.lt_succ_of_lt hlS)
        have hSf : s.heap.objs.size ∉ [(s.heap.push (newSet w)).objs.size, l] := by
          rw [Heap.size_push]; simp only [List.mem_cons, List.mem_singleton, List.not_mem_nil, or_false, not_or]
          exact ⟨Nat.ne_of_lt (Nat.lt_succ_self _), Nat.ne_of_gt hlS⟩
        have hval : ∀ (i : Nat) (v : Value), items[i]? = some v → ∃ k t, ns[i]? = some k ∧ v = .int k t := fun i v hv => by
          have hi : i < ns.length := by rw [← hisz]; exact (Array.getElem?_eq_some_iff.mp hv).1
          obtain ⟨t, e⟩ := PyProof.Rows.IntsAre.int_at hit i v (by rw [Array.getElem?_toList]; exact hv)
          refine ⟨ns[i], t, List.getElem?_eq_getElem hi, ?_⟩
          rw [e, List.getD_eq_getElem?_getD, List.getElem?_eq_getElem hi] <;> rfl
        refine set_update_ints ((Walks.list hh3 _ l hneI items).toS) s.heap.objs.size
          hSf ns hisz hb hval (items.size - 0) 0 _ (by omega) (Nat.zero_le _)
          ⟨⟨_, Heap.get?_push_size _ rfl, rfl, rfl⟩, (hl1.push _)⟩ ?hS0 ?hR
        case hS0 => exact ⟨0, Nat.le_refl 0, setR_new_at (Heap.get?_push_of_some _ hS)⟩
        case hR =>
          intro s' c' hm hc' hS'
          obtain ⟨h', g2, d', tk', os'⟩ := s'
          have eg : g2 = s.gens := hm.gens
          have ed : d' = s.drawn := hm.drawn
          have eo : os' = s.os := hm.os
          subst eg; subst ed; subst eo
          show wpAny _ _ _ _ _ _
          refine wpAny_pure ?_
          show wpAny _ _ (ret Value.none) _ _ _
          rw [hisz] at hc'
          refine wpAny_pure ⟨rfl, h', tk', c', rfl, hS', hc', fun b o e => ?_⟩
          have hb0 : b < s.heap.objs.size := Heap.lt_size e
          have hb1 : b ≠ s.heap.objs.size := Nat.ne_of_lt hb0
          have hb2 : b ≠ (s.heap.push (newSet w)).objs.size := by
            rw [Heap.size_push]; exact Nat.ne_of_lt (Nat.lt_succ_of_lt hb0)
          exact hm.heap b o (by simp only [List.mem_cons, List.mem_singleton, List.not_mem_nil, or_false, not_or]; exact ⟨hb1, hb2⟩) (Heap.get?_push_of_some _ (Heap.get?_push_of_some _ e))
      · cases r₂ with
        | error e => exact hr₂
        | ok fl₂ =>
          cases fl₂ with
          | ret r =>
            obtain ⟨rfl, h', tk, c', rfl, hS', hc', hk'⟩ := hr₂
            repeat (any_goals (first | assumption | wp_step))
            exact h _ _ _ hS' hc' hk'
          | _ => exact hr₂.elim
    | _ => exact hr.elim
end
def rSetOfI (K : PySem.W.Frag) (w : World) : List V → Hp → VK → Prop := fun vs H Q => ∃ (a : Addr) (ns : List Int), vs = [V.ref a] ∧ SqL K H a (ns.map V.int) ∧ ns.length ≤ 1000 ∧
  ∀ (p : Addr) (n : Nat), H p = none → n ≤ ns.length → Q (.ref p) (upd H p (SetO w p (fun j => decide (j ∈ ns)) n))
section
variable {X : Cx}
theorem cr_setOfI (hc : X.calm = true) : CallR X (.type "set") (rSetOfI X.K X.w) := by
  intro pins s σ H vs us Q I r h
  obtain ⟨a, ns, rfl, hs, h64, q⟩ := h
  obtain ⟨its, rv, hl, _⟩ := I.list hs
  rw [Vals.ref1 r]
  refine set_of_list ns (I.ok.hd hc) hl.isList (by simpa using rv.ints) (by unfold scanBound; omega) fun h' tk n R hn hk => ?_
  exact ⟨.ref _, upd H s.heap.objs.size (SetO X.w s.heap.objs.size (fun j => decide (j ∈ ns)) n), I.laid (t' := tk) (fun b o e => hk b o e) (Nat.le_refl _) (setO_new R), rfl, q _ n (I.hok.fresh (Nat.le_refl _)) hn⟩
end
section
variable {K : PySem.W.Frag} {c : Ctx K}
def aSortSet (a : AE) : AE := fun ε Q => a ε fun d => ∃ ns : List Int, d = .list (ns.map PyData.int) ∧ ns.length < 64 ∧ ∀ ms : List Int, ms.Pairwise (· < ·) → (∀ k, k ∈ ms ↔ k ∈ ns) → Q (.list (ms.map PyData.int))
theorem ae_sortSet {w : World} {ta : TE} {a : AE} (ha : AbsE c ta a) : AbsE c (tCB (rSortedSet w) (tCons (tCB (rSetOfI K w) (tCons ta tNil)) tNil)) (aSortSet a) := by
  intro ε σ G H rl Qd Q h q
  refine ha ε σ G H rl _ _ h fun x dx G1 H1 s1 r1 h1 => ?_
  obtain ⟨ns, rfl, h64, h1⟩ := h1
  cases r1 with
  | @lst p us ds hp hA =>
    have e := hA.ints
    subst e
    refine ⟨p, ns, rfl, SqL.of ((rl.step s1).ok.ex _ _ hp), by omega, fun t n ht hn => ?_⟩
    have s2 := Step.new (o := SetO w t (fun j => decide (j ∈ ns)) n) (rl.step s1).ok ht
    refine ⟨t, _, n, rfl, upd_same, by omega, fun ms t2 h1' h2' h3' ht2 => ?_⟩
    have s3 := Step.new (o := .lst (ms.map V.int)) (((rl.step s1).step s2).ok) ht2
    exact q _ _ _ _ ((s1.trans s2).trans s3) (.lst upd_same (RvA.ofInts ms)) (h1 ms h1' fun k => by rw [h2' k]; exact decide_eq_true_iff)
end
end Fc

namespace Fc
open PySem L2
/-! ### words -/
def isW (w : Str) : D → Bool | .str x => decide (x = w) | _ => false
theorem eqv_w {d : D} {w : Str} : PyData.eqv d (.str w) = isW w d := by
  cases d with
  | str x => show (x == w) = decide (x = w); by_cases h : x = w <;> simp [h]
  | _ => simp [PyData.eqv, isW]
section
variable {d : D} {w : Str} {n L : Nat} {Q : D → Prop}
theorem eq_w (h : Gd n L d) (hn : n ≤ 60) (hw : PyData.strOk w = true) (q : Q (.bool (isW w d))) : fEq d (.str w) Q := by
  refine .inr ⟨h.sh.shaped (by omega), (Sh.str (n := 0) hw).shaped (by omega), ?_⟩
  rw [eqv_w]; exact q
theorem ne_w (h : Gd n L d) (hn : n ≤ 60) (hw : PyData.strOk w = true) (q : Q (.bool (!isW w d))) : fNe d (.str w) Q := by
  refine .inr ⟨h.sh.shaped (by omega), (Sh.str (n := 0) hw).shaped (by omega), ?_⟩
  rw [eqv_w]; exact q
end
abbrev wPut : Str := Str.ofString "put"
abbrev wDrop : Str := Str.ofString "drop"
abbrev wTurn : Str := Str.ofString "turn"
theorem w_ok : PyData.strOk wPut = true ∧ PyData.strOk wDrop = true ∧ PyData.strOk wTurn = true := by decide +kernel
theorem w_len : wPut.length = 3 ∧ wDrop.length = 4 ∧ wTurn.length = 4 := by decide +kernel
theorem w_ne : wPut ≠ wDrop ∧ wPut ≠ wTurn ∧ wDrop ≠ wTurn := by decide +kernel
/-! ### edits and drafts, any data -/
def isEditD (many : Nat) : D → Bool
  | .tuple [.str w, .int k] => decide (w = wDrop) && (decide (0 ≤ k) && decide (k < many))
  | .tuple [.str w, .int k, z] => decide (0 ≤ k) && ((decide (w = wTurn) && (decide (k < many) && isLineD z)) || (decide (w = wPut) && (decide (k ≤ many) && (isBodyD z && (decide (1 ≤ lenD z) && decide (lenD z ≤ 5))))))
  | _ => false
where lenD : D → Nat | .tuple xs => xs.length | _ => 0
def plD : D → Int
  | .tuple (.str w :: .int k :: _) => 2 * k + (if w = wPut then 0 else 1)
  | _ => 0
def isDraftD (many : Nat) : D → Bool
  | .tuple xs => decide (xs.length ≤ 20) && (xs.all (isEditD many) && decide ((xs.map plD).Pairwise (· < ·)))
  | _ => false
section
variable {many : Nat} {x y z z2 : D} {r : List D} {w : Str} {k : Int}
theorem ed_one : isEditD many (.tuple [x]) = false := by
  unfold isEditD; split
  · rename_i h; cases h
  · rename_i h; cases h
  · rfl
theorem ed_ns (h : isStr x = false) : isEditD many (.tuple (x :: y :: r)) = false := by
  unfold isEditD; split
  · rename_i h2; cases h2; cases h
  · rename_i h2; cases h2; cases h
  · rfl
theorem ed_ni (h : wholeD y = false) : isEditD many (.tuple (x :: y :: r)) = false := by
  unfold isEditD; split
  · rename_i h2; cases h2; cases h
  · rename_i h2; cases h2; cases h
  · rfl
theorem ed_long : isEditD many (.tuple (x :: y :: z :: z2 :: r)) = false := by
  unfold isEditD; split
  · rename_i h; cases h
  · rename_i h; cases h
  · rfl
theorem ed_two : isEditD many (.tuple [.str w, .int k]) = (decide (w = wDrop) && (decide (0 ≤ k) && decide (k < many))) := rfl
theorem ed_three : isEditD many (.tuple [.str w, .int k, z]) = (decide (0 ≤ k) && ((decide (w = wTurn) && (decide (k < many) && isLineD z)) || (decide (w = wPut) && (decide (k ≤ many) && (isBodyD z && (decide (1 ≤ isEditD.lenD z) && decide (isEditD.lenD z ≤ 5))))))) := rfl
theorem ed_two_x : isEditD many (.tuple [x, .int k]) = (isW wDrop x && (decide (0 ≤ k) && decide (k < many))) := by
  cases x with
  | str w => rfl
  | _ => rw [ed_ns rfl]; rfl
theorem ed_three_x : isEditD many (.tuple [x, .int k, z]) = (decide (0 ≤ k) && ((isW wTurn x && (decide (k < many) && isLineD z)) || (isW wPut x && (decide (k ≤ many) && (isBodyD z && (decide (1 ≤ isEditD.lenD z) && decide (isEditD.lenD z ≤ 5))))))) := by
  cases x with
  | str w => rfl
  | _ => rw [ed_ns rfl]; simp [isW]
theorem isW_str (h : isW w x = true) : x = .str w := by
  cases x with
  | str y => rw [of_decide_eq_true h]
  | _ => cases h
theorem body_tup (h : isBodyD z = true) : ∃ zs, z = .tuple zs := by
  cases z with
  | tuple zs => exact ⟨zs, rfl⟩
  | _ => cases h
end
theorem edit_shape {many : Nat} {d : D} (h : isEditD many d = true) : ∃ (w : Str) (k : Int) (r : List D), d = .tuple (.str w :: .int k :: r) ∧ 0 ≤ k ∧ k ≤ many := by
  unfold isEditD at h
  split at h
  · simp only [Bool.and_eq_true, decide_eq_true_eq] at h
    exact ⟨_, _, _, rfl, by omega, by omega⟩
  · simp only [Bool.and_eq_true, Bool.or_eq_true, decide_eq_true_eq] at h
    refine ⟨_, _, _, rfl, h.1, ?_⟩
    rcases h.2 with q | q <;> omega
  · cases h
/-- strictly rising lists with the same members are the same -/
theorem rising_same : ∀ {a b : List Int}, a.Pairwise (· < ·) → b.Pairwise (· < ·) → (∀ k, k ∈ a ↔ k ∈ b) → a = b
  | [], [], _, _, _ => rfl
  | [], y :: _, _, _, h => absurd ((h y).mpr List.mem_cons_self) (List.not_mem_nil)
  | x :: _, [], _, _, h => absurd ((h x).mp List.mem_cons_self) (List.not_mem_nil)
  | x :: xs, y :: ys, ha, hb, h => by
    rw [List.pairwise_cons] at ha hb
    have e : x = y := by
      rcases List.mem_cons.mp ((h x).mp List.mem_cons_self) with e | e
      · exact e
      · rcases List.mem_cons.mp ((h y).mpr List.mem_cons_self) with e2 | e2
        · exact e2.symm
        · have := ha.1 y e2; have := hb.1 x e; omega
    subst e
    rw [rising_same ha.2 hb.2 fun k => ?_]
    constructor
    · intro hk
      rcases List.mem_cons.mp ((h k).mp (List.mem_cons_of_mem _ hk)) with e | e
      · have := ha.1 k hk; omega
      · exact e
    · intro hk
      rcases List.mem_cons.mp ((h k).mpr (List.mem_cons_of_mem _ hk)) with e | e
      · have := hb.1 k hk; omega
      · exact e
theorem eqvAll_ints : ∀ (a b : List Int), PyData.eqvAll (a.map PyData.int) (b.map PyData.int) = decide (a = b)
  | [], [] => by simp [PyData.eqvAll]
  | [], _ :: _ => by simp [PyData.eqvAll]
  | _ :: _, [] => by simp [PyData.eqvAll]
  | x :: xs, y :: ys => by
    simp only [List.map_cons, PyData.eqvAll, PyData.eqv, eqvAll_ints xs ys]
    by_cases h : x = y <;> by_cases h2 : xs = ys <;> simp [h, h2]
theorem eqv_ints (a b : List Int) : PyData.eqv (.list (a.map PyData.int)) (.list (b.map PyData.int)) = decide (a = b) := by
  simp only [PyData.eqv]; exact eqvAll_ints a b
theorem sh_ints (a : List Int) : Sh 1 (.list (a.map PyData.int)) := .list fun d hd => by
  obtain ⟨i, _, rfl⟩ := List.mem_map.mp hd
  exact .int i
theorem eq_sorted {ms ns : List Int} {Q : D → Prop} (h1 : ms.Pairwise (· < ·)) (h2 : ∀ k, k ∈ ms ↔ k ∈ ns) (q : Q (.bool (decide (ns.Pairwise (· < ·))))) : fEq (.list (ms.map PyData.int)) (.list (ns.map PyData.int)) Q := by
  refine .inr ⟨(sh_ints ms).shaped (by decide), (sh_ints ns).shaped (by decide), ?_⟩
  rw [eqv_ints, show decide (ms = ns) = decide (ns.Pairwise (· < ·)) from decide_eq_decide.mpr ⟨fun e => e ▸ h1, fun h => rising_same h1 h h2⟩]
  exact q
/-- rising from neighbour to neighbour is rising -/
theorem rising_next : ∀ {l : List Int}, (∀ i (h : i + 1 < l.length), l[i] < l[i + 1]) → l.Pairwise (· < ·)
  | [], _ => .nil
  | [x], _ => List.pairwise_singleton ..
  | x :: y :: r, h => by
    have ih : (y :: r).Pairwise (· < ·) := rising_next fun i hi => h (i + 1) (by simpa using hi)
    have h0 : x < y := h 0 (by simp)
    refine List.pairwise_cons.mpr ⟨fun z hz => ?_, ih⟩
    rcases List.mem_cons.mp hz with rfl | hz
    · exact h0
    · exact Int.lt_trans h0 ((List.pairwise_cons.mp ih).1 z hz)
theorem lex_two {a b c d : Int} (hb : b = 0 ∨ b = 1) (hd : d = 0 ∨ d = 1) : HT.lexLt [a, b] [c, d] = decide (2 * a + b < 2 * c + d) := by
  rw [HT.lexLt_cons]
  by_cases h : a = c
  · rw [if_pos h, HT.lexLt_cons]
    by_cases h2 : b = d
    · rw [if_pos h2, HT.lexLt_nil_nil]; symm; apply decide_eq_false; omega
    · rw [if_neg h2]; apply decide_eq_decide.mpr; omega
  · rw [if_neg h]; apply decide_eq_decide.mpr; omega
def plT : D → D
  | .tuple (.str w :: .int k :: _) => .tuple [.int k, .int (if w = wPut then 0 else 1)]
  | _ => .none
theorem pl_at {many : Nat} {d : D} (h : isEditD many d = true) : ∃ a b : Int, plT d = .tuple [.int a, .int b] ∧ (b = 0 ∨ b = 1) ∧ plD d = 2 * a + b := by
  obtain ⟨w, k, r, rfl, _⟩ := edit_shape h
  refine ⟨k, if w = wPut then 0 else 1, rfl, ?_, rfl⟩
  split
  · exact .inl rfl
  · exact .inr rfl
theorem rising_all (l : List Int) : ((List.range (l.length - 1)).map fun j => decide (l.getD j 0 < l.getD (j + 1) 0)).all id = decide (l.Pairwise (· < ·)) := by
  rw [List.all_map, Bool.eq_iff_iff, List.all_eq_true, decide_eq_true_eq]
  constructor
  · intro h
    refine rising_next fun i hi => ?_
    have := h i (List.mem_range.mpr (by omega))
    simp only [Function.comp, id, decide_eq_true_eq] at this
    rw [List.getD_eq_getElem?_getD, List.getD_eq_getElem?_getD, List.getElem?_eq_getElem (by omega), List.getElem?_eq_getElem hi] at this
    exact this
  · intro h i hi
    have hi' := List.mem_range.mp hi
    simp only [Function.comp, id, decide_eq_true_eq]
    rw [List.getD_eq_getElem?_getD, List.getD_eq_getElem?_getD, List.getElem?_eq_getElem (by omega), List.getElem?_eq_getElem (by omega)]
    exact List.pairwise_iff_getElem.mp h i (i + 1) (by omega) (by omega) (by omega)
theorem rng_at2 {lo : Int} {n i : Nat} {d : D} (h : (rngD lo n)[i]? = some d) : i < n ∧ d = .int (lo + (i : Int)) := by
  have hl := (List.getElem?_eq_some_iff.mp h).1
  rw [rngD_len] at hl
  rw [rngD_get hl] at h
  exact ⟨hl, (Option.some.inj h).symm⟩
theorem getD_at {α : Type} {l : List α} {i : Nat} {x : α} (a : α) (h : l[i]? = some x) : l.getD i a = x := by
  rw [List.getD_eq_getElem?_getD, h]; rfl
theorem cmul_two {k : Int} (h0 : 0 ≤ k) (h1 : k ≤ 1000) : CMul 2 k := by
  obtain ⟨n, rfl⟩ : ∃ n : Nat, k = n := ⟨k.toNat, by omega⟩
  have : ∀ n : Nat, n ≤ 1000 → CMul 2 (n : Int) := by unfold CMul; decide +kernel
  exact this n (by omega)
theorem lines_of : ∀ {acc : List D}, (∀ y ∈ acc, ∃ x, LineS x ∧ y = .str x) → ∃ xs : List Str, acc = xs.map PyData.str ∧ ∀ x ∈ xs, LineS x
  | [], _ => ⟨[], rfl, fun _ h => nomatch h⟩
  | y :: r, h => by
    obtain ⟨x, hx, rfl⟩ := h y List.mem_cons_self
    obtain ⟨xs, rfl, hxs⟩ := lines_of (acc := r) fun z hz => h z (List.mem_cons_of_mem _ hz)
    exact ⟨x :: xs, rfl, fun z hz => by
      rcases List.mem_cons.mp hz with rfl | hz
      · exact hx
      · exact hxs z hz⟩
theorem mem_cut {α : Type} {l : List α} {lo hi : Option Int} {x : α} (h : x ∈ cut l lo hi) : x ∈ l := by
  unfold cut at h
  exact List.mem_of_mem_drop (List.mem_of_mem_take h)
theorem cut_len {α : Type} (l : List α) (lo hi : Option Int) : (cut l lo hi).length ≤ l.length := by
  unfold cut
  rw [List.length_take, List.length_drop]
  omega
theorem kLtT {X : Cx} (K : PySem.W.Frag) (hu : X.A.units + 64 < cLine) (h : X.K = K := by rfl) : OpR X (compareOp .Lt) (rLtT K) := h ▸ op_ltT (by omega)
/-! ### specs -/
abbrev ds_is_number : Ds := ds_law_whole
theorem len_is_number : ∀ ds Qd, ds_is_number ds Qd → ds.length = 1 := by rintro ds Qd ⟨_, rfl, _⟩; rfl
def ds_place_of : Ds := fun ds Q => ∃ (w : Str) (k : Int) (r : List D), ds = [.tuple (.str w :: .int k :: r)] ∧ PyData.strOk w = true ∧ Q (.tuple [.int k, .int (if w = wPut then 0 else 1)])
theorem len_place_of : ∀ ds Qd, ds_place_of ds Qd → ds.length = 1 := by rintro ds Qd ⟨_, _, _, rfl, _⟩; rfl
def ds_edit : Ds := fun ds Q => ∃ (d : D) (n L many : Nat), ds = [d, .int (many : Int)] ∧ Gd n L d ∧ n ≤ 60 ∧ L ≤ 100000 ∧ Q (.bool (isEditD many d))
abbrev ds_is_edit : Ds := ds_edit
abbrev ds_law_is_edit : Ds := ds_edit
theorem len_is_edit : ∀ ds Qd, ds_is_edit ds Qd → ds.length = 2 := by rintro ds Qd ⟨_, _, _, _, rfl, _⟩; rfl
theorem len_law_is_edit : ∀ ds Qd, ds_law_is_edit ds Qd → ds.length = 2 := len_is_edit
def ds_is_draft : Ds := fun ds Q => ∃ (bs : List D) (d : D) (n L : Nat), ds = [.tuple bs, d] ∧ Gd n L d ∧ n ≤ 60 ∧ L ≤ 100000 ∧ Q (.bool (isDraftD bs.length d))
theorem len_is_draft : ∀ ds Qd, ds_is_draft ds Qd → ds.length = 2 := by rintro ds Qd ⟨_, _, _, _, rfl, _⟩; rfl
def ds_law_is_draft : Ds := fun ds Q => ∃ (d : D) (n L many : Nat), ds = [d, .int (many : Int)] ∧ Gd n L d ∧ n ≤ 60 ∧ L ≤ 100000 ∧ many ≤ 1000 ∧ Q (.bool (isDraftD many d))
theorem len_law_is_draft : ∀ ds Qd, ds_law_is_draft ds Qd → ds.length = 2 := by rintro ds Qd ⟨_, _, _, _, rfl, _⟩; rfl
/-! ### drawn edits and drafts -/
inductive Ed
  | put (k : Nat) (xs : List Str)
  | drop (k : Nat)
  | turn (k : Nat) (x : Str)
def Ed.d : Ed → D
  | .put k xs => .tuple [.str wPut, .int (k : Int), .tuple (xs.map PyData.str)]
  | .drop k => .tuple [.str wDrop, .int (k : Int)]
  | .turn k x => .tuple [.str wTurn, .int (k : Int), .str x]
def Ed.at : Ed → Nat | .put k _ => k | .drop k => k | .turn k _ => k
def Ed.sec : Ed → Bool | .put _ _ => false | _ => true
def Ed.pl (e : Ed) : Nat := 2 * e.at + (if e.sec then 1 else 0)
def Ed.Ok (many : Nat) : Ed → Prop
  | .put k xs => k ≤ many ∧ 1 ≤ xs.length ∧ xs.length ≤ 5 ∧ ∀ x ∈ xs, LineS x
  | .drop k => k < many
  | .turn k x => k < many ∧ LineS x
structure DraftOk (many : Nat) (es : List Ed) : Prop where
  len : es.length ≤ 20
  ok : ∀ e ∈ es, e.Ok many
  up : (es.map Ed.pl).Pairwise (· < ·)
def draftD (es : List Ed) : D := .tuple (es.map Ed.d)
theorem Ed.gd {many : Nat} {e : Ed} (h : e.Ok many) : Gd 2 30 e.d := by
  have ⟨w1, w2, w3⟩ := w_ok
  have ⟨l1, l2, l3⟩ := w_len
  cases e with
  | put k xs =>
    refine .tuple (by simp) fun d hd => ?_
    simp only [List.mem_cons, List.not_mem_nil, or_false] at hd
    rcases hd with rfl | rfl | rfl
    · exact .str (by omega) w1
    · exact .int _
    · exact Gd.of_body h.2.2.2 (by decide) (by have := h.2.2.1; omega)
  | drop k =>
    refine .tuple (by simp) fun d hd => ?_
    simp only [List.mem_cons, List.not_mem_nil, or_false] at hd
    rcases hd with rfl | rfl
    · exact .str (by omega) w2
    · exact .int _
  | turn k x =>
    refine .tuple (by simp) fun d hd => ?_
    simp only [List.mem_cons, List.not_mem_nil, or_false] at hd
    rcases hd with rfl | rfl | rfl
    · exact .str (by omega) w3
    · exact .int _
    · exact Gd.of_line h.2 (by decide)
theorem DraftOk.gd {many : Nat} {es : List Ed} (h : DraftOk many es) : Gd 3 30 (draftD es) := .tuple (by rw [List.length_map]; have := h.len; omega) fun d hd => by
  obtain ⟨e, he, rfl⟩ := List.mem_map.mp hd
  exact Ed.gd (h.ok e he)
def ds_law_an_edit : Ds := fun ds Q => ∃ (many k : Nat) (b : Bool), ds = [.int (many : Int), .int (k : Int), .bool b] ∧ ∀ e : Ed, e.at = k → e.sec = b → (∀ many', (b = true → k < many') → k ≤ many' → e.Ok many') → Q e.d
theorem len_law_an_edit : ∀ ds Qd, ds_law_an_edit ds Qd → ds.length + 1 = 4 := by rintro ds Qd ⟨_, _, _, rfl, _⟩; rfl
def ds_law_a_draft : Ds := fun ds Q => ∃ (many : Nat) (often : Int), ds = [.int (many : Int), .int often] ∧ many ≤ 1000 ∧ 0 < often ∧ often ≤ 1000 ∧ ∀ es : List Ed, DraftOk many es → Q (draftD es)
theorem len_law_a_draft : ∀ ds Qd, ds_law_a_draft ds Qd → ds.length + 1 = 3 := by rintro ds Qd ⟨_, _, rfl, _⟩; rfl
end Fc

namespace Fc
open PySem L2
/-! ### what is never reached -/
theorem ps_never {X : Cx} {st : Stmt} : PS X st (fun _ _ _ => False) := ⟨fun _ _ _ _ _ _ h => h.elim⟩
def aNever : AS := fun _ _ => False
section
variable {K : PySem.W.Frag} {c : Ctx K}
theorem as_never : AbsS c (fun _ _ _ => False) aNever := by
  intro ε σ G H rl E D' h e
  exact h.elim
/-! ### str(int), int(text), text.split(sep) -/
def fStrI : AC := fun ds Q => match ds with
  | [.int i] => i.natAbs.log2 < 1920 ∧ Q (.str (toString i))
  | _ => False
theorem ac_strI : AbsC c (fun xs H Q => ∃ i, xs = [V.int i] ∧ i.natAbs.log2 < 1920 ∧ Q (V.str (toString i)) H) fStrI := by
  intro G H xs ds k rx Qd Q h q
  unfold fStrI at h
  split at h
  · cases rx with
    | cons a b => cases b; cases a; exact ⟨_, rfl, h.1, q _ _ G H (.refl k) (.str _) h.2⟩
  · exact h.elim
def fIntS : AC := fun ds Q => match ds with
  | [.str a] => ∃ n, PySem.intText? a = some n ∧ a.length ≤ 640 ∧ Q (.int n)
  | _ => False
theorem ac_intS : AbsC c (fun xs H Q => ∃ a n, xs = [V.str a] ∧ PySem.intText? a = some n ∧ a.length ≤ 640 ∧ Q (V.int n) H) fIntS := by
  intro G H xs ds k rx Qd Q h q
  unfold fIntS at h
  split at h
  · obtain ⟨n, h1, h2, h3⟩ := h
    cases rx with
    | cons a b => cases b; cases a; exact ⟨_, n, rfl, h1, h2, q _ _ G H (.refl k) (.int _) h3⟩
  · exact h.elim
def fSplit : AM1 := fun a y Q => match y with
  | .str b => (b.length == 0) = false ∧ a.length + 2 ≤ sizeLine ∧ Q (.list ((Txt.split a b).map PyData.str))
  | _ => False
theorem am_split : AbsM1 c (fun x xs H Q => ∃ a b, x = V.str a ∧ xs = [V.str b] ∧ (b.length == 0) = false ∧ a.length + 2 ≤ sizeLine ∧ rNewStrs (Txt.split a b) H Q) fSplit := by
  intro G H u y dy k ry Qd Q h q
  cases ry with
  | str v =>
    refine ⟨u, v, rfl, rfl, h.1, h.2.1, fun p hp => ?_⟩
    have s := Step.new (o := .lst ((Txt.split u v).map V.str)) k hp
    exact q _ _ _ _ s (.lst upd_same (RvA.ofStrs _)) h.2.2
  | _ => exact h.elim
/-! ### a tuple among the globals -/
theorem ae_constT {v : V} {d : D} (h : ∀ G, Rv K G v d) : AbsE c (tC v) (aC d) := by
  intro ε σ G H rl Qd Q h2 q
  exact q v d G H (.refl rl.ok) (h G) h2
end
theorem rv_constT {K : PySem.W.Frag} {a : Addr} {us : List V} {ds : List D} (h : ∃ (o : Obj) (its : Array Value) (n : Nat), K.lookup a = some o ∧ o.cls = .type "tuple" ∧ o.data = .seq its n ∧ its.size ≤ sizeLine ∧ Vals us its.toList) (hr : ∀ G, RvA K G us ds) (G : Hp) : Rv K G (.ref a) (.tuple ds) := .tup (.inr h) (hr G)
theorem rv_rep {K : PySem.W.Frag} {a : Addr} {x : Str} {n tn : Nat} {td : Option Addr} {ts : Array (Option Value)} {us : List Value} (hl : K.lookup a = some ⟨.type "tuple", td, .seq us.toArray tn, ts⟩) (hv : Vals (List.replicate n (V.str x)) us) (hn : n ≤ 1000) (G : Hp) : Rv K G (.ref a) (.tuple (List.replicate n (.str x))) := by
  have hlen := hv.length
  rw [List.length_replicate] at hlen
  refine rv_constT (us := List.replicate n (V.str x)) ⟨_, us.toArray, tn, hl, rfl, rfl, by rw [List.size_toArray, ← hlen]; exact sl_of (by omega), by simpa using hv⟩ (fun G => ?_) G
  have := RvA.ofStrs (K := K) (G := G) (List.replicate n x)
  rwa [List.map_replicate, List.map_replicate] at this
end Fc

namespace Fc
open PySem L2
/-! ### bodies and drafts as texts -/
abbrev bar : Str := Str.ofString "|"
abbrev semi : Str := Str.ofString ";"
theorem cl_bar : cl bar = [124] := by decide +kernel
theorem cl_semi : cl semi = [59] := by decide +kernel
theorem cl_empty : cl (Str.ofString "") = [] := by decide +kernel
theorem empty_eq : Str.ofString "" = ⟨#[]⟩ := by decide +kernel
def numS (k : Nat) : Str := toString (k : Int)
def bodyText (xs : List Str) : Str := Txt.join (Str.ofString "") (xs.map fun x => bar ++ x)
def edSign : Ed → Str | .put _ _ => Str.ofString "+" | .drop _ => Str.ofString "-" | .turn _ _ => Str.ofString "="
def edRest : Ed → Str | .put _ xs => bodyText xs | .drop _ => Str.ofString "" | .turn _ x => x
def edText (e : Ed) : Str := match e with | .drop k => numS k ++ Str.ofString "-" | .put k xs => numS k ++ Str.ofString "+" ++ bodyText xs | .turn k x => numS k ++ Str.ofString "=" ++ x
def draftText (es : List Ed) : Str := Txt.join semi (es.map edText)
def digit (k : Nat) : Bool := decide (48 ≤ k) && decide (k ≤ 57)
structure NumOk (k : Nat) : Prop where
  pos : 1 ≤ (cl (numS k)).length
  len : (cl (numS k)).length ≤ 2
  dig : (cl (numS k)).all digit = true
  zero : (cl (numS k)).head? = some 48 → numS k = Str.ofString "0"
  back : PySem.intText? (numS k) = some (k : Int)
theorem num_all : ∀ k : Nat, k ≤ 60 → decide (1 ≤ (cl (numS k)).length) && decide ((cl (numS k)).length ≤ 2) && (cl (numS k)).all digit && (!decide ((cl (numS k)).head? = some 48) || decide (numS k = Str.ofString "0")) && decide (PySem.intText? (numS k) = some (k : Int)) = true := by decide +kernel
theorem num_ok {k : Nat} (h : k ≤ 60) : NumOk k := by
  have := num_all k h
  simp only [Bool.and_eq_true, Bool.or_eq_true, decide_eq_true_eq, Bool.not_eq_true', decide_eq_false_iff_not] at this
  obtain ⟨⟨⟨⟨h1, h2⟩, h3⟩, h4⟩, h5⟩ := this
  exact ⟨h1, h2, h3, fun e => h4.resolve_left fun n => n e, h5⟩
theorem cl_edText (e : Ed) : cl (edText e) = cl (numS e.at) ++ (cl (edSign e) ++ cl (edRest e)) := by
  cases e with
  | put k xs => show cl (numS k ++ Str.ofString "+" ++ bodyText xs) = _; rw [cl_append, cl_append, List.append_assoc]; rfl
  | drop k => show cl (numS k ++ Str.ofString "-") = _; rw [cl_append]; show _ = _ ++ (_ ++ cl (Str.ofString "")); rw [cl_empty, List.append_nil]; rfl
  | turn k x => show cl (numS k ++ Str.ofString "=" ++ x) = _; rw [cl_append, cl_append, List.append_assoc]; rfl
theorem cl_bodyText (xs : List Str) : cl (bodyText xs) = (xs.map fun x => 124 :: cl x).flatten := by
  unfold bodyText
  rw [empty_eq, cl_join0, List.map_map]
  congr 1
  apply List.map_congr_left
  intro x _
  show cl (bar ++ x) = _
  rw [cl_append, cl_bar]; rfl
theorem bodyText_join : ∀ {xs : List Str}, xs ≠ [] → (xs.map fun x => 124 :: cl x).flatten = 124 :: TL.joinL [124] (xs.map cl)
  | [], h => absurd rfl h
  | [x], _ => by simp [TL.joinL]
  | x :: y :: r, _ => by
    rw [List.map_cons, List.flatten_cons, bodyText_join (by simp)]
    simp [TL.joinL]
theorem line_no {x : Str} {k : Nat} (h : LineS x) (hk : signL k = false) : k ∉ cl x := fun hm => by
  have := h.all k hm
  rw [hk] at this; cases this
theorem body_back {xs : List Str} (hne : xs ≠ []) (hx : ∀ x ∈ xs, LineS x) : Txt.split (cutS (bodyText xs) (some 1) none) bar = xs := by
  have hb := cl_bodyText xs
  rw [bodyText_join hne] at hb
  have e : cutS (bodyText xs) (some 1) none = Txt.join bar xs := by
    apply str_ext
    rw [cl_cut, hb, show ((1 : Int)) = ((1 : Nat) : Int) from rfl, cut_from _ 1 (by simp), TL.join_eq]
    have t := TL.tl_join bar xs
    rw [show TL.tl bar = [124] from cl_bar] at t
    exact t.symm
  rw [e]
  refine TL.split_join (s := 124) (S := []) cl_bar (by decide +kernel) hne fun p hp => line_no (hx p hp) (by decide)
/-! sizes -/
theorem flat_len {xs : List Str} (hx : ∀ x ∈ xs, LineS x) : ((xs.map fun x => 124 :: cl x).flatten).length ≤ 31 * xs.length := by
  induction xs with
  | nil => simp
  | cons x r ih =>
    have h1 : (cl x).length ≤ 30 := by rw [cl_len]; exact (hx x List.mem_cons_self).len
    have h2 := ih fun y hy => hx y (List.mem_cons_of_mem _ hy)
    rw [List.map_cons, List.flatten_cons, List.length_append, List.length_cons, List.length_cons]
    omega
theorem bodyText_len {xs : List Str} (hx : ∀ x ∈ xs, LineS x) : (bodyText xs).length ≤ 31 * xs.length := by
  rw [← cl_len, cl_bodyText]; exact flat_len hx
theorem edText_len {e : Ed} (h : e.Ok 60) : 2 ≤ (edText e).length ∧ (edText e).length ≤ 200 := by
  have hk : e.at ≤ 60 := by cases e <;> simp only [Ed.Ok] at h <;> simp only [Ed.at] <;> omega
  have n := num_ok hk
  have n1 := n.pos; have n2 := n.len
  rw [← cl_len, cl_edText, List.length_append, List.length_append]
  have s : (cl (edSign e)).length = 1 := by
    cases e with
    | put k xs => exact (show (cl (Str.ofString "+")).length = 1 by decide +kernel)
    | drop k => exact (show (cl (Str.ofString "-")).length = 1 by decide +kernel)
    | turn k x => exact (show (cl (Str.ofString "=")).length = 1 by decide +kernel)
  have r : (cl (edRest e)).length ≤ 190 := by
    cases e with
    | put k xs =>
      have := bodyText_len h.2.2.2
      have h5 := h.2.2.1
      rw [cl_len]; show (bodyText xs).length ≤ 190; omega
    | drop k => show (cl (Str.ofString "")).length ≤ 190; rw [cl_empty]; decide
    | turn k x => rw [cl_len]; have := h.2.len; show x.length ≤ 190; omega
  omega
theorem Ed.at_le {e : Ed} (h : e.Ok 60) : e.at ≤ 60 := by cases e <;> simp only [Ed.Ok] at h <;> simp only [Ed.at] <;> omega
theorem digit_ne {k : Nat} (h : digit k = true) : 48 ≤ k ∧ k ≤ 57 := by
  unfold digit at h
  simpa using h
theorem no_semi {e : Ed} (h : e.Ok 60) : 59 ∉ cl (edText e) := by
  rw [cl_edText]
  intro hm
  rcases List.mem_append.mp hm with hm | hm
  · have := digit_ne (List.all_eq_true.mp (num_ok (Ed.at_le h)).dig 59 hm); omega
  · rcases List.mem_append.mp hm with hm | hm
    · revert hm
      cases e with
      | put k xs => exact (show ¬ 59 ∈ cl (Str.ofString "+") by decide +kernel)
      | drop k => exact (show ¬ 59 ∈ cl (Str.ofString "-") by decide +kernel)
      | turn k x => exact (show ¬ 59 ∈ cl (Str.ofString "=") by decide +kernel)
    · revert hm
      cases e with
      | put k xs =>
        show 59 ∈ cl (bodyText xs) → False
        rw [cl_bodyText]
        intro hm
        obtain ⟨l, h1, h2⟩ := List.mem_flatten.mp hm
        obtain ⟨x, hx, rfl⟩ := List.mem_map.mp h1
        rcases List.mem_cons.mp h2 with h2 | h2
        · cases h2
        · exact line_no (h.2.2.2 x hx) (by decide) h2
      | drop k => show 59 ∈ cl (Str.ofString "") → False; rw [cl_empty]; exact fun h => nomatch h
      | turn k x => exact line_no h.2 (by decide)
theorem draft_back {es : List Ed} (hne : es ≠ []) (hok : ∀ e ∈ es, e.Ok 60) : Txt.split (draftText es) semi = es.map edText :=
  TL.split_join (s := 59) (S := []) cl_semi (by decide +kernel) (fun h => hne (List.map_eq_nil_iff.mp h)) fun p hp => by
    obtain ⟨e, he, rfl⟩ := List.mem_map.mp hp
    exact no_semi (hok e he)
theorem joinL_len {S : List Nat} {m : Nat} : ∀ {ps : List (List Nat)}, (∀ p ∈ ps, p.length ≤ m) → (TL.joinL S ps).length ≤ ps.length * (m + S.length)
  | [], _ => by simp [TL.joinL]
  | [p], h => by have := h p (by simp); simp only [TL.joinL, List.length_cons, List.length_nil]; omega
  | p :: q :: r, h => by
    have h1 := h p (by simp)
    have h2 := joinL_len (S := S) (ps := q :: r) fun x hx => h x (List.mem_cons_of_mem _ hx)
    simp only [TL.joinL, List.length_append, List.length_cons] at h2 ⊢
    rw [Nat.succ_mul (r.length + 1)]
    omega
theorem draftText_len {es : List Ed} (hl : es.length ≤ 20) (hok : ∀ e ∈ es, e.Ok 60) : (draftText es).length ≤ 5000 := by
  unfold draftText
  rw [← cl_len, TL.join_eq]
  have t := TL.tl_join semi (es.map edText)
  rw [show cl (Str.join semi (es.map edText)) = TL.joinL (cl semi) ((es.map edText).map cl) from t]
  have := joinL_len (S := cl semi) (m := 200) (ps := (es.map edText).map cl) fun p hp => by
    obtain ⟨x, hx, rfl⟩ := List.mem_map.mp hp
    obtain ⟨e, he, rfl⟩ := List.mem_map.mp hx
    rw [cl_len]; exact (edText_len (hok e he)).2
  rw [cl_semi] at this ⊢
  rw [List.length_map, List.length_map] at this
  simp only [List.length_cons, List.length_nil] at this
  omega
theorem draftText_ne {es : List Ed} (hne : es ≠ []) (hok : ∀ e ∈ es, e.Ok 60) : draftText es ≠ Str.ofString "" := fun h => by
  have b := draft_back hne hok
  match es, hne with
  | e :: r, _ =>
    have h2 : draftText (e :: r) = Str.ofString "" := h
    unfold draftText at h2
    rw [TL.join_eq] at h2
    have t := TL.tl_join semi ((e :: r).map edText)
    rw [h2] at t
    have l := (edText_len (hok e (by simp))).1
    rw [← cl_len] at l
    have z : (TL.joinL (TL.tl semi) (((e :: r).map edText).map TL.tl)).length = 0 := by rw [← t]; exact (by decide +kernel)
    cases r with
    | nil => simp only [List.map_cons, List.map_nil, TL.joinL] at z; have : (cl (edText e)).length = 0 := z; omega
    | cons f r =>
      simp only [List.map_cons, TL.joinL, List.length_append] at z
      have : (cl (edText e)).length = 0 := by show (TL.tl (edText e)).length = 0; omega
      omega
theorem draftText_nil : draftText [] = Str.ofString "" := by decide +kernel
/-! a drawn draft is a draft of sixty lines -/
theorem Ed.Ok.up {m n : Nat} {e : Ed} (h : e.Ok m) (hn : m ≤ n) : e.Ok n := by
  cases e with
  | put k xs => exact ⟨Nat.le_trans h.1 hn, h.2⟩
  | drop k => exact Nat.lt_of_lt_of_le h hn
  | turn k x => exact ⟨Nat.lt_of_lt_of_le h.1 hn, h.2⟩
theorem DraftOk.to {m n : Nat} {es : List Ed} (h : DraftOk m es) (hn : m ≤ n) : DraftOk n es := ⟨h.len, fun e he => Ed.Ok.up (h.ok e he) hn, h.up⟩
theorem line_is {x : Str} (h : LineS x) : isLineD (.str x) = true := lineB_iff.mpr h
theorem body_is {xs : List Str} (h : ∀ x ∈ xs, LineS x) (hl : xs.length ≤ 60) : isBodyD (.tuple (xs.map PyData.str)) = true := by
  show (decide ((xs.map PyData.str).length ≤ 60) && (xs.map PyData.str).all isLineD) = true
  rw [List.length_map, decide_eq_true hl, Bool.true_and, List.all_eq_true]
  intro d hd
  obtain ⟨x, hx, rfl⟩ := List.mem_map.mp hd
  exact line_is (h x hx)
theorem edit_is {many : Nat} {e : Ed} (h : e.Ok many) : isEditD many e.d = true := by
  cases e with
  | put k xs =>
    obtain ⟨h1, h2, h3, h4⟩ := h
    show isEditD many (.tuple [.str wPut, .int (k : Int), .tuple (xs.map PyData.str)]) = true
    rw [ed_three, body_is h4 (by omega)]
    show (decide ((0 : Int) ≤ k) && ((decide (wPut = wTurn) && (decide ((k : Int) < many) && isLineD (.tuple (xs.map PyData.str)))) || (decide (wPut = wPut) && (decide ((k : Int) ≤ many) && (true && (decide (1 ≤ (xs.map PyData.str).length) && decide ((xs.map PyData.str).length ≤ 5))))))) = true
    rw [List.length_map, decide_eq_true (show (0 : Int) ≤ k by omega), decide_eq_true (show (k : Int) ≤ many by omega), decide_eq_true h2, decide_eq_true h3]
    simp
  | drop k =>
    have h' : k < many := h
    show isEditD many (.tuple [.str wDrop, .int (k : Int)]) = true
    rw [ed_two, decide_eq_true (show (0 : Int) ≤ k by omega), decide_eq_true (show (k : Int) < many by omega)]
    simp
  | turn k x =>
    have h' : k < many := h.1
    show isEditD many (.tuple [.str wTurn, .int (k : Int), .str x]) = true
    rw [ed_three, line_is h.2, decide_eq_true (show (0 : Int) ≤ k by omega), decide_eq_true (show (k : Int) < many by omega)]
    simp
theorem plD_ed (e : Ed) : plD e.d = (e.pl : Int) := by
  cases e with
  | put k xs => show 2 * (k : Int) + (if wPut = wPut then 0 else 1) = _; rw [if_pos rfl]; show _ = ((2 * k + 0 : Nat) : Int); omega
  | drop k => show 2 * (k : Int) + (if wDrop = wPut then 0 else 1) = _; rw [if_neg (fun h => w_ne.1 h.symm)]; show _ = ((2 * k + 1 : Nat) : Int); omega
  | turn k x => show 2 * (k : Int) + (if wTurn = wPut then 0 else 1) = _; rw [if_neg (fun h => w_ne.2.1 h.symm)]; show _ = ((2 * k + 1 : Nat) : Int); omega
theorem draft_is {many : Nat} {es : List Ed} (h : DraftOk many es) : isDraftD many (draftD es) = true := by
  show (decide ((es.map Ed.d).length ≤ 20) && ((es.map Ed.d).all (isEditD many) && decide (((es.map Ed.d).map plD).Pairwise (· < ·)))) = true
  rw [List.length_map, decide_eq_true h.len, Bool.true_and, Bool.and_eq_true, List.all_eq_true, decide_eq_true_eq]
  refine ⟨fun d hd => ?_, ?_⟩
  · obtain ⟨e, he, rfl⟩ := List.mem_map.mp hd
    exact edit_is (h.ok e he)
  · rw [List.map_map, List.pairwise_map]
    have := h.up
    rw [List.pairwise_map] at this
    exact this.imp fun {a b} hab => by
      show plD a.d < plD b.d
      rw [plD_ed, plD_ed]; omega
theorem sum_le {l : List Str} {m : Nat} (h : ∀ x ∈ l, x.length ≤ m) : (l.map (·.length)).sum ≤ l.length * m := by
  induction l with
  | nil => simp
  | cons x r ih =>
    have h1 := h x List.mem_cons_self
    have h2 := ih fun y hy => h y (List.mem_cons_of_mem _ hy)
    rw [List.map_cons, List.sum_cons, List.length_cons, Nat.succ_mul]
    omega
theorem log_small {k : Nat} (h : k ≤ 60) : ((k : Int)).natAbs.log2 < 1920 := by
  rw [Int.natAbs_natCast]
  exact Nat.lt_of_le_of_lt (Nat.log2_le_self k) (by omega)
theorem map_at {α : Type} {xs : List α} {f : α → D} {i : Nat} {d : D} (h : (xs.map f)[i]? = some d) : ∃ x, xs[i]? = some x ∧ d = f x := by
  rw [List.getElem?_map] at h
  cases hx : xs[i]? with
  | none => rw [hx] at h; cases h
  | some x => rw [hx] at h; exact ⟨x, rfl, (Option.some.inj h).symm⟩
theorem cl_digits : cl (Str.ofString "0123456789") = List.range' 48 10 := by decide +kernel
theorem in_digits (k : Nat) : decide (k ∈ cl (Str.ofString "0123456789")) = digit k := by
  rw [cl_digits]
  unfold digit
  rw [show (decide (48 ≤ k) && decide (k ≤ 57)) = decide (48 ≤ k ∧ k ≤ 57) by simp]
  apply decide_eq_decide.mpr
  rw [List.mem_range'_1]
  omega
theorem cut_mid {α : Type} (xs : List α) (a b : Nat) (ha : a ≤ b) (hb : b ≤ xs.length) : cut xs (some (a : Int)) (some (b : Int)) = (xs.drop a).take (b - a) := by
  unfold cut HT.sIx
  simp only [show ¬ ((a : Int) < 0) by omega, show ¬ ((b : Int) < 0) by omega, if_false, Int.toNat_natCast, Nat.min_eq_left hb, Nat.min_eq_left (Nat.le_trans ha hb)]
theorem cutS_len' (x : Str) (lo hi : Option Int) : (cutS x lo hi).length ≤ x.length := by
  rw [← cl_len, cl_cut, ← cl_len x]
  exact cut_len ..
/-! ### specs -/
def ds_body_text : Ds := fun ds Q => ∃ xs : List Str, ds = [.tuple (xs.map PyData.str)] ∧ xs.length ≤ 60 ∧ (∀ x ∈ xs, LineS x) ∧ Q (.str (bodyText xs))
theorem len_body_text : ∀ ds Qd, ds_body_text ds Qd → ds.length = 1 := by rintro ds Qd ⟨_, rfl, _⟩; rfl
def ds_edit_text : Ds := fun ds Q => ∃ e : Ed, ds = [e.d] ∧ e.Ok 60 ∧ Q (.str (edText e))
theorem len_edit_text : ∀ ds Qd, ds_edit_text ds Qd → ds.length = 1 := by rintro ds Qd ⟨_, rfl, _⟩; rfl
abbrev ds_law_edit_text : Ds := ds_edit_text
theorem len_law_edit_text : ∀ ds Qd, ds_law_edit_text ds Qd → ds.length = 1 := len_edit_text
def ds_draft_text : Ds := fun ds Q => ∃ es : List Ed, ds = [draftD es] ∧ DraftOk 60 es ∧ Q (.str (draftText es))
theorem len_draft_text : ∀ ds Qd, ds_draft_text ds Qd → ds.length = 1 := by rintro ds Qd ⟨_, rfl, _⟩; rfl
def ds_need_text : Ds := fun ds Q => ∃ x : Str, ds = [.str x] ∧ Q .none
theorem len_need_text : ∀ ds Qd, ds_need_text ds Qd → ds.length = 1 := by rintro ds Qd ⟨_, rfl, _⟩; rfl
def ds_read_number : Ds := fun ds Q => ∃ k : Nat, ds = [.str (numS k)] ∧ k ≤ 60 ∧ Q (.int (k : Int))
theorem len_read_number : ∀ ds Qd, ds_read_number ds Qd → ds.length = 1 := by rintro ds Qd ⟨_, rfl, _⟩; rfl
def ds_read_body : Ds := fun ds Q => ∃ xs : List Str, ds = [.str (bodyText xs)] ∧ 1 ≤ xs.length ∧ xs.length ≤ 60 ∧ (∀ x ∈ xs, LineS x) ∧ Q (.tuple (xs.map PyData.str))
theorem len_read_body : ∀ ds Qd, ds_read_body ds Qd → ds.length = 1 := by rintro ds Qd ⟨_, rfl, _⟩; rfl
def ds_read_edit : Ds := fun ds Q => ∃ e : Ed, ds = [.str (edText e)] ∧ e.Ok 60 ∧ Q e.d
theorem len_read_edit : ∀ ds Qd, ds_read_edit ds Qd → ds.length = 1 := by rintro ds Qd ⟨_, rfl, _⟩; rfl
def ds_read_draft : Ds := fun ds Q => ∃ es : List Ed, ds = [.str (draftText es)] ∧ DraftOk 60 es ∧ Q (draftD es)
theorem len_read_draft : ∀ ds Qd, ds_read_draft ds Qd → ds.length = 1 := by rintro ds Qd ⟨_, rfl, _⟩; rfl
end Fc

namespace Fc
open PySem L2
/-! ### own.extend(list), min(list), list.index -/
section
variable {K : PySem.W.Frag} {c : Ctx K}
def aExtend (i : Nat) (a : AE) : AS := fun E ε => match ε[i]? with
  | some (.own xs) => a ε fun d => (match d with | .list zs => xs.length + zs.length ≤ sizeLine ∧ E.nx (ε.set i (.own (xs ++ zs))) | _ => False)
  | _ => False
theorem as_extend (i : Nat) {te : TE} {a : AE} (ha : AbsE c te a) : AbsS c (tDrop (tBM K "list" rExtend (tVar i) (tCons te tNil))) (aExtend i a) := by
  intro ε σ G H rl E D' h k
  unfold aExtend at h
  split at h
  · rename_i xs hx
    obtain ⟨p, vs, h1, h2, h3, h4, h5⟩ := rl.ownAt hx
    refine ⟨.ref p, h1, .inl ⟨rfl, vs, SqL.of h2⟩, ?_⟩
    refine ha ε σ G H rl _ _ h fun v d G1 H1 s1 r1 q1 => ?_
    obtain ⟨p', vs', g1, g2, g3, g4, g5⟩ := (rl.step s1).ownAt hx
    have e := g1.symm.trans h1
    cases e
    cases r1 with
    | @lst b us ds hb hA =>
      refine ⟨p, b, vs', us, rfl, rfl, g2, (rl.step s1).ok.ex _ _ hb, by rw [g3.length, hA.length]; exact q1.1, ?_⟩
      exact k.nx _ _ G1 _ ((rl.step s1).ownSet hx g1 g4 g5 (g3.append hA)) s1.gg q1.2
    | _ => exact q1.elim
  · exact h.elim
def minOf (ns : List Int) (Q : D → Prop) : Prop := 0 < ns.length ∧ ∀ m, m ∈ ns → (∀ y, y ∈ ns → m ≤ y) → Q (.int m)
def fMinL : AC := fun ds Q => match ds with
  | [.list xs] => ∃ ns : List Int, xs = ns.map PyData.int ∧ minOf ns Q
  | _ => False
theorem ac_minL : AbsC c (rMin K) fMinL := by
  intro G H xs ds k rx Qd Q h q
  unfold fMinL at h
  split at h
  · obtain ⟨ns, rfl, h0, h1⟩ := h
    cases rx with
    | cons a b =>
      cases b
      cases a with
      | @lst p us _ hp hA =>
        have e := hA.ints
        subst e
        exact ⟨p, ns, rfl, SqL.of (k.ex _ _ hp), h0, fun m m1 m2 => q _ _ G H (.refl k) (.int _) (h1 m m1 m2)⟩
  · exact h.elim
def aMinOwn (i : Nat) : AE := fun ε Q => match ε[i]? with
  | some (.own xs) => ∃ ns : List Int, xs = ns.map PyData.int ∧ minOf ns Q
  | _ => False
theorem ae_minOwn (i : Nat) : AbsE c (tCB (rMin K) (tCons (tVar i) tNil)) (aMinOwn i) := by
  intro ε σ G H rl Qd Q h q
  unfold aMinOwn at h
  split at h
  · rename_i xs hx
    obtain ⟨ns, rfl, h0, h1'⟩ := h
    obtain ⟨p, vs, h1, h2, h3, h4, h5⟩ := rl.ownAt hx
    have e := h3.ints
    subst e
    exact ⟨.ref p, h1, p, ns, rfl, SqL.of h2, h0, fun m m1 m2 => q _ _ G H (.refl rl.ok) (.int _) (h1' m m1 m2)⟩
  · exact h.elim
def aIndex (a b : AE) : AE := fun ε Q => a ε fun d => ∃ ns : List Int, d = .list (ns.map PyData.int) ∧ b ε fun y => ∃ (m : Int) (j : Nat), y = .int m ∧ ns[j]? = some m ∧ (∀ k z, k < j → ns[k]? = some z → z ≠ m) ∧ Q (.int (j : Int))
theorem ae_index {ta tb : TE} {a b : AE} (ha : AbsE c ta a) (hb : AbsE c tb b) : AbsE c (tBM K "list" (rIndex K) ta (tCons tb tNil)) (aIndex a b) := by
  intro ε σ G H rl Qd Q h q
  refine ha ε σ G H rl _ _ h fun x dx G1 H1 s1 r1 h1 => ?_
  obtain ⟨ns, rfl, h1⟩ := h1
  cases r1 with
  | @lst p us _ hp hA =>
    have e := hA.ints
    subst e
    refine ⟨.inl ⟨rfl, _, SqL.of ((rl.step s1).ok.ex _ _ hp)⟩, ?_⟩
    refine hb ε σ G1 H1 (rl.step s1) _ _ h1 fun y dy G2 H2 s2 r2 h2 => ?_
    obtain ⟨m, j, rfl, h3, h4, h5⟩ := h2
    cases r2
    refine ⟨p, ns.map V.int, .int m, j, .int m, rfl, rfl, SqL.of (((rl.step s1).step s2).ok.ex _ _ (s2.gg _ _ hp)), rfl, ?_, ?_, ?_, ?_, ?_⟩
    · rw [List.all_eq_true]; intro z hz; obtain ⟨k, _, rfl⟩ := List.mem_map.mp hz; rfl
    · rw [List.getElem?_map, h3]; rfl
    · simp [eqV]
    · intro k z hk hz
      rw [List.getElem?_map] at hz
      cases hn : ns[k]? with
      | none => rw [hn] at hz; cases hz
      | some w =>
        rw [hn] at hz
        cases hz
        have := h4 k w hk hn
        simp [eqV, this]
    · exact q _ _ G2 H2 (s1.trans s2) (.int _) h5
end
section
variable {X : Cx} (K : PySem.W.Frag)
theorem kMin (hc : X.calm = true := by rfl) (h : X.K = K := by rfl) : CallR X (.builtin "min") (rMin K) := h ▸ cr_min hc
end
end Fc

namespace Fc
open PySem L2
/-! ### sheets: steps, ways, least costs (plain) -/
section
variable (S : List (List Str)) (B : List Str) (room : Nat)
/-- the sheet s stands in the body at p -/
def Fits (B : List Str) (s : List Str) (p : Nat) : Prop := p + s.length ≤ B.length ∧ (B.drop p).take s.length = s
inductive Edge : Nat → Nat → Nat → Nat → Nat → Prop
  | new {i p q : Nat} : i ≤ S.length → 1 ≤ q → q ≤ room → p + q ≤ B.length → Edge i p i (p + q) 1
  | skip {i p : Nat} : i < S.length → p ≤ B.length → Edge i p (i + 1) p 0
  | keep {i p : Nat} {s : List Str} : S[i]? = some s → Fits B s p → Edge i p (i + 1) (p + s.length) 0
inductive Go : Nat → Nat → Nat → Nat → Nat → Prop
  | refl {i p : Nat} : Go i p i p 0
  | step {i p j r a b c k : Nat} : Edge S B room i p j r c → Go j r a b k → Go i p a b (c + k)
end
section
variable {S : List (List Str)} {B : List Str} {room : Nat} {i p j r a b c k l : Nat}
theorem Go.trans (h : Go S B room i p j r k) (h2 : Go S B room j r a b l) : Go S B room i p a b (k + l) := by
  induction h with
  | refl => rw [Nat.zero_add]; exact h2
  | step e _ ih => rw [Nat.add_assoc]; exact .step e (ih h2)
theorem Go.one (e : Edge S B room i p j r c) : Go S B room i p j r c := by
  have := Go.step e (Go.refl (S := S) (B := B) (room := room))
  rwa [Nat.add_zero] at this
theorem Go.snoc (h : Go S B room i p j r k) (e : Edge S B room j r a b c) : Go S B room i p a b (k + c) := h.trans (.one e)
/-- the last step -/
theorem Go.last (h : Go S B room i p a b k) : (i = a ∧ p = b ∧ k = 0) ∨ ∃ j r c l, Go S B room i p j r l ∧ Edge S B room j r a b c ∧ k = l + c := by
  induction h with
  | refl => exact .inl ⟨rfl, rfl, rfl⟩
  | @step i p j r a b c k e _ ih =>
    rcases ih with ⟨rfl, rfl, rfl⟩ | ⟨j', r', c', l', g, e', rfl⟩
    · exact .inr ⟨i, p, c, 0, .refl, e, by omega⟩
    · exact .inr ⟨j', r', c', c + l', .step e g, e', by omega⟩
theorem Edge.in2 (h : Edge S B room i p j r c) : j ≤ S.length ∧ r ≤ B.length ∧ i ≤ j ∧ p ≤ r := by
  cases h with
  | new h1 h2 h3 h4 => exact ⟨h1, h4, Nat.le_refl _, by omega⟩
  | skip h1 h2 => exact ⟨h1, h2, by omega, Nat.le_refl _⟩
  | keep h1 h2 => exact ⟨(List.getElem?_eq_some_iff.mp h1).1, h2.1, by omega, by omega⟩
theorem Go.mono (h : Go S B room i p j r k) : i ≤ j ∧ p ≤ r := by
  induction h with
  | refl => exact ⟨Nat.le_refl _, Nat.le_refl _⟩
  | step e _ ih => have := e.in2; omega
/-- the least of P -/
def Least (P : Nat → Prop) (w : Nat) : Prop := P w ∧ ∀ k, P k → w ≤ k
theorem Least.same {P : Nat → Prop} {v w : Nat} (h : Least P v) (h2 : Least P w) : v = w := Nat.le_antisymm (h.2 w h2.1) (h2.2 v h.1)
theorem Least.congr {P Q : Nat → Prop} {v : Nat} (h : Least P v) (e : ∀ k, P k ↔ Q k) : Least Q v := ⟨(e v).mp h.1, fun k hk => h.2 k ((e k).mpr hk)⟩
/-- from the start -/
def Fwd (S : List (List Str)) (B : List Str) (room i p w : Nat) : Prop := Least (Go S B room 0 0 i p) w
/-- to the end -/
def Bwd (S : List (List Str)) (B : List Str) (room i p w : Nat) : Prop := Least (Go S B room i p S.length B.length) w
/-! the sheets and the body from behind -/
def back (S : List (List Str)) : List (List Str) := (S.map List.reverse).reverse
theorem back_len : (back S).length = S.length := by unfold back; rw [List.length_reverse, List.length_map]
theorem back_at (h : i < S.length) : (back S)[S.length - 1 - i]? = some (S[i]).reverse := by
  unfold back
  rw [List.getElem?_reverse (by rw [List.length_map]; omega), List.length_map, List.getElem?_map, show S.length - 1 - (S.length - 1 - i) = i by omega, List.getElem?_eq_getElem h]
  rfl
theorem back_back : back (back S) = S := by
  unfold back
  rw [List.map_reverse, List.reverse_reverse, List.map_map]
  have : (List.reverse ∘ List.reverse : List Str → List Str) = id := by funext x; simp
  rw [this, List.map_id]
theorem fits_back {s : List Str} (h : Fits B s p) : Fits B.reverse s.reverse (B.length - p - s.length) := by
  obtain ⟨h1, h2⟩ := h
  refine ⟨by rw [List.length_reverse, List.length_reverse]; omega, ?_⟩
  rw [List.length_reverse, ← List.reverse_inj, List.reverse_reverse]
  rw [List.reverse_take, List.length_drop, List.length_reverse, List.reverse_drop, List.length_reverse, List.reverse_reverse]
  rw [show B.length - (B.length - p - s.length) = p + s.length by omega, show p + s.length - s.length = p by omega]
  have e : List.drop p (List.take (p + s.length) B) = (B.drop p).take s.length := by
    rw [List.drop_take]
    congr 1
    omega
  rw [e, h2]
theorem edge_back (e : Edge S B room i p j r c) : Edge (back S) B.reverse room (S.length - j) (B.length - r) (S.length - i) (B.length - p) c := by
  cases e with
  | @new q h1 h2 h3 h4 =>
    have := Edge.new (S := back S) (B := B.reverse) (room := room) (i := S.length - i) (p := B.length - (p + q)) (q := q) (by rw [back_len]; omega) h2 h3 (by rw [List.length_reverse]; omega)
    rwa [show B.length - (p + q) + q = B.length - p by omega] at this
  | @skip h1 h2 =>
    have := Edge.skip (S := back S) (B := B.reverse) (room := room) (i := S.length - (i + 1)) (p := B.length - p) (by rw [back_len]; omega) (by rw [List.length_reverse]; omega)
    rwa [show S.length - (i + 1) + 1 = S.length - i by omega] at this
  | @keep s h1 h2 =>
    have hi := (List.getElem?_eq_some_iff.mp h1).1
    have es : S[i] = s := by rw [List.getElem?_eq_getElem hi] at h1; exact Option.some.inj h1
    have hb := back_at hi
    rw [es] at hb
    have hf := fits_back h2
    have hl := h2.1
    have := Edge.keep (S := back S) (B := B.reverse) (room := room) (i := S.length - (i + 1)) (p := B.length - (p + s.length)) (s := s.reverse) (by rw [show S.length - (i + 1) = S.length - 1 - i by omega]; exact hb) (by rw [show B.length - (p + s.length) = B.length - p - s.length by omega]; exact hf)
    rw [List.length_reverse] at this
    rwa [show S.length - (i + 1) + 1 = S.length - i by omega, show B.length - (p + s.length) + s.length = B.length - p by omega] at this
theorem go_back (h : Go S B room i p j r k) : Go (back S) B.reverse room (S.length - j) (B.length - r) (S.length - i) (B.length - p) k := by
  induction h with
  | refl => exact .refl
  | step e _ ih => rw [Nat.add_comm]; exact ih.snoc (edge_back e)
theorem go_back_iff (hi : i ≤ S.length) (hp : p ≤ B.length) : Go S B room i p S.length B.length k ↔ Go (back S) B.reverse room 0 0 (S.length - i) (B.length - p) k := by
  constructor
  · intro h
    have := go_back h
    rwa [Nat.sub_self, Nat.sub_self] at this
  · intro h
    have := go_back h
    rw [back_back, List.reverse_reverse, back_len, List.length_reverse] at this
    rwa [show S.length - (S.length - i) = i by omega, show B.length - (B.length - p) = p by omega, Nat.sub_zero, Nat.sub_zero] at this
/-- the table from behind tells the least cost to the end -/
theorem bwd_of_back {w : Nat} (hi : i ≤ S.length) (hp : p ≤ B.length) (h : Fwd (back S) B.reverse room (S.length - i) (B.length - p) w) : Bwd S B room i p w := Least.congr h fun k => (go_back_iff hi hp).symm
end
end Fc

namespace Fc
open PySem L2
/-! ### sheets as data, tables, plans -/
instance (B : List Str) (s : List Str) (p : Nat) : Decidable (Fits B s p) := by unfold Fits; infer_instance
def sheetD (s : List Str) : D := .tuple (s.map PyData.str)
def sheetsL (S : List (List Str)) : List D := S.map sheetD
def rowD (r : List Nat) : List D := r.map fun (w : Nat) => PyData.int (w : Int)
def Lines (xs : List Str) : Prop := ∀ x ∈ xs, LineS x
structure Shs (S : List (List Str)) (B : List Str) (room : Nat) : Prop where
  b : Lines B
  s : ∀ t ∈ S, Lines t
  bl : B.length ≤ 100
  sl : S.length ≤ 100
  tl : ∀ t ∈ S, t.length ≤ 100
  r1 : 1 ≤ room
  r2 : room ≤ 100
def tAt (T : List (List Nat)) (i p : Nat) : Nat := (T.getD i []).getD p 0
/-- a full table of what P tells -/
structure Tab (n m : Nat) (P : Nat → Nat → Nat → Prop) (T : List (List Nat)) : Prop where
  len : T.length = n + 1
  row : ∀ (i : Nat) (r : List Nat), T[i]? = some r → r.length = m + 1
  at' : ∀ i p, i ≤ n → p ≤ m → P i p (tAt T i p)
theorem Tab.rowAt {n m : Nat} {P : Nat → Nat → Nat → Prop} {T : List (List Nat)} (h : Tab n m P T) {i : Nat} (hi : i ≤ n) : ∃ r, T[i]? = some r ∧ r.length = m + 1 ∧ ∀ p, p ≤ m → r[p]? = some (tAt T i p) := by
  have hl : i < T.length := by rw [h.len]; omega
  have e := List.getElem?_eq_getElem hl
  refine ⟨T[i], e, h.row i _ e, fun p hp => ?_⟩
  have hr := h.row i _ e
  have hp' : p < (T[i]).length := by omega
  unfold tAt
  have e2 : T.getD i [] = T[i] := by rw [List.getD_eq_getElem?_getD, e]; rfl
  rw [e2, List.getD_eq_getElem?_getD, List.getElem?_eq_getElem hp']
  rfl
/-- the same list of texts -/
theorem eqvAll_strs : ∀ (a b : List Str), PyData.eqvAll (a.map PyData.str) (b.map PyData.str) = decide (a = b)
  | [], [] => by simp [PyData.eqvAll]
  | [], _ :: _ => by simp [PyData.eqvAll]
  | _ :: _, [] => by simp [PyData.eqvAll]
  | x :: xs, y :: ys => by
    simp only [List.map_cons, PyData.eqvAll, PyData.eqv, eqvAll_strs xs ys]
    by_cases h : x = y <;> by_cases h2 : xs = ys <;> simp [h, h2]
theorem sh_sheet {s : List Str} (h : Lines s) : Sh 1 (sheetD s) := .tuple fun d hd => by
  obtain ⟨x, hx, rfl⟩ := List.mem_map.mp hd
  exact .str (h x hx).ok
theorem eq_sheet {a b : List Str} {Q : D → Prop} (ha : Lines a) (hb : Lines b) (q : Q (.bool (decide (a = b)))) : fEq (.tuple (a.map PyData.str)) (.tuple (b.map PyData.str)) Q := by
  refine .inr ⟨(sh_sheet ha).shaped (by decide), (sh_sheet hb).shaped (by decide), ?_⟩
  rw [show PyData.eqv (.tuple (a.map PyData.str)) (.tuple (b.map PyData.str)) = decide (a = b) by simp only [PyData.eqv]; exact eqvAll_strs a b]
  exact q
theorem cut_two {α : Type} (xs : List α) (a k : Nat) (ha : a ≤ xs.length) : cut xs (some (a : Int)) (some ((a : Int) + (k : Int))) = (xs.drop a).take k := by
  rw [show ((a : Int) + (k : Int)) = ((a + k : Nat) : Int) by omega]
  unfold cut HT.sIx
  simp only [show ¬ ((a : Int) < 0) by omega, show ¬ (((a + k : Nat) : Int) < 0) by omega, if_false, Int.toNat_natCast, Nat.min_eq_left ha]
  by_cases h : a + k ≤ xs.length
  · rw [Nat.min_eq_left h, show a + k - a = k by omega]
  · rw [Nat.min_eq_right (by omega), List.take_of_length_le (by rw [List.length_drop]; omega), List.take_of_length_le (by rw [List.length_drop]; omega)]
theorem fits_iff {B s : List Str} {p : Nat} : Fits B s p ↔ (B.drop p).take s.length = s ∧ (s ≠ [] ∨ p ≤ B.length) := by
  constructor
  · rintro ⟨h1, h2⟩; exact ⟨h2, .inr (by omega)⟩
  · rintro ⟨h1, h2⟩
    refine ⟨?_, h1⟩
    have := congrArg List.length h1
    rw [List.length_take, List.length_drop] at this
    rcases h2 with h2 | h2
    · have : s.length ≠ 0 := fun e => h2 (List.eq_nil_of_length_eq_zero e)
      omega
    · omega
theorem cut_map {α β : Type} (f : α → β) (l : List α) (lo hi : Option Int) : cut (l.map f) lo hi = (cut l lo hi).map f := by
  unfold cut
  rw [List.length_map, List.map_take, List.map_drop]
/-! ### least costs -/
open Classical in
noncomputable def dist (S : List (List Str)) (B : List Str) (room i p : Nat) : Nat := if h : ∃ w, Bwd S B room i p w then h.choose else 0
theorem dist_eq {S : List (List Str)} {B : List Str} {room i p w : Nat} (h : Bwd S B room i p w) : dist S B room i p = w := by
  have hex : ∃ w, Bwd S B room i p w := ⟨w, h⟩
  unfold dist
  rw [dif_pos hex]
  exact Least.same hex.choose_spec h
inductive Part | kept (t : Nat) | new (xs : List Str)
def Part.d : Part → D
  | .kept t => .tuple [.str (Str.ofString "kept"), .int (t : Int)]
  | .new xs => .tuple [.str (Str.ofString "new"), .tuple (xs.map PyData.str)]
/-- the sheet t can be kept at (i, p) -/
def KeepOk (S : List (List Str)) (B : List Str) (room i p t : Nat) : Prop := ∃ s, S[t]? = some s ∧ Fits B s p ∧ dist S B room (t + 1) (p + s.length) = dist S B room i p
inductive Plan (S : List (List Str)) (B : List Str) (room : Nat) : Nat → Nat → List Part → Prop
  | done {i : Nat} : Plan S B room i B.length []
  | kept {i p t : Nat} {s : List Str} {ps : List Part} : p < B.length → i ≤ t → S[t]? = some s → Fits B s p → dist S B room (t + 1) (p + s.length) = dist S B room i p → (∀ t', i ≤ t' → t' < t → ¬ KeepOk S B room i p t') → Plan S B room (t + 1) (p + s.length) ps → Plan S B room i p (.kept t :: ps)
  | new {i p q : Nat} {ps : List Part} : p < B.length → (∀ t', i ≤ t' → ¬ KeepOk S B room i p t') → 1 ≤ q → q ≤ room → p + q ≤ B.length → dist S B room i (p + q) + 1 = dist S B room i p → (∀ q', q < q' → q' ≤ room → p + q' ≤ B.length → dist S B room i (p + q') + 1 ≠ dist S B room i p) → Plan S B room i (p + q) ps → Plan S B room i p (.new ((B.drop p).take q) :: ps)
theorem Plan.same {S : List (List Str)} {B : List Str} {room i p : Nat} {ps qs : List Part} (h : Plan S B room i p ps) (h2 : Plan S B room i p qs) : ps = qs := by
  induction h generalizing qs with
  | done =>
    cases h2 with
    | done => rfl
    | kept h => omega
    | new h => omega
  | @kept i p t s ps h1 h2' h3 h4 h5 h6 _ ih =>
    cases h2 with
    | done => omega
    | @kept _ _ t' s' qs' g1 g2 g3 g4 g5 g6 g7 =>
      have e : t = t' := by
        rcases Nat.lt_trichotomy t t' with h | h | h
        · exact absurd ⟨s, h3, h4, h5⟩ (g6 t h2' h)
        · exact h
        · exact absurd ⟨s', g3, g4, g5⟩ (h6 t' g2 h)
      subst e
      have es : s = s' := Option.some.inj (h3.symm.trans g3)
      subst es
      rw [ih g7]
    | new g1 g2 => exact absurd ⟨s, h3, h4, h5⟩ (g2 t h2')
  | @new i p q ps h1 h2' h3 h4 h5 h6 h7 _ ih =>
    cases h2 with
    | done => omega
    | @kept _ _ t' s' qs' g1 g2 g3 g4 g5 g6 g7 => exact absurd ⟨s', g3, g4, g5⟩ (h2' t' g2)
    | @new _ _ q' qs' g1 g2 g3 g4 g5 g6 g7 g8 =>
      have e : q = q' := by
        rcases Nat.lt_trichotomy q q' with h | h | h
        · exact absurd g6 (h7 q' h g4 g5)
        · exact h
        · exact absurd h6 (g7 q h h4 h5)
      subst e
      rw [ih g8]
/-! what the least costs keep -/
section
variable {S : List (List Str)} {B : List Str} {room i p : Nat}
theorem Go.skips {i j p : Nat} (h : i ≤ j) (hj : j ≤ S.length) (hp : p ≤ B.length) : Go S B room i p j p 0 := by
  induction j with
  | zero => rw [Nat.le_zero.mp h]; exact .refl
  | succ j ih =>
    rcases Nat.lt_or_ge i (j + 1) with h2 | h2
    · exact (ih (by omega) (by omega)).snoc (Edge.skip (by omega) hp)
    · rw [show i = j + 1 by omega]; exact .refl
theorem Go.least {P : Nat → Prop} {k : Nat} (h : P k) : ∃ w, Least P w := by
  induction k using Nat.strongRecOn with
  | ind k ih =>
    by_cases hl : ∃ k', k' < k ∧ P k'
    · obtain ⟨k', h1, h2⟩ := hl
      exact ih k' h1 h2
    · exact ⟨k, h, fun k' hk' => Nat.le_of_not_lt fun hlt => hl ⟨k', hlt, hk'⟩⟩
theorem bwd_ex (hr : 1 ≤ room) (hi : i ≤ S.length) : ∀ d p, d = B.length - p → p ≤ B.length → ∃ w, Bwd S B room i p w := by
  have key : ∀ d p, d = B.length - p → p ≤ B.length → ∃ k, Go S B room i p S.length B.length k := by
    intro d
    induction d with
    | zero =>
      intro p hd hp
      have e : p = B.length := by omega
      subst e
      exact ⟨0, Go.skips hi (Nat.le_refl _) (Nat.le_refl _)⟩
    | succ d ih =>
      intro p hd hp
      obtain ⟨k, hk⟩ := ih (p + 1) (by omega) (by omega)
      exact ⟨1 + k, .step (.new hi (Nat.le_refl _) hr (by omega)) hk⟩
  intro d p hd hp
  obtain ⟨k, hk⟩ := key d p hd hp
  exact Go.least hk
theorem dist_is (hr : 1 ≤ room) (hi : i ≤ S.length) (hp : p ≤ B.length) : Bwd S B room i p (dist S B room i p) := by
  obtain ⟨w, hw⟩ := bwd_ex hr hi _ p rfl hp
  rw [dist_eq hw]; exact hw
theorem dist_le (hr : 1 ≤ room) (hi : i ≤ S.length) (hp : p ≤ B.length) {k : Nat} (h : Go S B room i p S.length B.length k) : dist S B room i p ≤ k := (dist_is hr hi hp).2 k h
theorem dist_end (hi : i ≤ S.length) (hr : 1 ≤ room) : dist S B room i B.length = 0 := Nat.le_zero.mp (dist_le hr hi (Nat.le_refl _) (Go.skips hi (Nat.le_refl _) (Nat.le_refl _)))
theorem dist_skip {j : Nat} (hr : 1 ≤ room) (hij : i ≤ j) (hj : j ≤ S.length) (hp : p ≤ B.length) : dist S B room i p ≤ dist S B room j p := by
  have h := (Go.skips (B := B) (room := room) hij hj hp).trans (dist_is hr hj hp).1
  rw [Nat.zero_add] at h
  exact dist_le hr (by omega) hp h
theorem dist_keep {t : Nat} {s : List Str} (hr : 1 ≤ room) (hit : i ≤ t) (hs : S[t]? = some s) (hf : Fits B s p) : dist S B room i p ≤ dist S B room (t + 1) (p + s.length) := by
  have ht := (List.getElem?_eq_some_iff.mp hs).1
  have h1 := hf.1
  have h := ((Go.skips (B := B) (room := room) hit (by omega) (show p ≤ B.length by omega)).snoc (Edge.keep hs hf)).trans (dist_is hr (show t + 1 ≤ S.length from ht) h1).1
  simp only [Nat.zero_add] at h
  exact dist_le hr (by omega) (by omega) h
theorem dist_new {q : Nat} (hr : 1 ≤ room) (hi : i ≤ S.length) (h1 : 1 ≤ q) (h2 : q ≤ room) (h3 : p + q ≤ B.length) : dist S B room i p ≤ dist S B room i (p + q) + 1 := by
  have h := Go.step (Edge.new hi h1 h2 h3) (dist_is hr hi h3).1
  rw [Nat.add_comm]
  exact dist_le hr hi (by omega) h
/-- where nothing can be kept, a new sheet leads on -/
theorem new_leads (hr : 1 ≤ room) (hi : i ≤ S.length) (hp : p < B.length) (hno : ∀ t, i ≤ t → ¬ KeepOk S B room i p t) : ∃ q, 1 ≤ q ∧ q ≤ room ∧ p + q ≤ B.length ∧ dist S B room i (p + q) + 1 = dist S B room i p := by
  have key : ∀ {i' p' a b k : Nat}, Go S B room i' p' a b k → a = S.length → b = B.length → p' = p → i ≤ i' → k = dist S B room i p → ∃ q, 1 ≤ q ∧ q ≤ room ∧ p + q ≤ B.length ∧ dist S B room i (p + q) + 1 = dist S B room i p := by
    intro i' p' a b k h
    induction h with
    | refl => intro _ h2 h3; omega
    | @step i' p' j r a b c k e g ih =>
      rintro rfl rfl rfl hii hk
      have hin := e.in2
      cases e with
      | @new q h1 h2 h3 h4 =>
        refine ⟨q, h2, h3, h4, Nat.le_antisymm ?_ (dist_new hr hi h2 h3 h4)⟩
        have := dist_le hr (by omega) (by omega) ((Go.skips (room := room) hii h1 h4).trans g)
        omega
      | skip h1 h2 => exact ih rfl rfl rfl (by omega) (by omega)
      | @keep s h1 h2 =>
        exfalso
        refine hno i' hii ⟨s, h1, h2, Nat.le_antisymm ?_ (dist_keep hr hii h1 h2)⟩
        have := dist_le hr hin.1 hin.2.1 g
        omega
  exact key (dist_is hr hi (by omega)).1 rfl rfl rfl (Nat.le_refl _) rfl
end
end Fc

namespace Fe
open PySem L2 Fc
open scoped List
/-! ### trees of things that change: as data (M), and where they lie (N) -/
inductive Kd where
  | lst | tup | dic (ks : List Key) | dT (ks : List (List Key)) | obj (n : Nat) (fs : List Str)
inductive M where
  | d (x : D)
  | nd (k : Kd) (cs : List M)
  | gone
inductive N where
  | d (v : V) (x : D)
  | nd (a da : Addr) (k : Kd) (cs : List N)
  | gone (v : V)
abbrev Pt := List Nat
def N.val : N → V
  | .d v _ => v
  | .nd a _ _ _ => .ref a
  | .gone v => v
def hdO (cm : Nat → Addr) (a da : Addr) (vs : List V) : Kd → List (Addr × HO)
  | .lst => [(a, .lst vs)]
  | .tup => [(a, .tup vs)]
  | .dic ks => [(a, .dK (ks.zip vs))]
  | .dT ks => [(a, .dT (ks.zip vs))]
  | .obj n fs => [(a, .ins (cm n) da (fs.zip vs)), (da, .own a)]
mutual
def N.erase : N → M
  | .d _ x => .d x
  | .nd _ _ k cs => .nd k (eraseL cs)
  | .gone _ => .gone
def eraseL : List N → List M
  | [] => []
  | n :: r => n.erase :: eraseL r
end
mutual
def N.cells (cm : Nat → Addr) : N → List (Addr × HO)
  | .d _ _ => []
  | .nd a da k cs => hdO cm a da (cs.map N.val) k ++ cellsL cm cs
  | .gone _ => []
def cellsL (cm : Nat → Addr) : List N → List (Addr × HO)
  | [] => []
  | n :: r => n.cells cm ++ cellsL cm r
end
mutual
def N.leaves : N → List (V × D)
  | .d v x => [(v, x)]
  | .nd _ _ _ cs => leavesL cs
  | .gone _ => []
def leavesL : List N → List (V × D)
  | [] => []
  | n :: r => n.leaves ++ leavesL r
end
theorem eraseL_map : ∀ cs : List N, eraseL cs = cs.map N.erase
  | [] => rfl
  | n :: r => by rw [eraseL, eraseL_map r, List.map_cons]
theorem cellsL_map (cm : Nat → Addr) : ∀ cs : List N, cellsL cm cs = (cs.map (N.cells cm)).flatten
  | [] => rfl
  | n :: r => by rw [cellsL, cellsL_map cm r, List.map_cons, List.flatten_cons]
theorem leavesL_map : ∀ cs : List N, leavesL cs = (cs.map N.leaves).flatten
  | [] => rfl
  | n :: r => by rw [leavesL, leavesL_map r, List.map_cons, List.flatten_cons]
theorem cellsL_append (cm : Nat → Addr) (a b : List N) : cellsL cm (a ++ b) = cellsL cm a ++ cellsL cm b := by
  rw [cellsL_map, cellsL_map, cellsL_map, List.map_append, List.flatten_append]
theorem leavesL_append (a b : List N) : leavesL (a ++ b) = leavesL a ++ leavesL b := by
  rw [leavesL_map, leavesL_map, leavesL_map, List.map_append, List.flatten_append]
theorem mem_cellsL {cm : Nat → Addr} {cs : List N} {x : Addr × HO} : x ∈ cellsL cm cs ↔ ∃ n ∈ cs, x ∈ n.cells cm := by
  rw [cellsL_map, List.mem_flatten]
  constructor
  · rintro ⟨l, hl, hx⟩
    obtain ⟨n, hn, rfl⟩ := List.mem_map.mp hl
    exact ⟨n, hn, hx⟩
  · rintro ⟨n, hn, hx⟩
    exact ⟨_, List.mem_map.mpr ⟨n, hn, rfl⟩, hx⟩
theorem mem_leavesL {cs : List N} {x : V × D} : x ∈ leavesL cs ↔ ∃ n ∈ cs, x ∈ n.leaves := by
  rw [leavesL_map, List.mem_flatten]
  constructor
  · rintro ⟨l, hl, hx⟩
    obtain ⟨n, hn, rfl⟩ := List.mem_map.mp hl
    exact ⟨n, hn, hx⟩
  · rintro ⟨n, hn, hx⟩
    exact ⟨_, List.mem_map.mpr ⟨n, hn, rfl⟩, hx⟩
/-! ### paths -/
def M.sub : M → Pt → Option M
  | m, [] => some m
  | .nd _ cs, i :: p => (match cs[i]? with | some c => c.sub p | none => none)
  | _, _ :: _ => none
def M.put : M → Pt → M → M
  | _, [], x => x
  | .nd k cs, i :: p, x => (match cs[i]? with | some c => .nd k (cs.set i (c.put p x)) | none => .nd k cs)
  | m, _ :: _, _ => m
def N.sub : N → Pt → Option N
  | n, [] => some n
  | .nd _ _ _ cs, i :: p => (match cs[i]? with | some c => c.sub p | none => none)
  | _, _ :: _ => none
def N.put : N → Pt → N → N
  | _, [], x => x
  | .nd a da k cs, i :: p, x => (match cs[i]? with | some c => .nd a da k (cs.set i (c.put p x)) | none => .nd a da k cs)
  | n, _ :: _, _ => n
def subL (ns : List N) (r : Nat) (p : Pt) : Option N := match ns[r]? with | some n => n.sub p | none => none
def putL (ns : List N) (r : Nat) (p : Pt) (x : N) : List N := match ns[r]? with | some n => ns.set r (n.put p x) | none => ns
def subM (ms : List M) (r : Nat) (p : Pt) : Option M := match ms[r]? with | some n => n.sub p | none => none
def putM (ms : List M) (r : Nat) (p : Pt) (x : M) : List M := match ms[r]? with | some n => ms.set r (n.put p x) | none => ms
theorem sub_erase : ∀ (p : Pt) (n : N), n.erase.sub p = (n.sub p).map N.erase
  | [], n => by cases n <;> rfl
  | i :: p, .d v x => rfl
  | i :: p, .gone v => rfl
  | i :: p, .nd a da k cs => by
    simp only [N.erase, M.sub, N.sub, eraseL_map, List.getElem?_map]
    cases h : cs[i]? with
    | none => rfl
    | some c => exact sub_erase p c
theorem put_erase : ∀ (p : Pt) (n x : N), (n.put p x).erase = n.erase.put p x.erase
  | [], n, x => by cases n <;> rfl
  | i :: p, .d v y, x => rfl
  | i :: p, .gone v, x => rfl
  | i :: p, .nd a da k cs, x => by
    simp only [N.erase, M.put, N.put, eraseL_map, List.getElem?_map]
    cases h : cs[i]? with
    | none => simp [N.erase, eraseL_map]
    | some c => simp [N.erase, eraseL_map, put_erase p c x, List.map_set]
theorem subM_erase (ns : List N) (r : Nat) (p : Pt) : subM (eraseL ns) r p = (subL ns r p).map N.erase := by
  unfold subM subL
  rw [eraseL_map, List.getElem?_map]
  cases h : ns[r]? with
  | none => rfl
  | some n => exact sub_erase p n
theorem putM_erase (ns : List N) (r : Nat) (p : Pt) (x : N) : eraseL (putL ns r p x) = putM (eraseL ns) r p x.erase := by
  unfold putM putL
  simp only [eraseL_map, List.getElem?_map]
  cases h : ns[r]? with
  | none => rfl
  | some n => simp [put_erase, List.map_set]
/-! ### what a set in a list does to the cells -/
theorem cellsL_at (cm : Nat → Addr) : ∀ (cs : List N) (i : Nat) (c : N), cs[i]? = some c → ∃ R, cellsL cm cs ~ c.cells cm ++ R ∧ ∀ c', cellsL cm (cs.set i c') ~ c'.cells cm ++ R
  | [], i, c, h => by simp at h
  | n :: r, 0, c, h => by
    simp only [List.getElem?_cons_zero, Option.some.injEq] at h
    subst h
    exact ⟨cellsL cm r, .refl _, fun c' => .refl _⟩
  | n :: r, i + 1, c, h => by
    obtain ⟨R, h1, h2⟩ := cellsL_at cm r i c (by simpa using h)
    refine ⟨n.cells cm ++ R, ?_, fun c' => ?_⟩
    · show n.cells cm ++ cellsL cm r ~ _
      refine (List.Perm.append_left _ h1).trans ?_
      rw [← List.append_assoc, ← List.append_assoc]
      exact List.Perm.append_right _ List.perm_append_comm
    · show n.cells cm ++ cellsL cm (r.set i c') ~ _
      refine (List.Perm.append_left _ (h2 c')).trans ?_
      rw [← List.append_assoc, ← List.append_assoc]
      exact List.Perm.append_right _ List.perm_append_comm
theorem map_set_same {α β : Type} (f : α → β) {l : List α} {i : Nat} {a b : α} (h : l[i]? = some a) (e : f b = f a) : (l.set i b).map f = l.map f := by
  rw [List.map_set, e]
  apply List.ext_getElem?
  intro j
  rw [List.getElem?_set]
  split
  · rename_i q
    subst q
    have hl := (List.getElem?_eq_some_iff.mp h).1
    rw [List.length_map, if_pos hl, List.getElem?_map, h]; rfl
  · rfl
theorem put_val : ∀ (p : Pt) (n m x : N), n.sub p = some m → x.val = m.val → (n.put p x).val = n.val
  | [], n, m, x, h, e => by
    have : n = m := by cases n <;> simpa [N.sub] using h
    subst this
    cases n <;> exact e
  | i :: p, .d _ _, m, x, h, e => rfl
  | i :: p, .gone _, m, x, h, e => rfl
  | i :: p, .nd a da k cs, m, x, h, e => by
    simp only [N.put]
    cases cs[i]? <;> rfl
/-- the cells of a tree: those of a part, and the rest -/
theorem focus (cm : Nat → Addr) : ∀ (p : Pt) (n m : N), n.sub p = some m → ∃ R, n.cells cm ~ m.cells cm ++ R ∧ ∀ m' : N, m'.val = m.val → (n.put p m').cells cm ~ m'.cells cm ++ R
  | [], n, m, h => by
    have : n = m := by cases n <;> simpa [N.sub] using h
    subst this
    exact ⟨[], by simp, fun m' e => by cases n <;> simp [N.put]⟩
  | i :: p, .d _ _, m, h => by simp [N.sub] at h
  | i :: p, .gone _, m, h => by simp [N.sub] at h
  | i :: p, .nd a da k cs, m, h => by
    simp only [N.sub] at h
    cases hc : cs[i]? with
    | none => rw [hc] at h; cases h
    | some c =>
      rw [hc] at h
      obtain ⟨R1, h1, h2⟩ := focus cm p c m h
      obtain ⟨R2, h3, h4⟩ := cellsL_at cm cs i c hc
      refine ⟨R1 ++ (hdO cm a da (cs.map N.val) k ++ R2), ?_, fun m' e => ?_⟩
      · show hdO cm a da (cs.map N.val) k ++ cellsL cm cs ~ _
        refine (List.Perm.append_left _ (h3.trans (List.Perm.append_right _ h1))).trans ?_
        simp only [List.append_assoc]
        refine (List.perm_append_comm_assoc _ _ _).trans (List.Perm.append_left _ ?_)
        exact List.perm_append_comm_assoc _ _ _
      · simp only [N.put, hc]
        show hdO cm a da ((cs.set i (c.put p m')).map N.val) k ++ cellsL cm (cs.set i (c.put p m')) ~ _
        rw [map_set_same N.val hc (put_val p c m m' h e)]
        refine (List.Perm.append_left _ ((h4 _).trans (List.Perm.append_right _ (h2 m' e)))).trans ?_
        simp only [List.append_assoc]
        refine (List.perm_append_comm_assoc _ _ _).trans (List.Perm.append_left _ ?_)
        exact List.perm_append_comm_assoc _ _ _
theorem focusL (cm : Nat → Addr) {ns : List N} {r : Nat} {p : Pt} {m : N} (h : subL ns r p = some m) : ∃ R, cellsL cm ns ~ m.cells cm ++ R ∧ ∀ m' : N, m'.val = m.val → cellsL cm (putL ns r p m') ~ m'.cells cm ++ R := by
  unfold subL at h
  cases hr : ns[r]? with
  | none => rw [hr] at h; cases h
  | some n =>
    rw [hr] at h
    obtain ⟨R1, h1, h2⟩ := focus cm p n m h
    obtain ⟨R2, h3, h4⟩ := cellsL_at cm ns r n hr
    refine ⟨R1 ++ R2, ?_, fun m' e => ?_⟩
    · rw [← List.append_assoc]
      exact h3.trans (List.Perm.append_right _ h1)
    · unfold putL
      rw [hr, ← List.append_assoc]
      exact (h4 _).trans (List.Perm.append_right _ (h2 m' e))
/-- leaves behind a put -/
theorem leaves_put : ∀ (p : Pt) (n x : N) (l : V × D), l ∈ (n.put p x).leaves → l ∈ x.leaves ∨ l ∈ n.leaves
  | [], n, x, l, h => .inl (by cases n <;> exact h)
  | i :: p, .d v y, x, l, h => .inr h
  | i :: p, .gone v, x, l, h => .inr h
  | i :: p, .nd a da k cs, x, l, h => by
    simp only [N.put] at h
    cases hc : cs[i]? with
    | none => rw [hc] at h; exact .inr h
    | some c =>
      rw [hc] at h
      obtain ⟨n, hn, hl⟩ := mem_leavesL.mp (show l ∈ leavesL (cs.set i (c.put p x)) from h)
      rcases List.mem_or_eq_of_mem_set hn with h1 | h1
      · exact .inr (mem_leavesL.mpr ⟨n, h1, hl⟩)
      · subst h1
        rcases leaves_put p c x l hl with h2 | h2
        · exact .inl h2
        · exact .inr (mem_leavesL.mpr ⟨c, List.mem_of_getElem? hc, h2⟩)
theorem leaves_putL {ns : List N} {r : Nat} {p : Pt} {x : N} {l : V × D} (h : l ∈ leavesL (putL ns r p x)) : l ∈ x.leaves ∨ l ∈ leavesL ns := by
  unfold putL at h
  cases hr : ns[r]? with
  | none => rw [hr] at h; exact .inr h
  | some n =>
    rw [hr] at h
    obtain ⟨n', hn, hl⟩ := mem_leavesL.mp h
    rcases List.mem_or_eq_of_mem_set hn with h1 | h1
    · exact .inr (mem_leavesL.mpr ⟨n', h1, hl⟩)
    · subst h1
      rcases leaves_put p n x l hl with h2 | h2
      · exact .inl h2
      · exact .inr (mem_leavesL.mpr ⟨n, List.mem_of_getElem? hr, h2⟩)
theorem leaves_sub : ∀ (p : Pt) (n m : N) (l : V × D), n.sub p = some m → l ∈ m.leaves → l ∈ n.leaves
  | [], n, m, l, h, hl => by
    have : n = m := by cases n <;> simpa [N.sub] using h
    subst this; exact hl
  | i :: p, .d _ _, m, l, h, hl => by simp [N.sub] at h
  | i :: p, .gone _, m, l, h, hl => by simp [N.sub] at h
  | i :: p, .nd a da k cs, m, l, h, hl => by
    simp only [N.sub] at h
    cases hc : cs[i]? with
    | none => rw [hc] at h; cases h
    | some c =>
      rw [hc] at h
      exact mem_leavesL.mpr ⟨c, List.mem_of_getElem? hc, leaves_sub p c m l h hl⟩
theorem leaves_subL {ns : List N} {r : Nat} {p : Pt} {m : N} {l : V × D} (h : subL ns r p = some m) (hl : l ∈ m.leaves) : l ∈ leavesL ns := by
  unfold subL at h
  cases hr : ns[r]? with
  | none => rw [hr] at h; cases h
  | some n =>
    rw [hr] at h
    exact mem_leavesL.mpr ⟨n, List.mem_of_getElem? hr, leaves_sub p n m l h hl⟩
/-! ### where nodes lie stays -/
def Stab (n n' : N) : Prop := ∀ p a da k cs, n.sub p = some (.nd a da k cs) → ∃ k' cs', n'.sub p = some (.nd a da k' cs')
theorem Stab.refl (n : N) : Stab n n := fun p a da k cs h => ⟨k, cs, h⟩
theorem Stab.trans {n n' n'' : N} (h : Stab n n') (g : Stab n' n'') : Stab n n'' := fun p a da k cs e => by
  obtain ⟨k', cs', e'⟩ := h p a da k cs e
  exact g p a da k' cs' e'
end Fe

namespace Fe
open PySem L2 Fc
open scoped List
/-! ### states -/
structure Xc where
  cls : Nat
  fs : List (Str × D)
inductive Cl where
  | un
  | d (x : D)
  | at (r : Nat) (p : Pt)
  | tape
  | exc (e : Xc)
inductive RV where
  | d (x : D)
  | at (r : Nat) (p : Pt)
  | new (m : M)
  | exc (e : Xc)
  | tape
structure Sx where
  e : List Cl
  r : List M
  h : List Cl := []
/-- an exception that was caught, kept at a -/
def ExH (cls : Value) (d : Option Addr) (a : Addr) : HO := .ext fun h => ∃ (oe : Obj) (vs : Array Value), h.get? a = some oe ∧ Zc cls d oe ∧ oe.data = .fields vs
structure Cz (K : PySem.W.Frag) (cm : Nat → Addr) where
  tp : Option (Addr × Addr × List Int)
  G0 : Hp
  H0 : Hp
  ns0 : List N
  lo : Nat
  st : Bool
  wt : Addr → List V → Prop
  ex0 : Ex G0 H0
  tp0 : ∀ t l xs, tp = some (t, l, xs) → TapeAt t l xs H0 ∧ G0 t = none ∧ G0 l = none
def isN : HO → Bool
  | .lst _ | .tup _ | .dK _ | .dT _ | .ins _ _ _ | .own _ => true
  | _ => false
theorem hdO_isN {cm : Nat → Addr} {a da : Addr} {vs : List V} {k : Kd} {x : Addr × HO} (h : x ∈ hdO cm a da vs k) : isN x.2 = true := by
  cases k with
  | obj n fs =>
    simp only [hdO, List.mem_cons, List.not_mem_nil, or_false] at h
    rcases h with rfl | rfl <;> rfl
  | _ =>
    simp only [hdO, List.mem_cons, List.not_mem_nil, or_false] at h
    subst h; rfl
mutual
theorem cells_isN {cm : Nat → Addr} : ∀ (n : N) (x : Addr × HO), x ∈ n.cells cm → isN x.2 = true
  | .d _ _, x, h => by simp [N.cells] at h
  | .gone _, x, h => by simp [N.cells] at h
  | .nd a da k cs, x, h => by
    simp only [N.cells, List.mem_append] at h
    rcases h with h | h
    · exact hdO_isN h
    · exact cellsL_isN cs x h
theorem cellsL_isN {cm : Nat → Addr} : ∀ (cs : List N) (x : Addr × HO), x ∈ cellsL cm cs → isN x.2 = true
  | [], x, h => by simp [cellsL] at h
  | n :: r, x, h => by
    simp only [cellsL, List.mem_append] at h
    rcases h with h | h
    · exact cells_isN n x h
    · exact cellsL_isN r x h
end
section
variable {K : PySem.W.Frag} {cm : Nat → Addr}
def Cz.Mu (c : Cz K cm) (b : Addr) : Prop := (∃ l xs, c.tp = some (b, l, xs)) ∨ ∃ i n, c.lo ≤ i ∧ c.ns0[i]? = some n ∧ b ∈ (n.cells cm).map (·.1)
def N.isNd : N → Prop
  | .nd _ _ _ _ => True
  | _ => False
/-- the values of an exception, by the dict of it -/
def ExF (K : PySem.W.Frag) (G H : Hp) (e : Xc) (dd : Option Addr) : Prop := (dd = none ∧ e.fs = []) ∨ (e.fs ≠ [] ∧ ∃ dx vs, dd = some dx ∧ H dx = some (.xd vs) ∧ vs.map (·.1) = e.fs.map (·.1) ∧ RvA K G (vs.map (·.2)) (e.fs.map (·.2)))
/-- an exception that was kept; by this mark a tuple of which nothing but its parts is known -/
def wkT : Nat := 1000000
def ExAt (c : Cz K cm) (G H : Hp) (e : Xc) (a : Addr) : Prop := (e.cls ≠ wkT ∧ ∃ dd, H a = some (ExH (.ref (cm e.cls)) dd a) ∧ ExF K G H e dd) ∨ (e.cls = wkT ∧ ∃ vs, H a = some (.tup vs) ∧ RvA K G vs (e.fs.map (·.2)))
def ClOk (c : Cz K cm) (ns : List N) (G H : Hp) (o : Option V) : Cl → Prop
  | .un => True
  | .d x => ∃ v, o = some v ∧ Rv K G v x
  | .at r p => ∃ n, subL ns r p = some n ∧ n.isNd ∧ o = some n.val
  | .tape => ∃ t l xs, c.tp = some (t, l, xs) ∧ o = some (.ref t)
  | .exc e => ∃ a, o = some (.ref a) ∧ ExAt c G H e a
structure Rl (c : Cz K cm) (s : Sx) (ns : List N) (hs : List V) (σ : St) (G H : Hp) : Prop where
  er : eraseL ns = s.r
  ok : ∀ x ∈ cellsL cm ns, H x.1 = some x.2
  lv : ∀ x ∈ leavesL ns, Rv K G x.1 x.2
  nd : ((cellsL cm ns).map (·.1)).Nodup
  gn : ∀ x ∈ cellsL cm ns, G x.1 = none
  nt : ∀ x ∈ cellsL cm ns, ∀ t l xs, c.tp = some (t, l, xs) → x.1 ≠ t ∧ x.1 ≠ l
  ex : Ex G H
  gg : Ex c.G0 G
  fr : ∀ b, c.G0 b = none → c.H0 b ≠ none → G b = none
  hh : ∀ b o, ¬ c.Mu b → c.H0 b = some o → H b = some o
  tp : ∀ t l xs, c.tp = some (t, l, xs) → TapeAt t l xs H
  nw : ∀ (i : Nat) (n : N), ns[i]? = some n → ∀ x ∈ n.cells cm, c.H0 x.1 = none ∨ ∃ m, c.ns0[i]? = some m ∧ x.1 ∈ (m.cells cm).map (·.1)
  fx : ∀ i : Nat, i < c.lo → i < c.ns0.length → ns[i]? = c.ns0[i]?
  sb : ∀ (i : Nat) (n : N), c.ns0[i]? = some n → ∃ n' : N, ns[i]? = some n' ∧ n'.val = n.val ∧ (n.isNd → n'.isNd) ∧ (c.st = true → Stab n n')
  th : ∀ b, c.H0 b ≠ none → H b ≠ none
  tt : ∀ b xs, (c.H0 b = some (.tup xs) ∨ c.wt b xs) → H b = some (.tup xs)
  len : σ.length = s.e.length
  cell : ∀ (i : Nat) (x : Cl), s.e[i]? = some x → ∃ o, σ[i]? = some o ∧ ClOk c ns G H o x
  hlen : hs.length = s.h.length
  hid : ∀ (i : Nat) (x : Cl), s.h[i]? = some x → ∃ v, hs[i]? = some v ∧ ClOk c ns G H (some v) x
/-- what changes nothing but the tape -/
structure Qs (c : Cz K cm) (G H G' H' : Hp) : Prop where
  gg : Ex G G'
  gh : Ex G' H'
  hh : ∀ b o, (∀ l xs, c.tp ≠ some (b, l, xs)) → H b = some o → H' b = some o
  fr : ∀ b, G b = none → H b ≠ none → G' b = none
  tp : ∀ t l xs, c.tp = some (t, l, xs) → TapeAt t l xs H'
variable {c : Cz K cm} {s : Sx} {ns : List N} {hs : List V} {σ : St} {G H G' H' G2 H2 : Hp}
theorem Qs.refl (r : Rl c s ns hs σ G H) : Qs c G H G H := ⟨Ex.refl _, r.ex, fun _ _ _ h => h, fun _ h _ => h, r.tp⟩
theorem Qs.trans (a : Qs c G H G' H') (b : Qs c G' H' G2 H2) (ht : ∀ t l xs, c.tp = some (t, l, xs) → H' t ≠ none) : Qs c G H G2 H2 :=
  ⟨a.gg.trans b.gg, b.gh, fun x o m h => b.hh x o m (a.hh x o m h), fun x g h => b.fr x (a.fr x g h) (by
    by_cases m : ∀ l xs, c.tp ≠ some (x, l, xs)
    · cases q : H x with
      | none => exact absurd q h
      | some o => rw [a.hh x o m q]; exact fun z => nomatch z
    · refine Classical.byContradiction fun hn => m fun l xs e => hn (ht x l xs e)), b.tp⟩
theorem tape_ne {t l : Addr} {xs : List Int} (h : TapeAt t l xs H) : H t ≠ none := by
  obtain ⟨_, _, i, j, _, _, h⟩ := h
  rw [h]; exact fun z => nomatch z
theorem tape_neL {t l : Addr} {xs : List Int} (h : TapeAt t l xs H) : H l ≠ none := by
  obtain ⟨_, h, _⟩ := h
  rw [h]; exact fun z => nomatch z
theorem Qs.tr (a : Qs c G H G' H') (b : Qs c G' H' G2 H2) : Qs c G H G2 H2 := a.trans b fun t l xs e => tape_ne (a.tp t l xs e)
theorem nTape (r : Rl c s ns hs σ G H) {x : Addr × HO} (h : x ∈ cellsL cm ns) : ∀ l xs, c.tp ≠ some (x.1, l, xs) := fun l xs e => (r.nt x h x.1 l xs e).1 rfl
theorem ext_ne {o : HO} (h : isN o = true) {φ : Heap → Prop} : o ≠ .ext φ := fun e => by subst e; cases h
theorem exF_step {e : Xc} {dd : Option Addr} (hg : Ex G G') (hh : ∀ b fs, H b = some (.xd fs) → H' b = some (.xd fs)) (h : ExF K G H e dd) : ExF K G' H' e dd := by
  rcases h with h | ⟨h0, dx, vs, h1, h2, h3, h4⟩
  · exact .inl h
  · exact .inr ⟨h0, dx, vs, h1, hh _ _ h2, h3, h4.mono hg⟩
theorem exAt_step {e : Xc} {a : Addr} (hg : Ex G G') (hx : ∀ b fs, H b = some (.xd fs) → H' b = some (.xd fs)) (hh : ∀ b φ, H b = some (.ext φ) → H' b = some (.ext φ)) (ht : ∀ b vs, H b = some (.tup vs) → H' b = some (.tup vs)) (h : ExAt c G H e a) : ExAt c G' H' e a := by
  rcases h with ⟨h0, dd, h1, h2⟩ | ⟨h0, vs, h1, h2⟩
  · exact .inl ⟨h0, dd, hh _ _ h1, exF_step hg hx h2⟩
  · exact .inr ⟨h0, vs, ht _ _ h1, h2.mono hg⟩
theorem Qs.xd (q : Qs c G H G' H') (tp : ∀ t l xs, c.tp = some (t, l, xs) → TapeAt t l xs H) : ∀ b fs, H b = some (.xd fs) → H' b = some (.xd fs) := fun b fs h => q.hh b _ (fun l xs e => by
  obtain ⟨_, _, i, j, _, _, h2⟩ := tp b l xs e
  rw [h] at h2; cases h2) h
theorem Qs.ext (q : Qs c G H G' H') (tp : ∀ t l xs, c.tp = some (t, l, xs) → TapeAt t l xs H) : ∀ b φ, H b = some (.ext φ) → H' b = some (.ext φ) := fun b fs h => q.hh b _ (fun l xs e => by
  obtain ⟨_, _, i, j, _, _, h2⟩ := tp b l xs e
  rw [h] at h2; cases h2) h
theorem Qs.tup (q : Qs c G H G' H') (tp : ∀ t l xs, c.tp = some (t, l, xs) → TapeAt t l xs H) : ∀ b vs, H b = some (.tup vs) → H' b = some (.tup vs) := fun b fs h => q.hh b _ (fun l xs e => by
  obtain ⟨_, _, i, j, _, _, h2⟩ := tp b l xs e
  rw [h] at h2; cases h2) h
theorem Qs.th (q : Qs c G H G' H') (tp : ∀ t l xs, c.tp = some (t, l, xs) → TapeAt t l xs H) : ∀ b, H b ≠ none → H' b ≠ none := fun b h => by
  by_cases m : ∀ l xs, c.tp ≠ some (b, l, xs)
  · cases e : H b with
    | none => exact absurd e h
    | some o => rw [q.hh b o m e]; exact fun z => nomatch z
  · refine Classical.byContradiction fun hn => m fun l xs e => hn (tape_ne (q.tp b l xs e))
theorem Rl.quiet (r : Rl c s ns hs σ G H) (q : Qs c G H G' H') : Rl c s ns hs σ G' H' where
  er := r.er
  ok := fun x h => q.hh x.1 x.2 (nTape r h) (r.ok x h)
  lv := fun x h => (r.lv x h).mono q.gg
  nd := r.nd
  gn := fun x h => q.fr x.1 (r.gn x h) (by rw [r.ok x h]; exact fun z => nomatch z)
  nt := r.nt
  ex := q.gh
  gg := r.gg.trans q.gg
  fr := fun b g h => by
    exact q.fr b (r.fr b g h) (r.th b h)
  hh := fun b o m h => by
    by_cases mt : ∀ l xs, c.tp ≠ some (b, l, xs)
    · exact q.hh b o mt (r.hh b o m h)
    · exact absurd (Or.inl (Classical.byContradiction fun hn => mt fun l xs e => hn ⟨l, xs, e⟩)) m
  tp := q.tp
  nw := r.nw
  fx := r.fx
  sb := r.sb
  th := fun b h => q.th r.tp b (r.th b h)
  tt := fun b xs h => q.tup r.tp b xs (r.tt b xs h)
  len := r.len
  cell := fun i x e => by
    obtain ⟨o, h1, h2⟩ := r.cell i x e
    refine ⟨o, h1, ?_⟩
    cases x with
    | un => trivial
    | d x => obtain ⟨v, e1, e2⟩ := h2; exact ⟨v, e1, e2.mono q.gg⟩
    | «at» r' p => exact h2
    | tape => exact h2
    | exc e => obtain ⟨a, e1, e2⟩ := h2; exact ⟨a, e1, exAt_step q.gg (q.xd r.tp) (q.ext r.tp) (q.tup r.tp) e2⟩
  hlen := r.hlen
  hid := fun i x e => by
    obtain ⟨o, h1, h2⟩ := r.hid i x e
    refine ⟨o, h1, ?_⟩
    cases x with
    | un => trivial
    | d x => obtain ⟨v, e1, e2⟩ := h2; exact ⟨v, e1, e2.mono q.gg⟩
    | «at» r' p => exact h2
    | tape => exact h2
    | exc e => obtain ⟨a, e1, e2⟩ := h2; exact ⟨a, e1, exAt_step q.gg (q.xd r.tp) (q.ext r.tp) (q.tup r.tp) e2⟩
end
end Fe

namespace Fe
open PySem L2 Fc
open scoped List
section
variable {K : PySem.W.Frag} {cm : Nat → Addr}
/-- a new tree at v: new since Hs -/
def NewAt (K : PySem.W.Frag) (cm : Nat → Addr) (Hs G H : Hp) (v : V) (m : M) : Prop := ∃ n : N, n.erase = m ∧ n.val = v ∧ n.isNd ∧ (∀ x ∈ n.cells cm, H x.1 = some x.2 ∧ G x.1 = none ∧ Hs x.1 = none) ∧ (∀ l ∈ n.leaves, Rv K G l.1 l.2) ∧ ((n.cells cm).map (·.1)).Nodup
def RvX (c : Cz K cm) (ns : List N) (Hs G H : Hp) (v : V) : RV → Prop
  | .d x => Rv K G v x
  | .at r p => ∃ n, subL ns r p = some n ∧ n.isNd ∧ v = n.val
  | .new m => NewAt K cm Hs G H v m
  | .exc e => ∃ a, v = .ref a ∧ ExAt c G H e a
  | .tape => ∃ t l xs, c.tp = some (t, l, xs) ∧ v = .ref t
abbrev XEx := Xc → Sx → Prop
abbrev AQ := XEx → Sx → (RV → Prop) → Prop
abbrev AQT := XEx → Sx → (Bool → Prop) → Prop
abbrev AQA := XEx → Sx → (List RV → Prop) → Prop
/-- what is wanted of an exception -/
def XOk (c : Cz K cm) (W : WX) (g : Hp) (ex : XEx) : Prop := ∀ e s ns hs σ G H, Rl c s ns hs σ G H → Ex g G → ex e s → ∀ dd, ExF K G H e dd → W (.ref (cm e.cls)) dd σ H
theorem XOk.mono {c : Cz K cm} {W : WX} {g g' : Hp} {ex : XEx} (e : Ex g g') (h : XOk c W g ex) : XOk c W g' ex := fun x s ns hs σ G H rl hg => h x s ns hs σ G H rl (e.trans hg)
def AbsQ (c : Cz K cm) (W : WX) (t : TE) (a : AQ) : Prop := ∀ s ns hs σ G H, Rl c s ns hs σ G H → ∀ ex, XOk c W G ex → ∀ (Qd : RV → Prop) (Q : VK), a ex s Qd → (∀ v rv G' H', Qs c G H G' H' → RvX c ns H G' H' v rv → Qd rv → Q v H') → t σ H Q
def AbsQT (c : Cz K cm) (W : WX) (t : TT) (a : AQT) : Prop := ∀ s ns hs σ G H, Rl c s ns hs σ G H → ∀ ex, XOk c W G ex → ∀ (Qd : Bool → Prop) (Q : Bool → Hp → Prop), a ex s Qd → (∀ b G' H', Qs c G H G' H' → Qd b → Q b H') → t σ H Q
inductive RvXs (c : Cz K cm) (ns : List N) (Hs G H : Hp) : List V → List RV → Prop
  | nil : RvXs c ns Hs G H [] []
  | cons {v : V} {vs : List V} {rv : RV} {rvs : List RV} : RvX c ns Hs G H v rv → RvXs c ns Hs G H vs rvs → RvXs c ns Hs G H (v :: vs) (rv :: rvs)
def AbsQA (c : Cz K cm) (W : WX) (t : TA) (a : AQA) : Prop := ∀ s ns hs σ G H, Rl c s ns hs σ G H → ∀ ex, XOk c W G ex → ∀ (Qd : List RV → Prop) (Q : List V → Hp → Prop), a ex s Qd → (∀ vs rvs G' H', Qs c G H G' H' → RvXs c ns H G' H' vs rvs → Qd rvs → Q vs H') → t σ H Q
variable {c : Cz K cm} {W : WX} {s : Sx} {ns : List N} {hs : List V} {σ : St} {G H G' H' Hs Hs' G2 H2 : Hp}
theorem RvX.step {v : V} {rv : RV} (tp : ∀ t l xs, c.tp = some (t, l, xs) → TapeAt t l xs H) (tpn : ∀ t l xs, c.tp = some (t, l, xs) → Hs t ≠ none) (q : Qs c G H G' H') (h : RvX c ns Hs G H v rv) : RvX c ns Hs G' H' v rv := by
  cases rv with
  | d x => exact Rv.mono q.gg h
  | «at» r p => exact h
  | new m =>
    obtain ⟨n, h1, h2, h3, h4, h5, h6⟩ := h
    refine ⟨n, h1, h2, h3, fun x hx => ?_, fun l hl => (h5 l hl).mono q.gg, h6⟩
    obtain ⟨g1, g2, g3⟩ := h4 x hx
    exact ⟨q.hh _ _ (fun l xs e => tpn _ l xs e g3) g1, q.fr _ g2 (by rw [g1]; exact fun z => nomatch z), g3⟩
  | exc e =>
    obtain ⟨a, e1, e2⟩ := h
    exact ⟨a, e1, exAt_step q.gg (q.xd tp) (q.ext tp) (q.tup tp) e2⟩
  | tape => exact h
/-- new since earlier -/
theorem RvX.early {v : V} {rv : RV} (e : ∀ b, Hs b ≠ none → H b ≠ none) (h : RvX c ns H G' H' v rv) : RvX c ns Hs G' H' v rv := by
  cases rv with
  | new m =>
    obtain ⟨n, h1, h2, h3, h4, h5, h6⟩ := h
    exact ⟨n, h1, h2, h3, fun x hx => ⟨(h4 x hx).1, (h4 x hx).2.1, Classical.byContradiction fun z => e _ z (h4 x hx).2.2⟩, h5, h6⟩
  | _ => exact h
theorem tpn (r : Rl c s ns hs σ G H) : ∀ t l xs, c.tp = some (t, l, xs) → H t ≠ none := fun t l xs e => tape_ne (r.tp t l xs e)
theorem RvXs.step {vs : List V} {rvs : List RV} (tp : ∀ t l xs, c.tp = some (t, l, xs) → TapeAt t l xs H) (tpn : ∀ t l xs, c.tp = some (t, l, xs) → Hs t ≠ none) (q : Qs c G H G' H') (h : RvXs c ns Hs G H vs rvs) : RvXs c ns Hs G' H' vs rvs := by
  induction h with
  | nil => exact .nil
  | cons a _ ih => exact .cons (a.step tp tpn q) ih
theorem RvXs.early {vs : List V} {rvs : List RV} (e : ∀ b, Hs b ≠ none → H b ≠ none) (h : RvXs c ns H G' H' vs rvs) : RvXs c ns Hs G' H' vs rvs := by
  induction h with
  | nil => exact .nil
  | cons a _ ih => exact .cons (a.early e) ih
/-! ### what the first layer gives -/
def proj : Cl → Cell
  | .d x => .d x
  | .tape => .tape
  | _ => .un
def qCtx (r : Rl c s ns hs σ G H) : Ctx K where
  M := fun b => (∃ l xs, c.tp = some (b, l, xs)) ∨ (∃ t xs, c.tp = some (t, b, xs)) ∨ b ∈ (cellsL cm ns).map (·.1)
  R := fun H' => (∀ t l xs, c.tp = some (t, l, xs) → TapeAt t l xs H') ∧ ∀ x ∈ cellsL cm ns, H' x.1 = some x.2
  tp := c.tp
  G0 := G
  H0 := H
  dom := fun H' b h m => by
    rcases m with ⟨l, xs, e⟩ | ⟨t, xs, e⟩ | m
    · exact tape_ne (h.1 _ _ _ e)
    · exact tape_neL (h.1 _ _ _ e)
    · obtain ⟨x, hx, rfl⟩ := List.mem_map.mp m
      rw [h.2 x hx]; exact fun z => nomatch z
  loc := fun H1 H2 h e => by
    refine ⟨fun t l xs q => ?_, fun x hx => ?_⟩
    · obtain ⟨ne, hl, i, j, h0, h1, ht⟩ := h.1 t l xs q
      exact ⟨ne, by rw [e l (.inr (.inl ⟨t, xs, q⟩))]; exact hl, i, j, h0, h1, by rw [e t (.inl ⟨l, xs, q⟩)]; exact ht⟩
    · rw [e x.1 (.inr (.inr (List.mem_map.mpr ⟨x, hx, rfl⟩)))]; exact h.2 x hx
  ex0 := r.ex
  gm0 := fun b m => by
    rcases m with ⟨l, xs, e⟩ | ⟨t, xs, e⟩ | m
    · exact r.fr b (c.tp0 _ _ _ e).2.1 (tape_ne (c.tp0 _ _ _ e).1)
    · exact r.fr b (c.tp0 _ _ _ e).2.2 (tape_neL (c.tp0 _ _ _ e).1)
    · obtain ⟨x, hx, rfl⟩ := List.mem_map.mp m
      exact r.gn x hx
  r0 := ⟨r.tp, r.ok⟩
  tpIn := fun t l xs e => ⟨.inl ⟨l, xs, e⟩, .inr (.inl ⟨t, xs, e⟩), fun H' h => h.1 t l xs e, fun H1 H2 h T k => ⟨fun t' l' xs' e' => by
      rw [e] at e'; cases e'; exact T, fun x hx => by
      rw [k x.1 (.inr (.inr (List.mem_map.mpr ⟨x, hx, rfl⟩))) (r.nt x hx t l xs e).1]; exact h.2 x hx⟩⟩
theorem qRel (r : Rl c s ns hs σ G H) : Rel (qCtx r) (s.e.map proj) σ G H := by
  have no : ∀ x : Cl, (proj x).isOwn = false := fun x => by cases x <;> rfl
  refine ⟨.refl (Ok.zero _), by rw [List.length_map]; exact r.len, fun i x e => ?_, fun i j x y p ex ey ox oy _ _ => ?_⟩
  · rw [List.getElem?_map] at e
    cases hi : s.e[i]? with
    | none => rw [hi] at e; cases e
    | some y =>
      rw [hi] at e
      cases e
      obtain ⟨o, h1, h2⟩ := r.cell i y hi
      refine ⟨o, h1, ?_⟩
      cases y with
      | d x => exact h2
      | tape => exact h2
      | _ => trivial
  · rw [List.getElem?_map] at ex
    cases hi : s.e[i]? with
    | none => rw [hi] at ex; cases ex
    | some z => rw [hi] at ex; cases ex; rw [no z] at ox; cases ox
theorem qStep (r : Rl c s ns hs σ G H) (q : Step (qCtx r) G H G' H') : Qs c G H G' H' := by
  refine ⟨q.gg, q.gh, fun b o m h => ?_, q.fr, q.r.1⟩
  by_cases hm : (qCtx r).M b
  · rcases hm with ⟨l, xs, e⟩ | ⟨t, xs, e⟩ | hm
    · exact absurd e (m l xs)
    · obtain ⟨_, hl, _⟩ := r.tp _ _ _ e
      obtain ⟨_, hl', _⟩ := q.r.1 _ _ _ e
      rw [hl'] ; rw [hl] at h; exact h
    · obtain ⟨x, hx, rfl⟩ := List.mem_map.mp hm
      rw [r.ok x hx] at h
      rw [q.r.2 x hx]; exact h
  · exact q.hh b o hm h
def qLift (a : AE) : AQ := fun _ s Q => a (s.e.map proj) fun x => Q (.d x)
theorem q_lift {t : TE} {a : AE} (h : ∀ c : Ctx K, AbsE c t a) : AbsQ c W t (qLift a) := by
  intro s ns hs σ G H r ex hx Qd Q h1 q
  exact h (qCtx r) _ σ G H (qRel r) _ _ h1 fun v d G' H' st rv hq => q v (.d d) G' H' (qStep r st) rv hq
def qLiftT (a : AT) : AQT := fun _ s Q => a (s.e.map proj) Q
theorem q_liftT {t : TT} {a : AT} (h : ∀ c : Ctx K, AbsT c t a) : AbsQT c W t (qLiftT a) := by
  intro s ns hs σ G H r ex hx Qd Q h1 q
  exact h (qCtx r) _ σ G H (qRel r) _ _ h1 fun b G' H' st hq => q b G' H' (qStep r st) hq
/-! ### names, fields, items -/
def qVar (i : Nat) : AQ := fun _ s Q => match s.e[i]? with
  | some (.d x) => Q (.d x)
  | some (.at r p) => Q (.at r p)
  | some (.exc e) => Q (.exc e)
  | some .tape => Q .tape
  | _ => False
theorem q_var (i : Nat) : AbsQ c W (tVar i) (qVar i) := by
  intro s ns hs σ G H r ex hx Qd Q h q
  unfold qVar at h
  split at h
  · rename_i x hi
    obtain ⟨o, h1, v, rfl, h2⟩ := r.cell i _ hi
    exact ⟨v, h1, q v (.d x) G H (.refl r) h2 h⟩
  · rename_i r' p hi
    obtain ⟨o, h1, n, h2, h3, rfl⟩ := r.cell i _ hi
    exact ⟨n.val, h1, q _ (.at r' p) G H (.refl r) ⟨n, h2, h3, rfl⟩ h⟩
  · rename_i e hi
    obtain ⟨o, h1, a, rfl, h2⟩ := r.cell i _ hi
    exact ⟨_, h1, q _ (.exc e) G H (.refl r) ⟨a, rfl, h2⟩ h⟩
  · rename_i hi
    obtain ⟨o, h1, t, l, xs, h2, rfl⟩ := r.cell i _ hi
    exact ⟨_, h1, q _ .tape G H (.refl r) ⟨t, l, xs, h2, rfl⟩ h⟩
  · exact h.elim
/-- a part of a tree, as a value -/
def child (r : Nat) (p : Pt) (j : Nat) (Q : RV → Prop) : Option M → Prop
  | some (.d x) => Q (.d x)
  | some (.nd _ _) => Q (.at r (p ++ [j]))
  | _ => False
theorem child_d {r : Nat} {p : Pt} {j : Nat} {Q : RV → Prop} {x : D} : child r p j Q (some (.d x)) = Q (.d x) := rfl
theorem child_nd {r : Nat} {p : Pt} {j : Nat} {Q : RV → Prop} {k : Kd} {cs : List M} : child r p j Q (some (.nd k cs)) = Q (.at r (p ++ [j])) := rfl
theorem sub_snoc : ∀ (p : Pt) (n : N) (a da : Addr) (k : Kd) (cs : List N) (j : Nat), n.sub p = some (.nd a da k cs) → n.sub (p ++ [j]) = cs[j]?
  | [], n, a, da, k, cs, j, h => by
    have : n = .nd a da k cs := by cases n <;> simpa [N.sub] using h
    subst this
    show N.sub _ [j] = _
    simp only [N.sub]
    cases cs[j]? <;> rfl
  | i :: p, .d _ _, a, da, k, cs, j, h => by simp [N.sub] at h
  | i :: p, .gone _, a, da, k, cs, j, h => by simp [N.sub] at h
  | i :: p, .nd a' da' k' cs', a, da, k, cs, j, h => by
    simp only [N.sub, List.cons_append] at h ⊢
    cases hc : cs'[i]? with
    | none => rw [hc] at h; cases h
    | some c' => rw [hc] at h; exact sub_snoc p c' a da k cs j h
theorem subL_snoc {r : Nat} {p : Pt} {a da : Addr} {k : Kd} {cs : List N} {j : Nat} (h : subL ns r p = some (.nd a da k cs)) : subL ns r (p ++ [j]) = cs[j]? := by
  unfold subL at h ⊢
  cases hr : ns[r]? with
  | none => rw [hr] at h; cases h
  | some n => rw [hr] at h; exact sub_snoc p n a da k cs j h
/-- what a tree tells lies there -/
theorem Rl.at (r : Rl c s ns hs σ G H) {i : Nat} {p : Pt} {k : Kd} {ms : List M} (h : subM s.r i p = some (.nd k ms)) : ∃ a da cs, subL ns i p = some (.nd a da k cs) ∧ eraseL cs = ms := by
  rw [← r.er, subM_erase] at h
  cases hn : subL ns i p with
  | none => rw [hn] at h; cases h
  | some n =>
    rw [hn] at h
    cases n with
    | d v x => cases h
    | gone v => cases h
    | nd a da k' cs =>
      have h' := Option.some.inj h
      simp only [N.erase] at h'
      cases h'
      exact ⟨a, da, cs, rfl, rfl⟩
theorem child_ok (r : Rl c s ns hs σ G H) {i : Nat} {p : Pt} {a da : Addr} {k : Kd} {cs : List N} {j : Nat} {Qd : RV → Prop} (h : subL ns i p = some (.nd a da k cs)) (hq : child i p j Qd ((eraseL cs)[j]?)) : ∃ n rv, cs[j]? = some n ∧ RvX c ns H G H n.val rv ∧ Qd rv := by
  rw [eraseL_map, List.getElem?_map] at hq
  cases hj : cs[j]? with
  | none => rw [hj] at hq; exact hq.elim
  | some n =>
    rw [hj] at hq
    cases n with
    | d v x => exact ⟨_, .d x, rfl, r.lv (v, x) (leaves_subL h (mem_leavesL.mpr ⟨_, List.mem_of_getElem? hj, by simp [N.leaves]⟩)), hq⟩
    | gone v => exact hq.elim
    | nd a' da' k' cs' => exact ⟨_, .at i (p ++ [j]), rfl, ⟨.nd a' da' k' cs', by rw [subL_snoc h, hj], trivial, rfl⟩, hq⟩
theorem cell_head (r : Rl c s ns hs σ G H) {i : Nat} {p : Pt} {a da : Addr} {k : Kd} {cs : List N} (h : subL ns i p = some (.nd a da k cs)) : ∀ x ∈ hdO cm a da (cs.map N.val) k, H x.1 = some x.2 := fun x hx => by
  obtain ⟨R, h1, _⟩ := focusL cm h
  exact r.ok x (h1.mem_iff.mpr (List.mem_append.mpr (.inl (by simp only [N.cells, List.mem_append]; exact .inl hx))))
theorem lookup_zip {α : Type} : ∀ (fs : List Str) (vs : List α) (f : Str) (j : Nat) (v : α), fs.idxOf? f = some j → vs[j]? = some v → (fs.zip vs).lookup f = some v
  | [], vs, f, j, v, h, e => by simp [List.idxOf?] at h
  | g :: fs, [], f, j, v, h, e => by simp at e
  | g :: fs, w :: vs, f, j, v, h, e => by
    by_cases q : g = f
    · subst q
      have : j = 0 := by simp [List.idxOf?, List.findIdx?_cons] at h; exact h.symm
      subst this
      simp at e
      subst e
      simp [List.lookup]
    · have hne : (g == f) = false := by simpa using q
      rw [List.idxOf?, List.findIdx?_cons, hne] at h
      cases hk : List.findIdx? (fun x => x == f) fs with
      | none => rw [hk] at h; simp at h
      | some k =>
        rw [hk] at h
        simp at h
        subst h
        have := lookup_zip fs vs f k v (by simpa [List.idxOf?] using hk) (by simpa using e)
        have hne2 : (f == g) = false := by simpa using fun z => q z.symm
        simp only [List.zip_cons_cons, List.lookup, hne2]
        exact this
def fldV (n : Nat) (fs : List Str) (j : Nat) (s : Sx) (Q : RV → Prop) : RV → Prop
  | .at r p => ∃ cs, subM s.r r p = some (.nd (.obj n fs) cs) ∧ child r p j Q cs[j]?
  | _ => False
theorem fldV_at {n : Nat} {fs : List Str} {j : Nat} {s : Sx} {Q : RV → Prop} {r : Nat} {p : Pt} : fldV n fs j s Q (.at r p) = ∃ cs, subM s.r r p = some (.nd (.obj n fs) cs) ∧ child r p j Q cs[j]? := rfl
def qFld (n : Nat) (fs : List Str) (j : Nat) (a : AQ) : AQ := fun ex s Q => a ex s (fldV n fs j s Q)
theorem q_fld {n : Nat} {f : Str} {fs : List Str} {j : Nat} {t : TE} {a : AQ} (hc : Cls K (cm n)) (hn : NoAttr K (cm n) f) (hj : fs.idxOf? f = some j) (ha : AbsQ c W t a) : AbsQ c W (tFld K t f) (qFld n fs j a) := by
  intro s ns hs σ G H r ex hx Qd Q h q
  refine ha s ns hs σ G H r ex hx _ _ h fun v rv G1 H1 q1 r1 h1 => ?_
  cases rv with
  | «at» i p =>
    obtain ⟨n', e1, e2, rfl⟩ := r1
    obtain ⟨ms, hm, h1⟩ := h1
    have rq := r.quiet q1
    obtain ⟨a', da, cs, e3, rfl⟩ := rq.at hm
    rw [e1] at e3
    cases e3
    obtain ⟨m, rv', g1, g2, g3⟩ := child_ok rq e1 h1
    refine ⟨a', cm n, da, fs.zip (cs.map N.val), m.val, rfl, cell_head rq e1 (a', _) (by simp [hdO]), hc, hn, lookup_zip fs _ f j _ hj (by rw [List.getElem?_map, g1]; rfl), ?_⟩
    exact q _ rv' G1 H1 q1 (g2.early fun b hb => q1.th r.tp b hb) g3
  | _ => exact h1.elim
end
end Fe

namespace Fe
open PySem L2 Fc
open scoped List
/-! ### a tree read as a datum -/
mutual
def viewM : M → Option D
  | .d x => some x
  | .gone => none
  | .nd .lst cs => (match viewL cs with | some xs => some (.list xs) | none => none)
  | .nd .tup cs => (match viewL cs with | some xs => some (.tuple xs) | none => none)
  | .nd (.dic ks) cs => (match viewL cs with | some xs => if ks.length = xs.length then some (dictD (ks.zip xs)) else none | none => none)
  | .nd (.dT _) _ => none
  | .nd (.obj _ _) _ => none
def viewL : List M → Option (List D)
  | [] => some []
  | m :: r => (match viewM m with | some x => (match viewL r with | some xs => some (x :: xs) | none => none) | none => none)
end
theorem viewL_d : ∀ xs : List D, viewL (xs.map M.d) = some xs
  | [] => rfl
  | x :: r => by simp [viewL, viewM, viewL_d r]
section
variable {K : PySem.W.Frag} {cm : Nat → Addr}
mutual
theorem view_rv {G H : Hp} (e : Ex G H) : ∀ (n : N) (x : D), (∀ y ∈ n.cells cm, H y.1 = some y.2) → (∀ l ∈ n.leaves, Rv K G l.1 l.2) → viewM n.erase = some x → Rv K H n.val x
  | .d v y, x, hc, hl, h => by
    simp only [N.erase, viewM, Option.some.injEq] at h
    subst h
    exact (hl (v, y) (by simp [N.leaves])).mono e
  | .gone v, x, hc, hl, h => by simp [N.erase, viewM] at h
  | .nd a da k cs, x, hc, hl, h => by
    have hc' : ∀ y ∈ cellsL cm cs, H y.1 = some y.2 := fun y hy => hc y (by simp only [N.cells, List.mem_append]; exact .inr hy)
    have hd : ∀ y ∈ hdO cm a da (cs.map N.val) k, H y.1 = some y.2 := fun y hy => hc y (by simp only [N.cells, List.mem_append]; exact .inl hy)
    have hl' : ∀ l ∈ leavesL cs, Rv K G l.1 l.2 := fun l q => hl l (by simpa [N.leaves] using q)
    cases k with
    | lst =>
      simp only [N.erase, viewM] at h
      split at h
      · rename_i xs hx
        cases h
        exact .lst (hd (a, _) (by simp [hdO])) (view_rvL e cs xs hc' hl' hx)
      · cases h
    | tup =>
      simp only [N.erase, viewM] at h
      split at h
      · rename_i xs hx
        cases h
        exact .tup (SqT.of (hd (a, _) (by simp [hdO]))) (view_rvL e cs xs hc' hl' hx)
      · cases h
    | dic ks =>
      simp only [N.erase, viewM] at h
      split at h
      · rename_i xs hx
        split at h
        · rename_i hlen
          cases h
          have A := view_rvL e cs xs hc' hl' hx
          have lv := A.length
          have e1 : (ks.zip (cs.map N.val)).map (·.1) = ks := List.map_fst_zip (by omega)
          have e2 : (ks.zip (cs.map N.val)).map (·.2) = cs.map N.val := List.map_snd_zip (by omega)
          have e3 : (ks.zip xs).map (·.1) = ks := List.map_fst_zip (by omega)
          have e4 : (ks.zip xs).map (·.2) = xs := List.map_snd_zip (by omega)
          exact .dic (kvs := ks.zip (cs.map N.val)) (hd (a, _) (by simp [hdO])) (by rw [e1, e3]) (by rw [e2, e4]; exact A)
        · cases h
      · cases h
    | dT ks => simp [N.erase, viewM] at h
    | obj n fs => simp [N.erase, viewM] at h
theorem view_rvL {G H : Hp} (e : Ex G H) : ∀ (cs : List N) (xs : List D), (∀ y ∈ cellsL cm cs, H y.1 = some y.2) → (∀ l ∈ leavesL cs, Rv K G l.1 l.2) → viewL (eraseL cs) = some xs → RvA K H (cs.map N.val) xs
  | [], xs, hc, hl, h => by
    simp only [eraseL, viewL, Option.some.injEq] at h
    subst h; exact .nil
  | n :: r, xs, hc, hl, h => by
    simp only [eraseL, viewL] at h
    split at h
    · rename_i x hx
      split at h
      · rename_i ys hy
        cases h
        exact .cons (view_rv e n x (fun y q => hc y (by simp only [cellsL, List.mem_append]; exact .inl q)) (fun l q => hl l (by simp only [leavesL, List.mem_append]; exact .inl q)) hx)
          (view_rvL e r ys (fun y q => hc y (by simp only [cellsL, List.mem_append]; exact .inr q)) (fun l q => hl l (by simp only [leavesL, List.mem_append]; exact .inr q)) hy)
      · cases h
    · cases h
end
variable {c : Cz K cm} {W : WX} {s : Sx} {ns : List N} {hs : List V} {σ : St} {G H G' H' Hs G2 H2 : Hp}
theorem Rl.sub (r : Rl c s ns hs σ G H) {i : Nat} {p : Pt} {n : N} (h : subL ns i p = some n) : (∀ y ∈ n.cells cm, H y.1 = some y.2) ∧ ∀ l ∈ n.leaves, Rv K G l.1 l.2 := by
  refine ⟨fun y hy => ?_, fun l hl => r.lv l (leaves_subL h hl)⟩
  obtain ⟨R, h1, _⟩ := focusL cm h
  exact r.ok y (h1.mem_iff.mpr (List.mem_append.mpr (.inl hy)))
/-- what a value reads as, now -/
def vw (s : Sx) : RV → Option D
  | .d x => some x
  | .at r p => (match subM s.r r p with | some m => viewM m | none => none)
  | .new m => viewM m
  | .exc _ => none
  | .tape => none
theorem vw_rv (r : Rl c s ns hs σ G H) {v : V} {rv : RV} {x : D} (h : RvX c ns Hs G H v rv) (e : vw s rv = some x) : Rv K H v x := by
  cases rv with
  | d y => cases e; exact Rv.mono r.ex h
  | «at» i p =>
    obtain ⟨n, h1, h2, rfl⟩ := h
    simp only [vw, ← r.er, subM_erase, h1] at e
    obtain ⟨a, b⟩ := r.sub h1
    exact view_rv r.ex n x a b e
  | new m =>
    obtain ⟨n, rfl, rfl, h3, h4, h5, h6⟩ := h
    exact view_rv r.ex n x (fun y hy => (h4 y hy).1) h5 e
  | exc e' => cases e
  | tape => cases e
/-- a thing without parts -/
def flat : D → Bool
  | .none | .bool _ | .int _ | .str _ => true
  | _ => false
theorem flat_rv {G G' : Hp} {v : V} {x : D} (h : Rv K G v x) (f : flat x = true) : Rv K G' v x := by
  cases h with
  | non => exact .non
  | bl b => exact .bl b
  | int i => exact .int i
  | str z => exact .str z
  | _ => cases f
/-- of an operation that was asked on things read as they are: back to what is known -/
theorem backQ (r : Rl c s ns hs σ G H) (st : Step (Ctx.pure K (Ex.refl H)) H H G' H') : Qs c G H G H' := by
  have hh : Ex H H' := fun b o h => st.hh b o (fun z => z) h
  refine ⟨Ex.refl _, fun b o h => hh b o (r.ex b o h), fun b o _ h => hh b o h, fun _ h _ => h, fun t l xs e => ?_⟩
  obtain ⟨ne, hl, i, j, h0, h1, ht⟩ := r.tp t l xs e
  exact ⟨ne, hh _ _ hl, i, j, h0, h1, hh _ _ ht⟩
def opV (f : A2) (s : Sx) (Q : RV → Prop) : RV → RV → Prop
  | .d x, .d y => f x y fun z => Q (.d z)
  | x, y => ∃ dx dy, vw s x = some dx ∧ vw s y = some dy ∧ f dx dy fun z => flat z = true ∧ Q (.d z)
theorem opV_d {f : A2} {s : Sx} {Q : RV → Prop} {x y : D} : opV f s Q (.d x) (.d y) = f x y fun z => Q (.d z) := rfl
theorem opV_at {f : A2} {s : Sx} {Q : RV → Prop} {r : Nat} {p : Pt} {y : RV} : opV f s Q (.at r p) y = ∃ dx dy, vw s (.at r p) = some dx ∧ vw s y = some dy ∧ f dx dy fun z => flat z = true ∧ Q (.d z) := by cases y <;> rfl
theorem opV_dat {f : A2} {s : Sx} {Q : RV → Prop} {r : Nat} {p : Pt} {x : D} : opV f s Q (.d x) (.at r p) = ∃ dx dy, vw s (.d x) = some dx ∧ vw s (.at r p) = some dy ∧ f dx dy fun z => flat z = true ∧ Q (.d z) := rfl
theorem opV_new {f : A2} {s : Sx} {Q : RV → Prop} {m : M} {y : RV} : opV f s Q (.new m) y = ∃ dx dy, vw s (.new m) = some dx ∧ vw s y = some dy ∧ f dx dy fun z => flat z = true ∧ Q (.d z) := by cases y <;> rfl
theorem opV_dnew {f : A2} {s : Sx} {Q : RV → Prop} {m : M} {x : D} : opV f s Q (.d x) (.new m) = ∃ dx dy, vw s (.d x) = some dx ∧ vw s (.new m) = some dy ∧ f dx dy fun z => flat z = true ∧ Q (.d z) := rfl
def qOp (f : A2) (a b : AQ) : AQ := fun ex s Q => a ex s fun x => b ex s fun y => opV f s Q x y
theorem q_op {r : R2} {f : A2} {ta tb : TE} {a b : AQ} (ho : ∀ c : Ctx K, AbsR2 c r f) (ha : AbsQ c W ta a) (hb : AbsQ c W tb b) : AbsQ c W (tOp r ta tb) (qOp f a b) := by
  intro s ns hs σ G H rl ex hx Qd Q h q
  refine ha s ns hs σ G H rl ex hx _ _ h fun v x G1 H1 q1 r1 h1 => ?_
  have rl1 := rl.quiet q1
  refine hb s ns hs σ G1 H1 rl1 ex (hx.mono q1.gg) _ _ h1 fun w y G2 H2 q2 r2 h2 => ?_
  have rl2 := rl1.quiet q2
  have r1' := r1.step rl1.tp (tpn rl) q2
  have key : (∃ dx dy, vw s x = some dx ∧ vw s y = some dy ∧ f dx dy fun z => flat z = true ∧ Qd (.d z)) → r v w H2 Q := by
    rintro ⟨dx, dy, e1, e2, h3⟩
    refine ho (Ctx.pure K (Ex.refl H2)) H2 H2 v w dx dy (Ok.zero _) (vw_rv rl2 r1' e1) (vw_rv rl2 r2 e2) _ _ h3 fun u d G3 H3 st ru hq => ?_
    exact q u (.d d) G2 H3 ((q1.tr q2).tr (backQ rl2 st)) (flat_rv ru hq.1) hq.2
  cases x with
  | d dx =>
    cases y with
    | d dy =>
      exact ho (qCtx rl2) G2 H2 v w dx dy (Ok.zero (qCtx rl2)) r1' r2 _ _ h2 fun u d G3 H3 st ru hq => q u (.d d) G3 H3 ((q1.tr q2).tr (qStep rl2 st)) ru hq
    | _ => exact key h2
  | _ => exact key (by cases y <;> exact h2)
def tstV (Q : Bool → Prop) : RV → Prop
  | .d (.bool k) => Q k
  | _ => False
theorem tstV_b {Q : Bool → Prop} {k : Bool} : tstV Q (.d (.bool k)) = Q k := rfl
def qTest (a : AQ) : AQT := fun ex s Q => a ex s (tstV Q)
theorem q_test {t : TE} {a : AQ} (ha : AbsQ c W t a) : AbsQT c W (tTest t) (qTest a) := by
  intro s ns hs σ G H rl ex hx Qd Q h q
  refine ha s ns hs σ G H rl ex hx _ _ h fun v x G1 H1 q1 r1 h1 => ?_
  unfold tstV at h1
  split at h1
  · rename_i k
    cases r1
    exact ⟨k, rfl, q k G1 H1 q1 h1⟩
  · exact h1.elim
theorem q_B {t : TE} {a : AQ} (ha : AbsQ c W t a) : AbsQT c W (tB t) (qTest a) := q_test ha
/-- truth of a thing, read as it is -/
def qTru (a : AQ) : AQT := fun ex s Q => a ex s fun x => ∃ d, vw s x = some d ∧ truOk d ∧ Q (truD d)
theorem q_tru {t : TE} {a : AQ} (ha : AbsQ c W t a) : AbsQT c W (fun σ H Q => t σ H fun x H' => ∃ k, TruV K x H' k ∧ Q k H') (qTru a) := by
  intro s ns hs σ G H rl ex hx Qd Q h q
  refine ha s ns hs σ G H rl ex hx _ _ h fun v x G1 H1 q1 r1 h1 => ?_
  obtain ⟨d, e, hd, h1⟩ := h1
  exact ⟨truD d, tru_of (Ex.refl H1) (vw_rv (rl.quiet q1) r1 e) hd, q _ G1 H1 q1 h1⟩
def qAnd (a b : AQT) : AQT := fun ex s Q => a ex s fun x => if x = true then b ex s Q else Q false
def qOr (a b : AQT) : AQT := fun ex s Q => a ex s fun x => if x = true then Q true else b ex s Q
def qNot (a : AQT) : AQT := fun ex s Q => a ex s fun x => Q (!x)
theorem q_and {t u : TT} {a b : AQT} (ha : AbsQT c W t a) (hb : AbsQT c W u b) : AbsQT c W (tAnd t u) (qAnd a b) := by
  intro s ns hs σ G H rl ex hx Qd Q h q
  refine ha s ns hs σ G H rl ex hx _ _ h fun x G1 H1 q1 h1 => ?_
  cases x with
  | true => exact iteT (hb s ns hs σ G1 H1 (rl.quiet q1) ex (hx.mono q1.gg) _ _ (by simpa using h1) fun b G2 H2 q2 h2 => q b G2 H2 (q1.tr q2) h2)
  | false => exact iteF (q false G1 H1 q1 (by simpa using h1))
theorem q_or {t u : TT} {a b : AQT} (ha : AbsQT c W t a) (hb : AbsQT c W u b) : AbsQT c W (tOr t u) (qOr a b) := by
  intro s ns hs σ G H rl ex hx Qd Q h q
  refine ha s ns hs σ G H rl ex hx _ _ h fun x G1 H1 q1 h1 => ?_
  cases x with
  | false => exact iteF (hb s ns hs σ G1 H1 (rl.quiet q1) ex (hx.mono q1.gg) _ _ (by simpa using h1) fun b G2 H2 q2 h2 => q b G2 H2 (q1.tr q2) h2)
  | true => exact iteT (q true G1 H1 q1 (by simpa using h1))
theorem q_not {t : TT} {a : AQT} (ha : AbsQT c W t a) : AbsQT c W (tNot t) (qNot a) := by
  intro s ns hs σ G H rl ex hx Qd Q h q
  exact ha s ns hs σ G H rl ex hx _ _ h fun x G1 H1 q1 h1 => q _ G1 H1 q1 h1
/-- and, or, not as values -/
def qAndV (a b : AQ) : AQ := fun ex s Q => a ex s (tstV fun k => if k = true then b ex s Q else Q (.d (.bool false)))
def qOrV (a b : AQ) : AQ := fun ex s Q => a ex s (tstV fun k => if k = true then Q (.d (.bool true)) else b ex s Q)
def qNotV (a : AQ) : AQ := fun ex s Q => a ex s (tstV fun k => Q (.d (.bool (!k))))
theorem q_andV {ta tb : TE} {a b : AQ} (ha : AbsQ c W ta a) (hb : AbsQ c W tb b) : AbsQ c W (tAndV ta tb) (qAndV a b) := by
  intro s ns hs σ G H rl ex hx Qd Q h q
  refine ha s ns hs σ G H rl ex hx _ _ h fun v x G1 H1 q1 r1 h1 => ?_
  unfold tstV at h1
  split at h1
  · rename_i k
    cases r1
    refine ⟨k, rfl, ?_⟩
    cases k with
    | true => exact iteT (hb s ns hs σ G1 H1 (rl.quiet q1) ex (hx.mono q1.gg) _ _ (by simpa using h1) fun v d G2 H2 q2 r2 h2 => q v d G2 H2 (q1.tr q2) (r2.early fun b hb => q1.th rl.tp b hb) h2)
    | false => exact iteF (q _ (.d (.bool false)) G1 H1 q1 (Rv.bl false) (by simpa using h1))
  · exact h1.elim
theorem q_orV {ta tb : TE} {a b : AQ} (ha : AbsQ c W ta a) (hb : AbsQ c W tb b) : AbsQ c W (tOrV ta tb) (qOrV a b) := by
  intro s ns hs σ G H rl ex hx Qd Q h q
  refine ha s ns hs σ G H rl ex hx _ _ h fun v x G1 H1 q1 r1 h1 => ?_
  unfold tstV at h1
  split at h1
  · rename_i k
    cases r1
    refine ⟨k, rfl, ?_⟩
    cases k with
    | false => exact iteF (hb s ns hs σ G1 H1 (rl.quiet q1) ex (hx.mono q1.gg) _ _ (by simpa using h1) fun v d G2 H2 q2 r2 h2 => q v d G2 H2 (q1.tr q2) (r2.early fun b hb => q1.th rl.tp b hb) h2)
    | true => exact iteT (q _ (.d (.bool true)) G1 H1 q1 (Rv.bl true) (by simpa using h1))
  · exact h1.elim
theorem q_notV {ta : TE} {a : AQ} (ha : AbsQ c W ta a) : AbsQ c W (tNotV ta) (qNotV a) := by
  intro s ns hs σ G H rl ex hx Qd Q h q
  refine ha s ns hs σ G H rl ex hx _ _ h fun v x G1 H1 q1 r1 h1 => ?_
  unfold tstV at h1
  split at h1
  · rename_i k
    cases r1
    exact ⟨k, rfl, q _ (.d (.bool (!k))) G1 H1 q1 (Rv.bl _) h1⟩
  · exact h1.elim
def qIf (t : AQT) (a b : AQ) : AQ := fun ex s Q => t ex s fun k => if k = true then a ex s Q else b ex s Q
theorem q_if {tt : TT} {ta tb : TE} {t : AQT} {a b : AQ} (ht : AbsQT c W tt t) (ha : AbsQ c W ta a) (hb : AbsQ c W tb b) : AbsQ c W (tIf tt ta tb) (qIf t a b) := by
  intro s ns hs σ G H rl ex hx Qd Q h q
  refine ht s ns hs σ G H rl ex hx _ _ h fun x G1 H1 q1 h1 => ?_
  cases x with
  | true => exact iteT (ha s ns hs σ G1 H1 (rl.quiet q1) ex (hx.mono q1.gg) _ _ (by simpa using h1) fun v d G2 H2 q2 r2 h2 => q v d G2 H2 (q1.tr q2) (r2.early fun b hb => q1.th rl.tp b hb) h2)
  | false => exact iteF (hb s ns hs σ G1 H1 (rl.quiet q1) ex (hx.mono q1.gg) _ _ (by simpa using h1) fun v d G2 H2 q2 r2 h2 => q v d G2 H2 (q1.tr q2) (r2.early fun b hb => q1.th rl.tp b hb) h2)
/-! ### items -/
/-- xs[i] -/
def ixV (s : Sx) (Q : RV → Prop) : RV → RV → Prop
  | .d x, .d y => fIx x y fun z => Q (.d z)
  | .at r p, .d (.int i) => ∃ cs, subM s.r r p = some (.nd .lst cs) ∧ ∃ j, ixN cs.length i = some j ∧ child r p j Q cs[j]?
  | _, _ => False
theorem ixV_d {s : Sx} {Q : RV → Prop} {x y : D} : ixV s Q (.d x) (.d y) = fIx x y fun z => Q (.d z) := rfl
theorem ixV_at {s : Sx} {Q : RV → Prop} {r : Nat} {p : Pt} {i : Int} : ixV s Q (.at r p) (.d (.int i)) = ∃ cs, subM s.r r p = some (.nd .lst cs) ∧ ∃ j, ixN cs.length i = some j ∧ child r p j Q cs[j]? := rfl
def qIx (a b : AQ) : AQ := fun ex s Q => a ex s fun x => b ex s fun y => ixV s Q x y
theorem q_ix {ta tb : TE} {a b : AQ} (ha : AbsQ c W ta a) (hb : AbsQ c W tb b) : AbsQ c W (tOp (rIx K) ta tb) (qIx a b) := by
  intro s ns hs σ G H rl ex hx Qd Q h q
  refine ha s ns hs σ G H rl ex hx _ _ h fun v x G1 H1 q1 r1 h1 => ?_
  have rl1 := rl.quiet q1
  refine hb s ns hs σ G1 H1 rl1 ex (hx.mono q1.gg) _ _ h1 fun w y G2 H2 q2 r2 h2 => ?_
  have rl2 := rl1.quiet q2
  have r1' := r1.step rl1.tp (tpn rl) q2
  unfold ixV at h2
  split at h2
  · exact ar_ix (c := qCtx rl2) G2 H2 v w _ _ (Ok.zero (qCtx rl2)) r1' r2 _ _ h2 fun u d G3 H3 st ru hq => q u (.d d) G3 H3 ((q1.tr q2).tr (qStep rl2 st)) ru hq
  · rename_i i p z
    obtain ⟨ms, hm, j, hj, h2⟩ := h2
    obtain ⟨n', e1, e2, rfl⟩ := r1'
    obtain ⟨a', da, cs, e3, rfl⟩ := rl2.at hm
    rw [e1] at e3
    cases e3
    cases r2
    obtain ⟨m, rv', g1, g2, g3⟩ := child_ok rl2 e1 h2
    refine .inl ⟨a', cs.map N.val, z, m.val, rfl, rfl, SqL.of (cell_head rl2 e1 (a', _) (by simp [hdO])), ?_, ?_⟩
    · unfold atI
      rw [eraseL_map, List.length_map] at hj
      rw [List.length_map, hj]
      show (cs.map N.val)[j]? = _
      rw [List.getElem?_map, g1]; rfl
    · exact q _ rv' G2 H2 (q1.tr q2) (g2.early fun b hb => (q1.tr q2).th rl.tp b hb) g3
  · exact h2.elim
def ixK {κ : Type} [DecidableEq κ] (ks : List κ) (k : κ) : Option Nat := ks.findIdx? fun x => decide (x = k)
theorem valV_zip {κ : Type} [DecidableEq κ] : ∀ (ks : List κ) (vs : List V) (k : κ) (j : Nat) (v : V), ixK ks k = some j → vs[j]? = some v → valV (ks.zip vs) k = some v
  | [], vs, f, j, v, h, e => by simp [ixK] at h
  | g :: fs, [], f, j, v, h, e => by simp at e
  | g :: fs, w :: vs, f, j, v, h, e => by
    unfold ixK at h
    rw [List.findIdx?_cons] at h
    by_cases q : g = f
    · subst q
      simp at h
      subst h
      simp at e
      subst e
      exact valV_pos rfl
    · simp only [q, decide_false, Bool.false_eq_true, if_false] at h
      cases hk : List.findIdx? (fun x => decide (x = f)) fs with
      | none => rw [hk] at h; simp at h
      | some k =>
        rw [hk] at h
        simp at h
        subst h
        rw [List.zip_cons_cons, valV_neg q]
        exact valV_zip fs vs f k v hk (by simpa using e)
/-- d[k] -/
def keyV (s : Sx) (Q : RV → Prop) : RV → RV → Prop
  | .d x, .d y => fDGet x y fun z => Q (.d z)
  | .at r p, .d y => ∃ ks cs k j, subM s.r r p = some (.nd (.dic ks) cs) ∧ keyOf y = some k ∧ ixK ks k = some j ∧ child r p j Q cs[j]?
  | _, _ => False
theorem keyV_d {s : Sx} {Q : RV → Prop} {x y : D} : keyV s Q (.d x) (.d y) = fDGet x y fun z => Q (.d z) := rfl
theorem keyV_at {s : Sx} {Q : RV → Prop} {r : Nat} {p : Pt} {y : D} : keyV s Q (.at r p) (.d y) = ∃ ks cs k j, subM s.r r p = some (.nd (.dic ks) cs) ∧ keyOf y = some k ∧ ixK ks k = some j ∧ child r p j Q cs[j]? := rfl
def qKey (a b : AQ) : AQ := fun ex s Q => a ex s fun x => b ex s fun y => keyV s Q x y
theorem key_v {G : Hp} {y : V} {dy : D} {k : Key} (r : Rv K G y dy) (h : keyOf dy = some k) : y = kV k := by
  have e := keyOf_some h
  subst e
  exact key_of r
theorem q_key {ta tb : TE} {a b : AQ} (ha : AbsQ c W ta a) (hb : AbsQ c W tb b) : AbsQ c W (tDGet ta tb) (qKey a b) := by
  intro s ns hs σ G H rl ex hx Qd Q h q
  refine ha s ns hs σ G H rl ex hx _ _ h fun v x G1 H1 q1 r1 h1 => ?_
  have rl1 := rl.quiet q1
  refine hb s ns hs σ G1 H1 rl1 ex (hx.mono q1.gg) _ _ h1 fun w y G2 H2 q2 r2 h2 => ?_
  have rl2 := rl1.quiet q2
  have r1' := r1.step rl1.tp (tpn rl) q2
  unfold keyV at h2
  split at h2
  · obtain ⟨kds, key, e0, hk, d, hd, h3⟩ := h2
    subst e0
    have eq := key_v r2 hk
    subst eq
    obtain ⟨p, kvs, rfl, e1, e2⟩ := dic_of r1'
    rcases e2.get kvs key with ⟨_, z⟩ | ⟨u, d', g1, g2, g3⟩
    · rw [hd] at z; cases z
    · rw [hd] at g2; cases g2
      exact ⟨p, u, rfl, by rw [← g1]; exact DGet.k (rl2.ex _ _ e1), q _ (.d d) G2 H2 (q1.tr q2) g3 h3⟩
  · rename_i i p dy
    obtain ⟨ks, ms, key, j, hm, hk, hj, h2⟩ := h2
    obtain ⟨n', e1, e2, rfl⟩ := r1'
    obtain ⟨a', da, cs, e3, rfl⟩ := rl2.at hm
    rw [e1] at e3
    cases e3
    have eq := key_v r2 hk
    subst eq
    obtain ⟨m, rv', g1, g2, g3⟩ := child_ok rl2 e1 h2
    refine ⟨a', m.val, rfl, ?_, q _ rv' G2 H2 (q1.tr q2) (g2.early fun b hb => (q1.tr q2).th rl.tp b hb) g3⟩
    rw [← valV_zip ks (cs.map N.val) key j m.val hj (by rw [List.getElem?_map, g1]; rfl)]
    exact DGet.k (cell_head rl2 e1 (a', _) (by simp [hdO]))
  · exact h2.elim
/-- k in d, k not in d -/
def keyInV (neg : Bool) (s : Sx) (Q : RV → Prop) : RV → RV → Prop
  | .at r p, .d y => ∃ ks cs k, subM s.r r p = some (.nd (.dic ks) cs) ∧ ks.length = cs.length ∧ keyOf y = some k ∧ Q (.d (.bool (neg ^^ (ixK ks k).isSome)))
  | _, _ => False
theorem keyInV_at {neg : Bool} {s : Sx} {Q : RV → Prop} {r : Nat} {p : Pt} {y : D} : keyInV neg s Q (.at r p) (.d y) = ∃ ks cs k, subM s.r r p = some (.nd (.dic ks) cs) ∧ ks.length = cs.length ∧ keyOf y = some k ∧ Q (.d (.bool (neg ^^ (ixK ks k).isSome))) := rfl
def qKeyIn (neg : Bool) (b a : AQ) : AQ := fun ex s Q => b ex s fun y => a ex s fun x => keyInV neg s Q x y
theorem isSome_zip {κ : Type} [DecidableEq κ] : ∀ (ks : List κ) (vs : List V) (k : κ), ks.length = vs.length → (valV (ks.zip vs) k).isSome = (ixK ks k).isSome
  | [], vs, f, h => by simp [valV, ixK]
  | g :: fs, [], f, h => by simp at h
  | g :: fs, w :: vs, f, h => by
    unfold ixK
    rw [List.findIdx?_cons]
    by_cases q : g = f
    · subst q; rw [List.zip_cons_cons, valV_pos rfl]; simp
    · rw [List.zip_cons_cons, valV_neg q, isSome_zip fs vs f (by simpa using h)]
      simp [q, ixK]
theorem q_keyIn' {neg : Bool} {ta tb : TE} {a b : AQ} (hb : AbsQ c W tb b) (ha : AbsQ c W ta a) : AbsQ c W (fun σ H Q => tb σ H fun y H1 => ta σ H1 fun x H2 => ∃ a o, x = .ref a ∧ DGet H2 a y o ∧ Q (.bl (neg ^^ o.isSome)) H2) (qKeyIn neg b a) := by
  intro s ns hs σ G H rl ex hx Qd Q h q
  refine hb s ns hs σ G H rl ex hx _ _ h fun w y G1 H1 q1 r1 h1 => ?_
  have rl1 := rl.quiet q1
  refine ha s ns hs σ G1 H1 rl1 ex (hx.mono q1.gg) _ _ h1 fun v x G2 H2 q2 r2 h2 => ?_
  have rl2 := rl1.quiet q2
  have r1' := r1.step rl1.tp (tpn rl) q2
  unfold keyInV at h2
  split at h2
  · rename_i i p dy
    obtain ⟨ks, ms, key, hm, hl, hk, h2⟩ := h2
    obtain ⟨n', e1, e2, rfl⟩ := r2
    obtain ⟨a', da, cs, e3, rfl⟩ := rl2.at hm
    rw [e1] at e3
    cases e3
    have eq := key_v r1' hk
    subst eq
    refine ⟨a', _, rfl, DGet.k (kvs := ks.zip (cs.map N.val)) (cell_head rl2 e1 (a', _) (by simp [hdO])), ?_⟩
    rw [isSome_zip _ _ _ (by rw [eraseL_map, List.length_map] at hl; rw [List.length_map]; exact hl)]
    exact q _ (.d _) G2 H2 (q1.tr q2) (Rv.bl _) h2
  · exact h2.elim
theorem q_keyIn {ta tb : TE} {a b : AQ} (hb : AbsQ c W tb b) (ha : AbsQ c W ta a) : AbsQ c W (tDIn tb ta) (qKeyIn false b a) := by
  have := q_keyIn' (neg := false) hb ha
  simp only [Bool.false_xor] at this
  exact this
theorem q_keyNotIn {ta tb : TE} {a b : AQ} (hb : AbsQ c W tb b) (ha : AbsQ c W ta a) : AbsQ c W (tDNotIn tb ta) (qKeyIn true b a) := by
  have := q_keyIn' (neg := true) hb ha
  simp only [Bool.true_xor] at this
  exact this
/-! ### arguments -/
def qNil : AQA := fun _ _ Q => Q []
def qCons (a : AQ) (r : AQA) : AQA := fun ex s Q => a ex s fun x => r ex s fun xs => Q (x :: xs)
theorem qa_nil : AbsQA c W tNil qNil := fun s ns hs σ G H rl ex hx Qd Q h q => q _ _ G H (.refl rl) .nil h
theorem qa_cons {ta : TE} {tr : TA} {a : AQ} {ar : AQA} (ha : AbsQ c W ta a) (hr : AbsQA c W tr ar) : AbsQA c W (tCons ta tr) (qCons a ar) := by
  intro s ns hs σ G H rl ex hx Qd Q h q
  refine ha s ns hs σ G H rl ex hx _ _ h fun v x G1 H1 q1 r1 h1 => ?_
  refine hr s ns hs σ G1 H1 (rl.quiet q1) ex (hx.mono q1.gg) _ _ h1 fun vs ds G2 H2 q2 r2 h2 => ?_
  exact q _ _ G2 H2 (q1.tr q2) (.cons (r1.step (rl.quiet q1).tp (tpn rl) q2) (r2.early fun b hb => q1.th rl.tp b hb)) h2
/-- all as data -/
def asD : List RV → Option (List D)
  | [] => some []
  | .d x :: r => (match asD r with | some xs => some (x :: xs) | none => none)
  | _ :: _ => none
theorem asD_rv {vs : List V} {rvs : List RV} {xs : List D} (h : RvXs c ns Hs G H vs rvs) (e : asD rvs = some xs) : RvA K G vs xs := by
  induction h generalizing xs with
  | nil => cases e; exact .nil
  | @cons v vs rv rvs a _ ih =>
    cases rv with
    | d x =>
      simp only [asD] at e
      split at e
      · rename_i ys hy
        cases e
        exact .cons a (ih hy)
      · cases e
    | _ => cases e
def vwL (s : Sx) : List RV → Option (List D)
  | [] => some []
  | x :: r => (match vw s x with | some y => (match vwL s r with | some ys => some (y :: ys) | none => none) | none => none)
theorem vwL_rv (rl : Rl c s ns hs σ G H) {vs : List V} {rvs : List RV} {xs : List D} (h : RvXs c ns Hs G H vs rvs) (e : vwL s rvs = some xs) : RvA K H vs xs := by
  induction h generalizing xs with
  | nil => cases e; exact .nil
  | @cons v vs rv rvs a _ ih =>
    simp only [vwL] at e
    split at e
    · rename_i y hy
      split at e
      · rename_i ys hys
        cases e
        exact .cons (vw_rv rl a hy) (ih hys)
      · cases e
    · cases e
def qTup (r : AQA) : AQ := fun ex s Q => r ex s fun xs => ∃ ds, asD xs = some ds ∧ ds.length ≤ sizeLine ∧ Q (.d (.tuple ds))
theorem q_tup {tr : TA} {ar : AQA} (hr : AbsQA c W tr ar) : AbsQ c W (tTup tr) (qTup ar) := by
  intro s ns hs σ G H rl ex hx Qd Q h q
  refine hr s ns hs σ G H rl ex hx _ _ h fun vs ds G1 H1 q1 r1 h1 => ?_
  obtain ⟨xs, e, hl, h1⟩ := h1
  have A := asD_rv r1 e
  have rl1 := rl.quiet q1
  refine ⟨by rw [A.length]; exact hl, fun p hp => ?_⟩
  have st := Step.new (o := .tup vs) (Ok.zero (qCtx rl1)) hp
  exact q _ (.d (.tuple xs)) _ _ (q1.tr (qStep rl1 st)) (.tup (SqT.of upd_same) (A.mono st.gg)) h1
def qLst (r : AQA) : AQ := fun ex s Q => r ex s fun xs => ∃ ds, asD xs = some ds ∧ ds.length ≤ sizeLine ∧ Q (.d (.list ds))
theorem q_lst {tr : TA} {ar : AQA} (hr : AbsQA c W tr ar) : AbsQ c W (tLst tr) (qLst ar) := by
  intro s ns hs σ G H rl ex hx Qd Q h q
  refine hr s ns hs σ G H rl ex hx _ _ h fun vs ds G1 H1 q1 r1 h1 => ?_
  obtain ⟨xs, e, hl, h1⟩ := h1
  have A := asD_rv r1 e
  have rl1 := rl.quiet q1
  refine ⟨by rw [A.length]; exact hl, fun p hp => ?_⟩
  have st := Step.new (o := .lst vs) (Ok.zero (qCtx rl1)) hp
  exact q _ (.d (.list xs)) _ _ (q1.tr (qStep rl1 st)) (.lst upd_same (A.mono st.gg)) h1
/-- a call on values: of data, or of things read as they are, then with a flat answer -/
def qCB (f : AC) (r : AQA) : AQ := fun ex s Q => r ex s fun xs => (∃ ds, asD xs = some ds ∧ f ds fun z => Q (.d z)) ∨ (∃ ds, vwL s xs = some ds ∧ f ds fun z => flat z = true ∧ Q (.d z))
theorem q_cb {r : List V → Hp → VK → Prop} {f : AC} {tr : TA} {ar : AQA} (ho : ∀ c : Ctx K, AbsC c r f) (hr : AbsQA c W tr ar) : AbsQ c W (tCB r tr) (qCB f ar) := by
  intro s ns hs σ G H rl ex hx Qd Q h q
  refine hr s ns hs σ G H rl ex hx _ _ h fun vs ds G1 H1 q1 r1 h1 => ?_
  have rl1 := rl.quiet q1
  rcases h1 with ⟨xs, e, h1⟩ | ⟨xs, e, h1⟩
  · exact ho (qCtx rl1) G1 H1 vs xs (Ok.zero _) (asD_rv r1 e) _ _ h1 fun u d G3 H3 st ru hq => q u (.d d) G3 H3 (q1.tr (qStep rl1 st)) ru hq
  · exact ho (Ctx.pure K (Ex.refl H1)) H1 H1 vs xs (Ok.zero _) (vwL_rv rl1 r1 e) _ _ h1 fun u d G3 H3 st ru hq => q u (.d d) G1 H3 (q1.tr (backQ rl1 st)) (flat_rv ru hq.1) hq.2
def unV (f : A1) (Q : RV → Prop) : RV → Prop
  | .d x => f x fun z => Q (.d z)
  | _ => False
theorem unV_d {f : A1} {Q : RV → Prop} {x : D} : unV f Q (.d x) = f x fun z => Q (.d z) := rfl
def qUn (f : A1) (a : AQ) : AQ := fun ex s Q => a ex s (unV f Q)
theorem q_un {r : V → Hp → VK → Prop} {f : A1} {ta : TE} {a : AQ} (ho : ∀ c : Ctx K, AbsR1 c r f) (ha : AbsQ c W ta a) : AbsQ c W (tUn r ta) (qUn f a) := by
  intro s ns hs σ G H rl ex hx Qd Q h q
  refine ha s ns hs σ G H rl ex hx _ _ h fun v x G1 H1 q1 r1 h1 => ?_
  have rl1 := rl.quiet q1
  cases x with
  | d x => exact ho (qCtx rl1) G1 H1 v x (Ok.zero _) r1 _ _ h1 fun u d G3 H3 st ru hq => q u (.d d) G3 H3 (q1.tr (qStep rl1 st)) ru hq
  | _ => exact h1.elim
end
end Fe

namespace Fe
open PySem L2 Fc
open scoped List
theorem put_keep : ∀ (p : Pt) (n m m' : N) (q : Pt) (a da : Addr) (k : Kd) (cs : List N), n.sub p = some m → n.sub q = some (.nd a da k cs) → (∀ q', q = p ++ q' → ∃ k2 cs2, m'.sub q' = some (.nd a da k2 cs2)) → ∃ k2 cs2, (n.put p m').sub q = some (.nd a da k2 cs2)
  | [], n, m, m', q, a, da, k, cs, h, hq, hk => by
    have e : n.put [] m' = m' := by cases n <;> rfl
    rw [e]
    exact hk q rfl
  | i :: p, .d _ _, m, m', q, a, da, k, cs, h, hq, hk => by simp [N.sub] at h
  | i :: p, .gone _, m, m', q, a, da, k, cs, h, hq, hk => by simp [N.sub] at h
  | i :: p, .nd b db k0 cs0, m, m', q, a, da, k, cs, h, hq, hk => by
    simp only [N.sub] at h
    cases hc : cs0[i]? with
    | none => rw [hc] at h; cases h
    | some c0 =>
      rw [hc] at h
      simp only [N.put, hc]
      cases q with
      | nil =>
        simp only [N.sub, Option.some.injEq, N.nd.injEq] at hq
        obtain ⟨rfl, rfl, rfl, rfl⟩ := hq
        exact ⟨_, _, rfl⟩
      | cons j q =>
        by_cases e : j = i
        · subst e
          simp only [N.sub, hc] at hq
          have hl := (List.getElem?_eq_some_iff.mp hc).1
          obtain ⟨k2, cs2, g⟩ := put_keep p c0 m m' q a da k cs h hq fun q' e => hk q' (by rw [e]; rfl)
          refine ⟨k2, cs2, ?_⟩
          simp only [N.sub, List.getElem?_set, if_pos hl]
          simpa using g
        · refine ⟨k, cs, ?_⟩
          simp only [N.sub, List.getElem?_set, if_neg (fun z : i = j => e z.symm)] at hq ⊢
          exact hq
theorem put_other {ns : List N} {i r : Nat} {p : Pt} {x : N} (h : r ≠ i) : (putL ns i p x)[r]? = ns[r]? := by
  unfold putL
  cases hr : ns[i]? with
  | none => rfl
  | some n => simp [List.getElem?_set, Ne.symm h]
theorem put_same {ns : List N} {i : Nat} {p : Pt} {x n : N} (h : ns[i]? = some n) : (putL ns i p x)[i]? = some (n.put p x) := by
  unfold putL
  have hl := (List.getElem?_eq_some_iff.mp h).1
  simp only [h]
  rw [List.getElem?_set, if_pos rfl, if_pos hl]
theorem putL_len {ns : List N} {i : Nat} {p : Pt} {x : N} : (putL ns i p x).length = ns.length := by
  unfold putL
  cases ns[i]? <;> simp
theorem isNd_ex {n : N} (h : n.isNd) : ∃ a da k cs, n = .nd a da k cs := by
  cases n with
  | nd a da k cs => exact ⟨a, da, k, cs, rfl⟩
  | _ => exact h.elim
theorem put_isNd : ∀ (p : Pt) (n m x : N), n.sub p = some m → x.isNd → (n.put p x).isNd
  | [], n, m, x, h, e => by cases n <;> exact e
  | i :: p, .d _ _, m, x, h, e => by simp [N.sub] at h
  | i :: p, .gone _, m, x, h, e => by simp [N.sub] at h
  | i :: p, .nd a da k cs, m, x, h, e => by
    simp only [N.put]
    cases cs[i]? <;> trivial
theorem keepL {ns : List N} {i r : Nat} {p q : Pt} {m m' n : N} (h : subL ns i p = some m) (hq : subL ns r q = some n) (hn : n.isNd) (hk : r = i → ∀ q' b db k1 cs1, q = p ++ q' → m.sub q' = some (.nd b db k1 cs1) → ∃ k2 cs2, m'.sub q' = some (.nd b db k2 cs2)) :
    ∃ n', subL (putL ns i p m') r q = some n' ∧ n'.isNd ∧ n'.val = n.val := by
  obtain ⟨a, da, k, cs, rfl⟩ := isNd_ex hn
  by_cases e : r = i
  · subst e
    unfold subL at h hq ⊢
    cases hr : ns[r]? with
    | none => rw [hr] at h; cases h
    | some n0 =>
      rw [hr] at h hq
      simp only at h hq
      rw [put_same hr]
      obtain ⟨k2, cs2, g⟩ := put_keep p n0 m m' q a da k cs h hq fun q' e => by
        subst e
        have : m.sub q' = some (.nd a da k cs) := by
          clear hk
          have aux : ∀ (p : Pt) (n0 : N), n0.sub p = some m → n0.sub (p ++ q') = some (.nd a da k cs) → m.sub q' = some (.nd a da k cs) := by
            intro p
            induction p with
            | nil =>
              intro n0 h1 h2
              have : n0 = m := by cases n0 <;> simpa [N.sub] using h1
              subst this; exact h2
            | cons j p ih =>
              intro n0 h1 h2
              cases n0 with
              | nd b db k0 cs0 =>
                simp only [N.sub, List.cons_append] at h1 h2
                cases hc : cs0[j]? with
                | none => rw [hc] at h1; cases h1
                | some c0 => rw [hc] at h1 h2; exact ih c0 h1 h2
              | _ => simp [N.sub] at h1
          exact aux p n0 h hq
        exact hk rfl q' a da k cs rfl this
      exact ⟨_, g, trivial, rfl⟩
  · refine ⟨_, ?_, hn, rfl⟩
    unfold subL at hq ⊢
    rw [put_other e]; exact hq
section
variable {K : PySem.W.Frag} {cm : Nat → Addr} {c : Cz K cm} {W : WX} {s s' : Sx} {ns : List N} {hs : List V} {σ : St} {G H G' H' Hs G2 H2 : Hp}
theorem hd_addr {a da : Addr} {vs : List V} {k : Kd} {x : Addr × HO} (h : x ∈ hdO cm a da vs k) : x.1 = a ∨ x.1 = da := by
  cases k <;> simp only [hdO, List.mem_cons, List.not_mem_nil, or_false] at h
  case obj => rcases h with rfl | rfl <;> simp
  all_goals (subst h; simp)
/-- a node gets other parts -/
theorem Rl.node (rl : Rl c s ns hs σ G H) {i : Nat} {p : Pt} {a da : Addr} {k k' : Kd} {cs cs' nw : List N} (KP : Pt → Prop)
    (h : subL ns i p = some (.nd a da k cs)) (hlo : c.lo ≤ i)
    (hd : (hdO cm a da (cs'.map N.val) k').map (·.1) = (hdO cm a da (cs.map N.val) k).map (·.1))
    (hc : ∃ R', cellsL cm cs ++ cellsL cm nw ~ cellsL cm cs' ++ R')
    (hw : ∀ x ∈ cellsL cm nw, H x.1 = some x.2 ∧ G x.1 = none ∧ c.H0 x.1 = none ∧ x.1 ∉ (cellsL cm ns).map (·.1)) (hwn : ((cellsL cm nw).map (·.1)).Nodup)
    (hl : ∀ l ∈ leavesL cs', Rv K G l.1 l.2)
    (hH : ∀ b, b ∉ (hdO cm a da (cs.map N.val) k).map (·.1) → H' b = H b) (hH' : ∀ x ∈ hdO cm a da (cs'.map N.val) k', H' x.1 = some x.2)
    (hkp : ∀ q' b db k1 cs1, (N.nd a da k cs).sub q' = some (.nd b db k1 cs1) → KP q' → ∃ k2 cs2, (N.nd a da k' cs').sub q' = some (.nd b db k2 cs2))
    (hst : c.st = true → i < c.ns0.length → ∀ q', KP q')
    (er : s'.r = putM s.r i p (.nd k' (eraseL cs')))
    (elen : s'.e.length = s.e.length) (hel : s'.h.length = s.h.length)
    (he : ∀ (j : Nat) (x : Cl), s'.e[j]? = some x → x = .un ∨ (s.e[j]? = some x ∧ ∀ q', x = .at i (p ++ q') → KP q'))
    (hh : ∀ (j : Nat) (x : Cl), s'.h[j]? = some x → x = .un ∨ (s.h[j]? = some x ∧ ∀ q', x = .at i (p ++ q') → KP q'))
    (hkt : k ≠ .tup := by intro z; cases z) :
    Rl c s' (putL ns i p (.nd a da k' cs')) hs σ G H' := by
  obtain ⟨R, f1, f2⟩ := focusL cm h
  have f3 := f2 (.nd a da k' cs') rfl
  obtain ⟨R', g1⟩ := hc
  -- all cells, old and new
  have all : cellsL cm ns ++ cellsL cm nw ~ (hdO cm a da (cs.map N.val) k) ++ (cellsL cm cs' ++ R' ++ R) := by
    refine (List.Perm.append_right _ f1).trans ?_
    show (hdO cm a da (cs.map N.val) k ++ cellsL cm cs) ++ R ++ cellsL cm nw ~ _
    rw [List.append_assoc, List.append_assoc]
    refine List.Perm.append_left _ ?_
    refine (List.Perm.append_left _ List.perm_append_comm).trans ?_
    rw [← List.append_assoc]
    exact List.Perm.append_right _ g1
  have nodA : ((cellsL cm ns ++ cellsL cm nw).map (·.1)).Nodup := by
    rw [List.map_append, List.nodup_append]
    refine ⟨rl.nd, hwn, fun x hx y hy => ?_⟩
    rintro rfl
    obtain ⟨z, hz, rfl⟩ := List.mem_map.mp hy
    exact (hw z hz).2.2.2 hx
  have nodB := (all.map (·.1)).nodup_iff.mp nodA
  rw [List.map_append, List.nodup_append] at nodB
  obtain ⟨nb1, nb2, nb3⟩ := nodB
  have memOld : ∀ x ∈ cellsL cm cs' ++ R' ++ R, x ∈ cellsL cm ns ∨ x ∈ cellsL cm nw := fun x hx => by
    have := all.mem_iff.mpr (List.mem_append.mpr (.inr hx))
    exact List.mem_append.mp this
  have okOld : ∀ x ∈ cellsL cm cs' ++ R' ++ R, H x.1 = some x.2 ∧ G x.1 = none ∧ (∀ t l xs, c.tp = some (t, l, xs) → x.1 ≠ t ∧ x.1 ≠ l) ∧ H' x.1 = some x.2 := fun x hx => by
    have hn : H' x.1 = H x.1 := hH x.1 fun hm => nb3 x.1 hm x.1 (List.mem_map.mpr ⟨x, hx, rfl⟩) rfl
    rcases memOld x hx with h1 | h1
    · exact ⟨rl.ok x h1, rl.gn x h1, rl.nt x h1, by rw [hn]; exact rl.ok x h1⟩
    · obtain ⟨e1, e2, e3, _⟩ := hw x h1
      refine ⟨e1, e2, fun t l xs e => ⟨fun z => ?_, fun z => ?_⟩, by rw [hn]; exact e1⟩
      · exact tape_ne (c.tp0 t l xs e).1 (by rw [← z]; exact e3)
      · exact tape_neL (c.tp0 t l xs e).1 (by rw [← z]; exact e3)
  have hdOld : ∀ x ∈ hdO cm a da (cs.map N.val) k, x ∈ cellsL cm ns := fun x hx => f1.mem_iff.mpr (List.mem_append.mpr (.inl (by simp only [N.cells, List.mem_append]; exact .inl hx)))
  have hdNew : ∀ x ∈ hdO cm a da (cs'.map N.val) k', ∃ y ∈ cellsL cm ns, y.1 = x.1 := fun x hx => by
    have : x.1 ∈ (hdO cm a da (cs.map N.val) k).map (·.1) := by rw [← hd]; exact List.mem_map.mpr ⟨x, hx, rfl⟩
    obtain ⟨y, hy, e⟩ := List.mem_map.mp this
    exact ⟨y, hdOld y hy, e⟩
  have split : ∀ x ∈ cellsL cm (putL ns i p (.nd a da k' cs')), x ∈ hdO cm a da (cs'.map N.val) k' ∨ x ∈ cellsL cm cs' ++ R' ++ R := fun x hx => by
    have h1 := List.mem_append.mp (f3.mem_iff.mp hx)
    rcases h1 with h1 | h1
    · simp only [N.cells, List.mem_append] at h1
      rcases h1 with h1 | h1
      · exact .inl h1
      · exact .inr (List.mem_append.mpr (.inl (List.mem_append.mpr (.inl h1))))
    · exact .inr (List.mem_append.mpr (.inr h1))
  have isn : ∀ b o, H b = some o → isN o = false → H' b = some o := fun b o hb ho => by
    rw [hH b fun hm => ?_]; exact hb
    obtain ⟨x, hx, rfl⟩ := List.mem_map.mp hm
    rw [rl.ok x (hdOld x hx)] at hb
    cases hb
    rw [hdO_isN hx] at ho
    cases ho
  have tups : ∀ b vs, H b = some (.tup vs) → H' b = some (.tup vs) := fun b vs hb => by
    rw [hH b fun hm => ?_]; exact hb
    obtain ⟨x, hx, rfl⟩ := List.mem_map.mp hm
    rw [rl.ok x (hdOld x hx)] at hb
    have hb := Option.some.inj hb
    cases k <;> simp only [hdO, List.mem_cons, List.not_mem_nil, or_false] at hx
    case tup => exact hkt rfl
    case obj =>
      rcases hx with rfl | rfl
      all_goals cases hb
    all_goals (subst hx; cases hb)
  have nT : ∀ t l xs, c.tp = some (t, l, xs) → H' t = H t ∧ H' l = H l := fun t l xs e => by
    refine ⟨hH t fun hm => ?_, hH l fun hm => ?_⟩
    all_goals
      obtain ⟨x, hx, e2⟩ := List.mem_map.mp hm
      have := rl.nt x (hdOld x hx) t l xs e
      simp [e2] at this
  have ali : ∀ r' q (n : N), subL ns r' q = some n → n.isNd → (∀ q', r' = i → q = p ++ q' → KP q') → ∃ n', subL (putL ns i p (.nd a da k' cs')) r' q = some n' ∧ n'.isNd ∧ n'.val = n.val := fun r' q n hn hN hq =>
    keepL h hn hN fun e q' b db k1 cs1 eq hs => hkp q' b db k1 cs1 hs (hq q' e eq)
  refine ⟨?_, fun x hx => ?_, fun l hx => ?_, ?_, fun x hx => ?_, fun x hx => ?_, fun b o hb => ?_, rl.gg, rl.fr, fun b o m hb => ?_, fun t l xs e => ?_, fun r' n hn x hx => ?_, fun r' h1 h2 => ?_, fun r' n hn => ?_, fun b hb => ?_, fun b xs hb => tups b xs (rl.tt b xs hb), ?_, fun j x e => ?_, ?_, fun j x e => ?_⟩
  · rw [er, ← rl.er, putM_erase]; rfl
  · rcases split x hx with h1 | h1
    · exact hH' x h1
    · exact (okOld x h1).2.2.2
  · rcases leaves_putL hx with h1 | h1
    · exact hl l (by simpa [N.leaves] using h1)
    · exact rl.lv l h1
  · rw [(f3.map (·.1)).nodup_iff]
    show ((hdO cm a da (cs'.map N.val) k' ++ cellsL cm cs' ++ R).map (·.1)).Nodup
    rw [List.append_assoc, List.map_append, hd, List.nodup_append]
    have sub : ∀ y ∈ (cellsL cm cs' ++ R).map (·.1), y ∈ (cellsL cm cs' ++ R' ++ R).map (·.1) := fun y hy => by
      obtain ⟨z, hz, rfl⟩ := List.mem_map.mp hy
      refine List.mem_map.mpr ⟨z, ?_, rfl⟩
      rcases List.mem_append.mp hz with h1 | h1
      · exact List.mem_append.mpr (.inl (List.mem_append.mpr (.inl h1)))
      · exact List.mem_append.mpr (.inr h1)
    refine ⟨nb1, ?_, fun x hx y hy => nb3 x hx y (sub y hy)⟩
    have sl : List.Sublist ((cellsL cm cs' ++ R).map (·.1)) ((cellsL cm cs' ++ R' ++ R).map (·.1)) := by
      refine List.Sublist.map _ ?_
      rw [List.append_assoc]
      exact List.Sublist.append (List.Sublist.refl _) (List.sublist_append_right _ _)
    exact sl.nodup nb2
  · rcases split x hx with h1 | h1
    · obtain ⟨y, hy, e⟩ := hdNew x h1
      rw [← e]; exact rl.gn y hy
    · exact (okOld x h1).2.1
  · rcases split x hx with h1 | h1
    · obtain ⟨y, hy, e⟩ := hdNew x h1
      rw [← e]; exact rl.nt y hy
    · exact (okOld x h1).2.2.1
  · rw [hH b fun hm => ?_]; exact rl.ex b o hb
    obtain ⟨x, hx, rfl⟩ := List.mem_map.mp hm
    rw [rl.gn x (hdOld x hx)] at hb; cases hb
  · rw [hH b fun hm => ?_]; exact rl.hh b o m hb
    obtain ⟨x, hx, rfl⟩ := List.mem_map.mp hm
    refine m (.inr ?_)
    cases hr : ns[i]? with
    | none => unfold subL at h; rw [hr] at h; cases h
    | some n =>
      have hxn : x ∈ n.cells cm := by
        have h' := h
        unfold subL at h'
        rw [hr] at h'
        obtain ⟨R2, z1, _⟩ := focus cm p n _ h'
        exact z1.mem_iff.mpr (List.mem_append.mpr (.inl (by simp only [N.cells, List.mem_append]; exact .inl hx)))
      rcases rl.nw i n hr x hxn with z | ⟨n2, z1, z2⟩
      · rw [z] at hb; cases hb
      · exact ⟨i, n2, hlo, z1, z2⟩
  · obtain ⟨ne, hl', i', j', h0, h1, ht⟩ := rl.tp t l xs e
    exact ⟨ne, by rw [(nT t l xs e).2]; exact hl', i', j', h0, h1, by rw [(nT t l xs e).1]; exact ht⟩
  · by_cases e : r' = i
    · subst e
      cases hr : ns[r']? with
      | none => unfold subL at h; rw [hr] at h; cases h
      | some n0 =>
        rw [put_same hr] at hn
        cases hn
        have h' := h
        unfold subL at h'
        rw [hr] at h'
        obtain ⟨R2, z1, z2⟩ := focus cm p n0 _ h'
        have z3 := z2 (.nd a da k' cs') rfl
        rcases List.mem_append.mp (z3.mem_iff.mp hx) with h1 | h1
        · simp only [N.cells, List.mem_append] at h1
          rcases h1 with h1 | h1
          · have : x.1 ∈ (hdO cm a da (cs.map N.val) k).map (·.1) := by rw [← hd]; exact List.mem_map.mpr ⟨x, h1, rfl⟩
            obtain ⟨y, hy, e⟩ := List.mem_map.mp this
            rw [← e]
            exact rl.nw r' n0 hr y (z1.mem_iff.mpr (List.mem_append.mpr (.inl (by simp only [N.cells, List.mem_append]; exact .inl hy))))
          · have : x ∈ cellsL cm cs ++ cellsL cm nw := g1.mem_iff.mpr (List.mem_append.mpr (.inl h1))
            rcases List.mem_append.mp this with h2 | h2
            · exact rl.nw r' n0 hr x (z1.mem_iff.mpr (List.mem_append.mpr (.inl (by simp only [N.cells, List.mem_append]; exact .inr h2))))
            · exact .inl (hw x h2).2.2.1
        · exact rl.nw r' n0 hr x (z1.mem_iff.mpr (List.mem_append.mpr (.inr h1)))
    · rw [put_other e] at hn
      exact rl.nw r' n hn x hx
  · have ne : r' ≠ i := by omega
    rw [put_other ne]; exact rl.fx r' h1 h2
  · obtain ⟨n', e1, e2, e2', e3⟩ := rl.sb r' n hn
    by_cases e : r' = i
    · subst e
      have h' := h
      unfold subL at h'
      rw [e1] at h'
      refine ⟨_, put_same e1, (put_val p n' (.nd a da k cs) (.nd a da k' cs') h' rfl).trans e2, fun _ => put_isNd p n' _ _ h' trivial, fun st => (e3 st).trans fun q b db k1 cs1 hq => ?_⟩
      refine put_keep p n' _ _ q b db k1 cs1 h' hq fun q' eq => ?_
      subst eq
      have : (N.nd a da k cs).sub q' = some (.nd b db k1 cs1) := by
        have aux : ∀ (p : Pt) (n0 m : N), n0.sub p = some m → n0.sub (p ++ q') = some (.nd b db k1 cs1) → m.sub q' = some (.nd b db k1 cs1) := by
          intro p
          induction p with
          | nil =>
            intro n0 m h1 h2
            have : n0 = m := by cases n0 <;> simpa [N.sub] using h1
            subst this; exact h2
          | cons j p ih =>
            intro n0 m h1 h2
            cases n0 with
            | nd b db k0 cs0 =>
              simp only [N.sub, List.cons_append] at h1 h2
              cases hc : cs0[j]? with
              | none => rw [hc] at h1; cases h1
              | some c0 => rw [hc] at h1 h2; exact ih c0 m h1 h2
            | _ => simp [N.sub] at h1
        exact aux p n' _ h' hq
      exact hkp q' b db k1 cs1 this (hst st (List.getElem?_eq_some_iff.mp hn).1 q')
    · rw [put_other e]; exact ⟨n', e1, e2, e2', e3⟩
  · by_cases hm : b ∈ (hdO cm a da (cs.map N.val) k).map (·.1)
    · rw [← hd] at hm
      obtain ⟨x, hx, rfl⟩ := List.mem_map.mp hm
      rw [hH' x hx]; exact fun z => nomatch z
    · rw [hH b hm]; exact rl.th b hb
  · rw [elen]; exact rl.len
  · rcases he j x e with rfl | ⟨e1, e2⟩
    · have hj : j < σ.length := by rw [rl.len, ← elen]; exact (List.getElem?_eq_some_iff.mp e).1
      exact ⟨σ[j], List.getElem?_eq_getElem hj, trivial⟩
    · obtain ⟨o, h1, h2⟩ := rl.cell j x e1
      refine ⟨o, h1, ?_⟩
      cases x with
      | un => trivial
      | d x => exact h2
      | «at» r' q =>
        obtain ⟨n, h3, h4, rfl⟩ := h2
        obtain ⟨n', h5, h6, h7⟩ := ali r' q n h3 h4 fun q' e eq => e2 q' (by rw [e, eq])
        exact ⟨n', h5, h6, by rw [h7]⟩
      | tape => exact h2
      | exc e =>
        obtain ⟨a', h3, h4⟩ := h2
        exact ⟨a', h3, exAt_step (Ex.refl _) (fun b fs hb => isn _ _ hb rfl) (fun b fs hb => isn _ _ hb rfl) tups h4⟩
  · rw [hel]; exact rl.hlen
  · rcases hh j x e with rfl | ⟨e1, e2⟩
    · have hj : j < hs.length := by rw [rl.hlen, ← hel]; exact (List.getElem?_eq_some_iff.mp e).1
      exact ⟨hs[j], List.getElem?_eq_getElem hj, trivial⟩
    · obtain ⟨v, h1, h2⟩ := rl.hid j x e1
      refine ⟨v, h1, ?_⟩
      cases x with
      | un => trivial
      | d x => exact h2
      | «at» r' q =>
        obtain ⟨n, h3, h4, e9⟩ := h2
        obtain ⟨n', h5, h6, h7⟩ := ali r' q n h3 h4 fun q' e eq => e2 q' (by rw [e, eq])
        exact ⟨n', h5, h6, by rw [h7]; exact e9⟩
      | tape => exact h2
      | exc e =>
        obtain ⟨a', h3, h4⟩ := h2
        exact ⟨a', h3, exAt_step (Ex.refl _) (fun b fs hb => isn _ _ hb rfl) (fun b fs hb => isn _ _ hb rfl) tups h4⟩
end
end Fe

namespace Fe
open PySem L2 Fc
open scoped List
/-! ### expressions that may change things; statements -/
abbrev AX := XEx → Sx → (RV → Sx → Prop) → Prop
abbrev AXT := XEx → Sx → (Bool → Sx → Prop) → Prop
structure DX where
  nx : Sx → Prop
  rt : RV → Sx → Prop
  bk : Sx → Prop := fun _ => False
  ct : Sx → Prop := fun _ => False
  ex : XEx := fun _ _ => False
abbrev AZ := DX → Sx → Prop
section
variable {K : PySem.W.Frag} {cm : Nat → Addr}
/-- a heap late enough -/
structure Lt (c : Cz K cm) (ns : List N) (Hs : Hp) : Prop where
  z : ∀ b, Hs b = none → c.H0 b = none
  n : ∀ x ∈ cellsL cm ns, Hs x.1 ≠ none
def AbsX (c : Cz K cm) (W : WX) (t : TE) (A : AX) : Prop := ∀ s ns hs σ G H, Rl c s ns hs σ G H → ∀ ex, XOk c W G ex → ∀ (Qd : RV → Sx → Prop) (Q : VK), A ex s Qd → (∀ v rv s' ns' hs' G' H' Hs, Rl c s' ns' hs' σ G' H' → Ex G G' → Lt c ns' Hs → RvX c ns' Hs G' H' v rv → Qd rv s' → Q v H') → t σ H Q
def AbsXT (c : Cz K cm) (W : WX) (t : TT) (A : AXT) : Prop := ∀ s ns hs σ G H, Rl c s ns hs σ G H → ∀ ex, XOk c W G ex → ∀ (Qd : Bool → Sx → Prop) (Q : Bool → Hp → Prop), A ex s Qd → (∀ b s' ns' hs' G' H', Rl c s' ns' hs' σ G' H' → Ex G G' → Qd b s' → Q b H') → t σ H Q
structure EndsX (c : Cz K cm) (W : WX) (g : Hp) (E : DX) (D' : Ends) : Prop where
  nx : ∀ s ns hs σ G H, Rl c s ns hs σ G H → Ex g G → E.nx s → D'.nx σ H
  rt : ∀ v rv s ns hs σ G H Hs, Rl c s ns hs σ G H → Lt c ns Hs → RvX c ns Hs G H v rv → E.rt rv s → D'.rt v H
  bk : ∀ s ns hs σ G H, Rl c s ns hs σ G H → Ex g G → E.bk s → D'.bk σ H
  ct : ∀ s ns hs σ G H, Rl c s ns hs σ G H → Ex g G → E.ct s → D'.ct σ H
  ex : XOk c W g E.ex
theorem EndsX.mono {c : Cz K cm} {W : WX} {g g' : Hp} {E : DX} {D' : Ends} (e : Ex g g') (k : EndsX c W g E D') : EndsX c W g' E D' :=
  ⟨fun s ns hs σ G H r x => k.nx s ns hs σ G H r (e.trans x), k.rt, fun s ns hs σ G H r x => k.bk s ns hs σ G H r (e.trans x), fun s ns hs σ G H r x => k.ct s ns hs σ G H r (e.trans x), k.ex.mono e⟩
def AbsZ (c : Cz K cm) (W : WX) (t : TS) (a : AZ) : Prop := ∀ s ns hs σ G H, Rl c s ns hs σ G H → ∀ (E : DX) (D' : Ends), a E s → EndsX c W G E D' → t D' σ H
variable {c : Cz K cm} {W : WX} {s s' : Sx} {ns : List N} {hs : List V} {σ : St} {G H G' H' Hs G2 H2 : Hp}
theorem Rl.lt (rl : Rl c s ns hs σ G H) : Lt c ns H := ⟨fun b h => Classical.byContradiction fun z => rl.th b z h, fun x hx => by rw [rl.ok x hx]; exact fun z => nomatch z⟩
def q2x (a : AQ) : AX := fun ex s Q => a ex s fun rv => Q rv s
theorem x_of {t : TE} {a : AQ} (h : AbsQ c W t a) : AbsX c W t (q2x a) := fun s ns hs σ G H rl ex hx Qd Q h1 q =>
  h s ns hs σ G H rl ex hx _ _ h1 fun v rv G' H' q1 r1 h2 => q v rv s ns hs G' H' H (rl.quiet q1) q1.gg rl.lt r1 h2
def q2xt (a : AQT) : AXT := fun ex s Q => a ex s fun b => Q b s
theorem xt_of {t : TT} {a : AQT} (h : AbsQT c W t a) : AbsXT c W t (q2xt a) := fun s ns hs σ G H rl ex hx Qd Q h1 q =>
  h s ns hs σ G H rl ex hx _ _ h1 fun b G' H' q1 h2 => q b s ns hs G' H' (rl.quiet q1) q1.gg h2
def xTest (A : AX) : AXT := fun ex s Q => A ex s fun x s' => tstV (fun k => Q k s') x
theorem x_test {t : TE} {A : AX} (ha : AbsX c W t A) : AbsXT c W (tTest t) (xTest A) := by
  intro s ns hs σ G H rl ex hx Qd Q h q
  refine ha s ns hs σ G H rl ex hx _ _ h fun v x s1 ns1 hs1 G1 H1 Hs1 r1 g1 lt1 rv h1 => ?_
  unfold tstV at h1
  split at h1
  · rename_i k
    cases rv
    exact ⟨k, rfl, q k s1 ns1 hs1 G1 H1 r1 g1 h1⟩
  · exact h1.elim
theorem x_B {t : TE} {A : AX} (ha : AbsX c W t A) : AbsXT c W (tB t) (xTest A) := x_test ha
def xNot (a : AXT) : AXT := fun ex s Q => a ex s fun x s' => Q (!x) s'
theorem x_not {t : TT} {a : AXT} (ha : AbsXT c W t a) : AbsXT c W (tNot t) (xNot a) := by
  intro s ns hs σ G H rl ex hx Qd Q h q
  exact ha s ns hs σ G H rl ex hx _ _ h fun x s1 ns1 hs1 G1 H1 r1 g1 h1 => q _ s1 ns1 hs1 G1 H1 r1 g1 h1
def xAnd (a b : AXT) : AXT := fun ex s Q => a ex s fun x s' => if x = true then b ex s' Q else Q false s'
def xOr (a b : AXT) : AXT := fun ex s Q => a ex s fun x s' => if x = true then Q true s' else b ex s' Q
theorem x_and {t u : TT} {a b : AXT} (ha : AbsXT c W t a) (hb : AbsXT c W u b) : AbsXT c W (tAnd t u) (xAnd a b) := by
  intro s ns hs σ G H rl ex hx Qd Q h q
  refine ha s ns hs σ G H rl ex hx _ _ h fun x s1 ns1 hs1 G1 H1 r1 g1 h1 => ?_
  cases x with
  | true => exact iteT (hb s1 ns1 hs1 σ G1 H1 r1 ex (hx.mono g1) _ _ (by simpa using h1) fun b s2 ns2 hs2 G2 H2 r2 g2 h2 => q b s2 ns2 hs2 G2 H2 r2 (g1.trans g2) h2)
  | false => exact iteF (q false s1 ns1 hs1 G1 H1 r1 g1 (by simpa using h1))
theorem x_or {t u : TT} {a b : AXT} (ha : AbsXT c W t a) (hb : AbsXT c W u b) : AbsXT c W (tOr t u) (xOr a b) := by
  intro s ns hs σ G H rl ex hx Qd Q h q
  refine ha s ns hs σ G H rl ex hx _ _ h fun x s1 ns1 hs1 G1 H1 r1 g1 h1 => ?_
  cases x with
  | false => exact iteF (hb s1 ns1 hs1 σ G1 H1 r1 ex (hx.mono g1) _ _ (by simpa using h1) fun b s2 ns2 hs2 G2 H2 r2 g2 h2 => q b s2 ns2 hs2 G2 H2 r2 (g1.trans g2) h2)
  | true => exact iteT (q true s1 ns1 hs1 G1 H1 r1 g1 (by simpa using h1))
/-- the first one may change things and tells a datum -/
def opX (f : A2) (ex : XEx) (b : AQ) (s' : Sx) (Q : RV → Sx → Prop) : RV → Prop
  | .d x => b ex s' fun y => opV f s' (fun z => Q z s') (.d x) y
  | _ => False
theorem opX_d {f : A2} {ex : XEx} {b : AQ} {s' : Sx} {Q : RV → Sx → Prop} {x : D} : opX f ex b s' Q (.d x) = b ex s' fun y => opV f s' (fun z => Q z s') (.d x) y := rfl
def xOp (f : A2) (A : AX) (b : AQ) : AX := fun ex s Q => A ex s fun x s' => opX f ex b s' Q x
theorem x_op {r : R2} {f : A2} {ta tb : TE} {A : AX} {b : AQ} (ho : ∀ c : Ctx K, AbsR2 c r f) (ha : AbsX c W ta A) (hb : AbsQ c W tb b) : AbsX c W (tOp r ta tb) (xOp f A b) := by
  intro s ns hs σ G H rl ex hx Qd Q h q
  refine ha s ns hs σ G H rl ex hx _ _ h fun v x s1 ns1 hs1 G1 H1 Hs1 rl1 g1 lt1 r1 h1 => ?_
  cases x with
  | d dx =>
    refine hb s1 ns1 hs1 σ G1 H1 rl1 ex (hx.mono g1) _ _ h1 fun w y G2 H2 q2 r2 h2 => ?_
    have rl2 := rl1.quiet q2
    have r1' : Rv K G2 v dx := Rv.mono q2.gg r1
    have key : (∃ dy, vw s1 y = some dy ∧ f dx dy fun z => flat z = true ∧ Qd (.d z) s1) → r v w H2 Q := by
      rintro ⟨dy, e2, h3⟩
      refine ho (Ctx.pure K (Ex.refl H2)) H2 H2 v w dx dy (Ok.zero _) (r1'.mono rl2.ex) (vw_rv rl2 r2 e2) _ _ h3 fun u d G3 H3 st ru hq => ?_
      have rl3 := rl2.quiet (backQ rl2 st)
      exact q u (.d d) s1 ns1 hs1 G2 H3 H3 rl3 (g1.trans q2.gg) rl3.lt (flat_rv ru hq.1) hq.2
    cases y with
    | d dy =>
      refine ho (qCtx rl2) G2 H2 v w dx dy (Ok.zero (qCtx rl2)) r1' r2 _ _ h2 fun u d G3 H3 st ru hq => ?_
      have rl3 := rl2.quiet (qStep rl2 st)
      exact q u (.d d) s1 ns1 hs1 G3 H3 H3 rl3 ((g1.trans q2.gg).trans st.gg) rl3.lt ru hq
    | «at» r p => obtain ⟨dx', dy, e1, e2, h3⟩ := h2; cases e1; exact key ⟨dy, e2, h3⟩
    | new m => obtain ⟨dx', dy, e1, e2, h3⟩ := h2; cases e1; exact key ⟨dy, e2, h3⟩
    | exc e => obtain ⟨dx', dy, e1, e2, h3⟩ := h2; cases e2
    | tape => obtain ⟨dx', dy, e1, e2, h3⟩ := h2; cases e2
  | _ => exact h1.elim
/-! slots -/
theorem Rl.setC (rl : Rl c s ns hs σ G H) {i : Nat} {v : V} {x : Cl} (hx : ClOk c ns G H (some v) x) : Rl c { s with e := s.e.set i x } ns hs (σ.set i (some v)) G H :=
  { rl with
    len := by show (σ.set i (some v)).length = (s.e.set i x).length; rw [List.length_set, List.length_set]; exact rl.len
    cell := fun j y e => by
      rcases set_get (show (s.e.set i x)[j]? = some y from e) with ⟨rfl, hl, rfl⟩ | ⟨n, e⟩
      · exact ⟨_, set_at (by rw [rl.len]; exact hl), hx⟩
      · rw [set_off n]; exact rl.cell j y e }
theorem Rl.drop (rl : Rl c s ns hs σ G H) {i : Nat} {o : Option V} : Rl c { s with e := s.e.set i .un } ns hs (σ.set i o) G H :=
  { rl with
    len := by show (σ.set i o).length = (s.e.set i .un).length; rw [List.length_set, List.length_set]; exact rl.len
    cell := fun j y e => by
      rcases set_get (show (s.e.set i .un)[j]? = some y from e) with ⟨rfl, hl, rfl⟩ | ⟨n, e⟩
      · exact ⟨_, set_at (by rw [rl.len]; exact hl), trivial⟩
      · rw [set_off n]; exact rl.cell j y e }
/-! statements -/
def zSeq (a b : AZ) : AZ := fun E s => a { E with nx := b E } s
theorem z_seq {t u : TS} {a b : AZ} (h1 : AbsZ c W t a) (h2 : AbsZ c W u b) : AbsZ c W (tSeq t u) (zSeq a b) := fun s ns hs σ G H rl E D' h k =>
  h1 s ns hs σ G H rl _ _ h ⟨fun s' ns' hs' σ' G' H' r' g' q => h2 s' ns' hs' σ' G' H' r' E D' q (k.mono g'), k.rt, k.bk, k.ct, k.ex⟩
def zNext : AZ := fun E s => E.nx s
theorem z_next : AbsZ c W tNext zNext := fun s ns hs σ G H rl E D' h k => k.nx s ns hs σ G H rl (Ex.refl G) h
def zBreak : AZ := fun E s => E.bk s
theorem z_break : AbsZ c W tBreak zBreak := fun s ns hs σ G H rl E D' h k => k.bk s ns hs σ G H rl (Ex.refl G) h
def zCont : AZ := fun E s => E.ct s
theorem z_cont : AbsZ c W tCont zCont := fun s ns hs σ G H rl E D' h k => k.ct s ns hs σ G H rl (Ex.refl G) h
def zRet (A : AX) : AZ := fun E s => A E.ex s E.rt
theorem z_ret {t : TE} {A : AX} (ha : AbsX c W t A) : AbsZ c W (tRet t) (zRet A) := fun s ns hs σ G H rl E D' h k =>
  ha s ns hs σ G H rl E.ex k.ex _ _ h fun v rv s1 ns1 hs1 G1 H1 Hs1 r1 g1 lt1 x1 h1 => k.rt v rv s1 ns1 hs1 σ G1 H1 Hs1 r1 lt1 x1 h1
def zRetN : AZ := fun E s => E.rt (.d .none) s
theorem z_retN : AbsZ c W tRetN zRetN := fun s ns hs σ G H rl E D' h k => k.rt .non (.d .none) s ns hs σ G H H rl rl.lt .non h
def zDrop (A : AX) : AZ := fun E s => A E.ex s fun _ s' => E.nx s'
theorem z_drop {t : TE} {A : AX} (ha : AbsX c W t A) : AbsZ c W (tDrop t) (zDrop A) := fun s ns hs σ G H rl E D' h k =>
  ha s ns hs σ G H rl E.ex k.ex _ _ h fun v rv s1 ns1 hs1 G1 H1 Hs1 r1 g1 lt1 x1 h1 => k.nx s1 ns1 hs1 σ G1 H1 r1 g1 h1
def zIf (t : AXT) (a b : AZ) : AZ := fun E s => t E.ex s fun k s' => if k = true then a E s' else b E s'
theorem z_if {tt : TT} {t : AXT} {ta tb : TS} {a b : AZ} (ht : AbsXT c W tt t) (ha : AbsZ c W ta a) (hb : AbsZ c W tb b) : AbsZ c W (tIfS tt ta tb) (zIf t a b) := by
  intro s ns hs σ G H rl E D' h k
  refine ht s ns hs σ G H rl E.ex k.ex _ _ h fun x s1 ns1 hs1 G1 H1 r1 g1 h1 => ?_
  cases x with
  | true => exact iteT (ha s1 ns1 hs1 σ G1 H1 r1 E D' (by simpa using h1) (k.mono g1))
  | false => exact iteF (hb s1 ns1 hs1 σ G1 H1 r1 E D' (by simpa using h1) (k.mono g1))
/-- what a value is in a slot -/
def setV (i : Nat) (s : Sx) (Q : Sx → Prop) : RV → Prop
  | .d x => Q { s with e := s.e.set i (.d x) }
  | .at r p => Q { s with e := s.e.set i (.at r p) }
  | .exc e => Q { s with e := s.e.set i (.exc e) }
  | _ => False
theorem setV_d {i : Nat} {s : Sx} {Q : Sx → Prop} {x : D} : setV i s Q (.d x) = Q { s with e := s.e.set i (.d x) } := rfl
theorem setV_at {i : Nat} {s : Sx} {Q : Sx → Prop} {r : Nat} {p : Pt} : setV i s Q (.at r p) = Q { s with e := s.e.set i (.at r p) } := rfl
theorem setV_exc {i : Nat} {s : Sx} {Q : Sx → Prop} {e : Xc} : setV i s Q (.exc e) = Q { s with e := s.e.set i (.exc e) } := rfl
theorem set_rl (rl : Rl c s ns hs σ G H) {i : Nat} {v : V} {rv : RV} {Qd : Sx → Prop} (x : RvX c ns Hs G H v rv) (h : setV i s Qd rv) : ∃ s', Rl c s' ns hs (σ.set i (some v)) G H ∧ Qd s' := by
  cases rv with
  | d d => exact ⟨_, rl.setC (i := i) (x := .d d) ⟨v, rfl, x⟩, h⟩
  | «at» r p =>
    obtain ⟨n, h1, h2, rfl⟩ := x
    exact ⟨_, rl.setC (i := i) (x := .at r p) ⟨n, h1, h2, rfl⟩, h⟩
  | exc e =>
    obtain ⟨a, rfl, h1⟩ := x
    exact ⟨_, rl.setC (i := i) (x := .exc e) ⟨a, rfl, h1⟩, h⟩
  | _ => exact h.elim
def zSet (i : Nat) (A : AX) : AZ := fun E s => A E.ex s fun rv s' => setV i s' E.nx rv
theorem z_set (i : Nat) {t : TE} {A : AX} (ha : AbsX c W t A) : AbsZ c W (tAsg t (gName i)) (zSet i A) := fun s ns hs σ G H rl E D' h k =>
  ha s ns hs σ G H rl E.ex k.ex _ _ h fun v rv s1 ns1 hs1 G1 H1 Hs1 r1 g1 lt1 x1 h1 => by
    obtain ⟨s2, r2, h2⟩ := set_rl r1 x1 h1
    exact k.nx s2 ns1 hs1 _ G1 H1 r2 g1 h2
/-! targets -/
abbrev XG := RV → Sx → (Sx → Prop) → Prop
abbrev XGs := List D → Sx → (Sx → Prop) → Prop
def AbsXG (c : Cz K cm) (g : TG) (xg : XG) : Prop := ∀ s ns hs σ G H v rv Hs, Rl c s ns hs σ G H → RvX c ns Hs G H v rv → ∀ (Qd : Sx → Prop) (Q : St → Hp → Prop), xg rv s Qd → (∀ s' σ', Rl c s' ns hs σ' G H → Qd s' → Q σ' H) → g v σ H Q
def AbsXGs (c : Cz K cm) (g : TGs) (xg : XGs) : Prop := ∀ s ns hs σ G H vs ds, Rl c s ns hs σ G H → RvA K G vs ds → ∀ (Qd : Sx → Prop) (Q : St → Hp → Prop), xg ds s Qd → (∀ s' σ', Rl c s' ns hs σ' G H → Qd s' → Q σ' H) → g vs σ H Q
def xgName (i : Nat) : XG := fun rv s Q => setV i s Q rv
theorem xg_name (i : Nat) : AbsXG c (gName i) (xgName i) := fun s ns hs σ G H v rv Hs rl x Qd Q h q => by
  obtain ⟨s2, r2, h2⟩ := set_rl rl x h
  exact q s2 _ r2 h2
def xgNil : XGs := fun ds s Q => ds = [] ∧ Q s
def xgCons (g : XG) (r : XGs) : XGs := fun ds s Q => match ds with | d :: ds => g (.d d) s fun s' => r ds s' Q | [] => False
theorem xgs_nil : AbsXGs c gNil xgNil := fun s ns hs σ G H vs ds rl r Qd Q h q => by
  obtain ⟨rfl, h⟩ := h
  cases r
  exact ⟨rfl, q _ _ rl h⟩
theorem xgs_cons {g : TG} {gs : TGs} {xg : XG} {xgs : XGs} (h1 : AbsXG c g xg) (h2 : AbsXGs c gs xgs) : AbsXGs c (gCons g gs) (xgCons xg xgs) := fun s ns hs σ G H vs ds rl r Qd Q h q => by
  cases r with
  | nil => exact h.elim
  | cons hv hr => exact ⟨_, _, rfl, h1 s ns hs σ G H _ (.d _) H rl hv _ _ h fun s' σ' r' h' => h2 s' ns hs σ' G H _ _ r' hr _ _ h' q⟩
def xgTup (n : Nat) (r : XGs) : XG := fun rv s Q => match rv with | .d (.tuple ds) => ds.length = n ∧ r ds s Q | _ => False
theorem xg_tup {n : Nat} {gs : TGs} {xgs : XGs} (h2 : AbsXGs c gs xgs) : AbsXG c (gTup K n gs) (xgTup n xgs) := fun s ns hs σ G H v rv Hs rl x Qd Q h q => by
  unfold xgTup at h
  split at h
  · cases x with
    | tup hs' ha => exact ⟨_, _, rfl, rl.ex.sqt hs', ha.length.trans h.1, h2 s ns hs σ G H _ _ rl ha _ _ h.2 q⟩
  · exact h.elim
def zAsg (A : AX) (g : XG) : AZ := fun E s => A E.ex s fun rv s' => g rv s' E.nx
theorem z_asg {t : TE} {A : AX} {g : TG} {xg : XG} (ha : AbsX c W t A) (hg : AbsXG c g xg) : AbsZ c W (tAsg t g) (zAsg A xg) := fun s ns hs σ G H rl E D' h k =>
  ha s ns hs σ G H rl E.ex k.ex _ _ h fun v rv s1 ns1 hs1 G1 H1 Hs1 r1 g1 lt1 x1 h1 => hg s1 ns1 hs1 σ G1 H1 v rv Hs1 r1 x1 _ _ h1 fun s' σ' r' h' => k.nx s' ns1 hs1 σ' G1 H1 r' g1 h'
def zAug (f : Int → Int → Int) (i : Nat) (a : AQ) : AZ := fun E s => match s.e[i]? with
  | some (.d (.int x)) => a E.ex s fun d => (match d with | .d (.int y) => E.nx { s with e := s.e.set i (.d (.int (f x y))) } | _ => False)
  | _ => False
theorem z_aug (i : Nat) {f : Int → Int → Int} {te : TE} {a : AQ} (ha : AbsQ c W te a) : AbsZ c W (tAug i te (ipI f)) (zAug f i a) := by
  intro s ns hs σ G H rl E D' h k
  unfold zAug at h
  split at h
  · rename_i x hx
    obtain ⟨o, ho, v, rfl, rv⟩ := rl.cell i _ hx
    cases rv
    refine ⟨.int x, ho, ?_⟩
    refine ha s ns hs σ G H rl E.ex k.ex _ _ h fun y rvy G1 H1 q1 r1 h1 => ?_
    split at h1
    · rename_i z
      cases r1
      exact ⟨x, z, rfl, rfl, k.nx _ ns hs _ G1 H1 ((rl.quiet q1).setC (x := .d (.int (f x z))) ⟨_, rfl, .int _⟩) q1.gg h1⟩
    · exact h1.elim
  · exact h.elim
/-! ### loops -/
theorem PStep.refl (e : Ex G H) : PStep G H G H := ⟨Ex.refl _, e, Ex.refl _, fun _ h _ => h⟩
theorem PStep.new {p : Addr} {o : HO} (e : Ex G H) (hp : H p = none) : PStep G H (upd G p o) (upd H p o) := by
  have hg : G p = none := e.none hp
  refine ⟨Ex.new hg, fun b u z => ?_, Ex.new hp, fun b g h => ?_⟩
  · by_cases q : b = p
    · subst q; rw [upd_same] at z ⊢; exact z
    · rw [upd_ne q] at z ⊢; exact e b u z
  · rw [upd_ne (fun q => h (by rw [q]; exact hp))]; exact g
theorem PStep.qs (st : PStep G H G' H') (tp : ∀ t l xs, c.tp = some (t, l, xs) → TapeAt t l xs H) : Qs c G H G' H' := ⟨st.gg, st.gh, fun b o _ h => st.hh b o h, st.fr, fun t l xs e => by
  obtain ⟨ne, hl, i, j, h0, h1, ht⟩ := tp t l xs e
  exact ⟨ne, st.hh _ _ hl, i, j, h0, h1, st.hh _ _ ht⟩⟩
def PWalk (K : PySem.W.Frag) (J : It) (items : List D) (g : Hp) : Prop := ∀ (i : Nat) (G H : Hp), Ex g G → Ex G H →
  (i < items.length → J.go i H ∧ ∀ x H', J.yld i H x H' → ∃ G', PStep G H G' H' ∧ ∃ d, items[i]? = some d ∧ Rv K G' x d) ∧ (items.length ≤ i → J.stop i H)
abbrev AXI := XEx → Sx → (List D → Prop) → Prop
def AbsXI (c : Cz K cm) (W : WX) (wi : TI) (xi : AXI) : Prop := ∀ s ns hs σ G H, Rl c s ns hs σ G H → ∀ ex, XOk c W G ex → ∀ (Qd : List D → Prop) (R : It → Hp → Prop), xi ex s Qd → (∀ J items G' H', Qs c G H G' H' → PWalk K J items G' → Qd items → R J H') → wi σ H R
theorem pw_list {p : Addr} {xs : List V} {ds : List D} (hp : G p = some (.lst xs)) (hA : RvA K G xs ds) : PWalk K (Itl K p) ds G := fun i G2 H2 e k2 => by
  have hS : SqL K H2 p xs := SqL.of (k2 _ _ (e _ _ hp))
  refine ⟨fun hi => ?_, fun hi => ⟨xs, hS, by rw [hA.length]; exact hi⟩⟩
  have hl : i < xs.length := by rw [hA.length]; exact hi
  refine ⟨⟨xs, xs[i], hS, List.getElem?_eq_getElem hl⟩, fun x H' hy => ?_⟩
  obtain ⟨rfl, hy⟩ := hy
  obtain ⟨d, hd, hr⟩ := (hA.mono e).getV (hy xs hS)
  exact ⟨G2, PStep.refl k2, d, hd, hr⟩
theorem pw_tup {p : Addr} {xs : List V} {ds : List D} (hp : SqT K G p xs) (hA : RvA K G xs ds) : PWalk K (Itt K p) ds G := fun i G2 H2 e k2 => by
  have hS : SqT K H2 p xs := k2.sqt (e.sqt hp)
  refine ⟨fun hi => ?_, fun hi => ⟨xs, hS, by rw [hA.length]; exact hi⟩⟩
  have hl : i < xs.length := by rw [hA.length]; exact hi
  refine ⟨⟨xs, xs[i], hS, List.getElem?_eq_getElem hl⟩, fun x H' hy => ?_⟩
  obtain ⟨rfl, hy⟩ := hy
  obtain ⟨d, hd, hr⟩ := (hA.mono e).getV (hy xs hS)
  exact ⟨G2, PStep.refl k2, d, hd, hr⟩
def xiList (a : AQ) : AXI := fun ex s Q => a ex s fun d => match d with | .d (.list ds) => Q ds | _ => False
theorem xi_list {ta : TE} {a : AQ} (ha : AbsQ c W ta a) : AbsXI c W (iList K ta) (xiList a) := by
  intro s ns hs σ G H rl ex hx Qd R h q
  refine ha s ns hs σ G H rl ex hx _ _ h fun v x G1 H1 q1 r1 h1 => ?_
  split at h1
  · cases r1 with
    | @lst p xs ds hp hA => exact ⟨p, rfl, ⟨xs, SqL.of ((rl.quiet q1).ex _ _ hp)⟩, q _ _ G1 H1 q1 (pw_list hp hA) h1⟩
  · exact h1.elim
def xiTup (a : AQ) : AXI := fun ex s Q => a ex s fun d => match d with | .d (.tuple ds) => Q ds | _ => False
theorem xi_tup {ta : TE} {a : AQ} (ha : AbsQ c W ta a) : AbsXI c W (iTup K ta) (xiTup a) := by
  intro s ns hs σ G H rl ex hx Qd R h q
  refine ha s ns hs σ G H rl ex hx _ _ h fun v x G1 H1 q1 r1 h1 => ?_
  split at h1
  · cases r1 with
    | @tup p xs ds hp hA => exact ⟨p, rfl, ⟨xs, (rl.quiet q1).ex.sqt hp⟩, q _ _ G1 H1 q1 (pw_tup hp hA) h1⟩
  · exact h1.elim
def xiAny (a : AQ) : AXI := fun ex s Q => a ex s fun d => match d with | .d (.list ds) => Q ds | .d (.tuple ds) => Q ds | _ => False
theorem xi_any {ta : TE} {a : AQ} (ha : AbsQ c W ta a) : AbsXI c W (iAny K ta) (xiAny a) := by
  intro s ns hs σ G H rl ex hx Qd R h q
  refine ha s ns hs σ G H rl ex hx _ _ h fun v x G1 H1 q1 r1 h1 => ?_
  split at h1
  · cases r1 with
    | @lst p xs ds hp hA => exact ⟨p, rfl, .inl ⟨⟨xs, SqL.of ((rl.quiet q1).ex _ _ hp)⟩, q _ _ G1 H1 q1 (pw_list hp hA) h1⟩⟩
  · cases r1 with
    | @tup p xs ds hp hA => exact ⟨p, rfl, .inr ⟨⟨xs, (rl.quiet q1).ex.sqt hp⟩, q _ _ G1 H1 q1 (pw_tup hp hA) h1⟩⟩
  · exact h1.elim
theorem pw_rng (lo : Int) (n : Nat) (g : Hp) : PWalk K (Itr lo n) (rngD lo n) g := by
  intro i G H e k
  rw [rngD_len]
  refine ⟨fun hi => ⟨hi, fun x H' hy => ?_⟩, fun hi => hi⟩
  obtain ⟨rfl, rfl⟩ := hy
  exact ⟨G, PStep.refl k, _, rngD_get hi, .int _⟩
def xiRng1 (r : AQA) : AXI := fun ex s Q => r ex s fun ds => match ds with | [.d (.int j)] => InRg j ∧ Q (rngD 0 j.toNat) | _ => False
theorem xi_rng1 {tr : TA} {ar : AQA} (hr : AbsQA c W tr ar) : AbsXI c W (iRng1 tr) (xiRng1 ar) := by
  intro s ns hs σ G H rl ex hx Qd R h q
  refine hr s ns hs σ G H rl ex hx _ _ h fun vs ds G1 H1 q1 r1 h1 => ?_
  split at h1
  · rename_i j
    cases r1 with
    | cons a b =>
      cases a; cases b
      exact ⟨j, rfl, h1.1.1, h1.1.2, q _ _ G1 H1 q1 (pw_rng 0 j.toNat G1) h1.2⟩
  · exact h1.elim
def xiRng2 (r : AQA) : AXI := fun ex s Q => r ex s fun ds => match ds with | [.d (.int i), .d (.int j)] => (InRg i ∧ InRg j) ∧ Q (rngD i (j - i).toNat) | _ => False
theorem xi_rng2 {tr : TA} {ar : AQA} (hr : AbsQA c W tr ar) : AbsXI c W (iRng2 tr) (xiRng2 ar) := by
  intro s ns hs σ G H rl ex hx Qd R h q
  refine hr s ns hs σ G H rl ex hx _ _ h fun vs ds G1 H1 q1 r1 h1 => ?_
  split at h1
  · rename_i i j
    cases r1 with
    | cons a b =>
      cases a
      cases b with
      | cons a b =>
        cases a; cases b
        exact ⟨i, j, rfl, ⟨h1.1.1.1, h1.1.1.2, h1.1.2.1, h1.1.2.2⟩, q _ _ G1 H1 q1 (pw_rng i (j - i).toNat G1) h1.2⟩
  · exact h1.elim
theorem pw_rngC (lo st : Int) (n : Nat) (g : Hp) : PWalk K (Itc lo st n) (rngC lo st n) g := by
  intro i G H e k
  rw [rngC_len]
  refine ⟨fun hi => ⟨hi, fun x H' hy => ?_⟩, fun hi => hi⟩
  obtain ⟨rfl, rfl⟩ := hy
  refine ⟨G, PStep.refl k, _, ?_, .int _⟩
  unfold rngC; rw [List.getElem?_map, List.getElem?_range hi]; rfl
def xiRng3 (r : AQA) : AXI := fun ex s Q => r ex s fun ds => match ds with | [.d (.int i), .d (.int j), .d (.int st)] => ∃ n, RgC i j st n ∧ Q (rngC i st n) | _ => False
theorem xi_rng3 {tr : TA} {ar : AQA} (hr : AbsQA c W tr ar) : AbsXI c W (iRng3 tr) (xiRng3 ar) := by
  intro s ns hs σ G H rl ex hx Qd R h q
  refine hr s ns hs σ G H rl ex hx _ _ h fun vs ds G1 H1 q1 r1 h1 => ?_
  split at h1
  · rename_i i j st
    obtain ⟨n, hn, h1⟩ := h1
    cases r1 with
    | cons a b =>
      cases a
      cases b with
      | cons a b =>
        cases a
        cases b with
        | cons a b =>
          cases a; cases b
          exact ⟨i, j, st, n, rfl, hn, q _ _ G1 H1 q1 (pw_rngC i st n G1) h1⟩
  · exact h1.elim
def xiStr (a : AQ) : AXI := fun ex s Q => a ex s fun d => match d with | .d (.str x) => Q (signs x) | _ => False
theorem xi_str {ta : TE} {a : AQ} (ha : AbsQ c W ta a) : AbsXI c W (iStr ta) (xiStr a) := by
  intro s ns hs σ G H rl ex hx Qd R h q
  refine ha s ns hs σ G H rl ex hx _ _ h fun v x G1 H1 q1 r1 h1 => ?_
  split at h1
  · rename_i z
    cases r1
    refine ⟨z, rfl, q (Its z) (signs z) G1 H1 q1 (fun i G2 H2 e k2 => ?_) h1⟩
    rw [signs_len]
    refine ⟨fun hi => ⟨hi, fun x H' hy => ?_⟩, fun hi => hi⟩
    obtain ⟨rfl, k, hk, rfl⟩ := hy
    refine ⟨G2, PStep.refl k2, _, ?_, .str _⟩
    unfold signs
    rw [List.getElem?_map, Array.getElem?_toList, hk]; rfl
  · exact h1.elim
def xiEnum (r : AQA) : AXI := fun ex s Q => r ex s fun ds => match ds with | [.d (.list xs)] => Q (xs.mapIdx fun i x => PyData.tuple [.int (i : Int), x]) | _ => False
theorem xi_enum {tr : TA} {ar : AQA} (hr : AbsQA c W tr ar) : AbsXI c W (iEnum K tr) (xiEnum ar) := by
  intro s ns hs σ G H rl ex hx Qd R h q
  refine hr s ns hs σ G H rl ex hx _ _ h fun vs ds G1 H1 q1 r1 h1 => ?_
  split at h1
  · rename_i xs
    cases r1 with
    | cons a b =>
      cases b
      cases a with
      | @lst p us _ hp hA =>
        refine ⟨p, us, rfl, SqL.of ((rl.quiet q1).ex _ _ hp), q (Ite K p) _ G1 H1 q1 (fun i G2 H2 e k2 => ?_) h1⟩
        have hS : SqL K H2 p us := SqL.of (k2 _ _ (e _ _ hp))
        rw [List.length_mapIdx]
        refine ⟨fun hi => ?_, fun hi => ⟨us, hS, by rw [hA.length]; exact hi⟩⟩
        have hl : i < us.length := by rw [hA.length]; exact hi
        refine ⟨⟨us, us[i], hS, List.getElem?_eq_getElem hl⟩, fun x H' hy => ?_⟩
        obtain ⟨T, y, rfl, hT, rfl, hy⟩ := hy
        obtain ⟨d, hd, hr⟩ := (hA.mono e).getV (hy us hS)
        have s3 := PStep.new (o := .tup [.int (i : Nat), y]) k2 hT
        refine ⟨_, s3, _, ?_, .tup (SqT.of upd_same) (.cons (.int _) (.cons (hr.mono s3.gg) .nil))⟩
        rw [List.getElem?_mapIdx, hd]; rfl
  · exact h1.elim
def zFor (xi : AXI) (g : XG) (b : AZ) : AZ := fun E s => xi E.ex s fun items => ∃ I : Nat → Sx → Prop, I 0 s ∧
  (∀ (i : Nat) (d : D) (s' : Sx), items[i]? = some d → I i s' → g (.d d) s' fun s'' => b { E with nx := I (i + 1), ct := I (i + 1), bk := E.nx } s'') ∧ ∀ s', I items.length s' → E.nx s'
theorem z_for {wi : TI} {xi : AXI} {g : TG} {xg : XG} {t : TS} {b : AZ} (hi : AbsXI c W wi xi) (hg : AbsXG c g xg) (hb : AbsZ c W t b) : AbsZ c W (tFor wi g t) (zFor xi xg b) := by
  intro s ns hs σ G H rl E D' h k
  refine hi s ns hs σ G H rl E.ex k.ex _ _ h fun J items G1 H1 q1 wk h1 => ?_
  obtain ⟨I, i0, it, ie⟩ := h1
  refine ⟨fun i m σ' H' => i + m = items.length ∧ ∃ s' ns' hs' G', Rl c s' ns' hs' σ' G' H' ∧ Ex G1 G' ∧ I i s', ⟨items.length, by omega, s, ns, hs, G1, rl.quiet q1, Ex.refl _, i0⟩, fun i m σ' H' w => ?_⟩
  obtain ⟨em, s', ns', hs', G', r', x', hI⟩ := w
  by_cases hl : i < items.length
  · obtain ⟨go, yl⟩ := (wk i G' H' x' r'.ex).1 hl
    refine .inr ⟨go, fun σ2 H2 => ∃ s2 ns2 hs2 G2, Rl c s2 ns2 hs2 σ2 G2 H2 ∧ Ex G1 G2 ∧ I (i + 1) s2, fun σ2 H2 n => ⟨m - 1, by omega, by omega, n⟩, fun x H2 hy => ?_⟩
    obtain ⟨G2, s2, d, hd, hr⟩ := yl x H2 hy
    have q2 := PStep.qs s2 r'.tp
    refine hg s' ns' hs' σ' G2 H2 x (.d d) H2 (r'.quiet q2) hr _ _ (it i d s' hd hI) fun s3 σ3 r3 h3 => ?_
    have x3 : Ex G1 G2 := x'.trans q2.gg
    exact hb s3 ns' hs' σ3 G2 H2 r3 _ _ h3 ⟨fun s4 ns4 hs4 σ4 G4 H4 r4 x4 q => ⟨s4, ns4, hs4, G4, r4, x3.trans x4, q⟩, k.rt, fun s4 ns4 hs4 σ4 G4 H4 r4 x4 q => k.nx s4 ns4 hs4 σ4 G4 H4 r4 (q1.gg.trans (x3.trans x4)) q, fun s4 ns4 hs4 σ4 G4 H4 r4 x4 q => ⟨s4, ns4, hs4, G4, r4, x3.trans x4, q⟩, k.ex.mono (q1.gg.trans x3)⟩
  · have he : i = items.length := by omega
    subst he
    exact .inl ⟨(wk _ G' H' x' r'.ex).2 (Nat.le_refl _), k.nx s' ns' hs' σ' G' H' r' (q1.gg.trans x') (ie s' hI)⟩
def zWhile (tc : AXT) (b : AZ) : AZ := fun E s => ∃ I : Nat → Sx → Prop, (∃ m, I m s) ∧ ∀ m s', I m s' → tc E.ex s' fun k s2 => if k = true then b { E with nx := fun s3 => ∃ m', m' < m ∧ I m' s3, ct := fun s3 => ∃ m', m' < m ∧ I m' s3, bk := E.nx } s2 else E.nx s2
theorem z_while {tt : TT} {tc : AXT} {t : TS} {b : AZ} (hc : AbsXT c W tt tc) (hb : AbsZ c W t b) : AbsZ c W (tWhile tt t) (zWhile tc b) := by
  intro s ns hs σ G H rl E D' h k
  obtain ⟨I, ⟨m0, i0⟩, hI⟩ := h
  refine ⟨fun m σ' H' => ∃ s' ns' hs' G', Rl c s' ns' hs' σ' G' H' ∧ Ex G G' ∧ I m s', ⟨m0, s, ns, hs, G, rl, Ex.refl _, i0⟩, fun m σ' H' w => ?_⟩
  obtain ⟨s', ns', hs', G', r', x', hm⟩ := w
  refine hc s' ns' hs' σ' G' H' r' E.ex (k.ex.mono x') _ _ (hI m s' hm) fun b2 s2 ns2 hs2 G2 H2 r2 g2 h2 => ?_
  have x2 : Ex G G2 := x'.trans g2
  cases b2 with
  | false => exact iteF (k.nx s2 ns2 hs2 σ' G2 H2 r2 x2 (by simpa using h2))
  | true =>
    refine iteT ⟨fun σ3 H3 => ∃ m', m' < m ∧ ∃ s3 ns3 hs3 G3, Rl c s3 ns3 hs3 σ3 G3 H3 ∧ Ex G G3 ∧ I m' s3, fun σ3 H3 n => ?_, ?_⟩
    · obtain ⟨m', l, n⟩ := n; exact ⟨m', l, n⟩
    · rw [if_pos rfl] at h2
      exact hb s2 ns2 hs2 σ' G2 H2 r2 _ _ h2 ⟨fun s4 ns4 hs4 σ4 G4 H4 r4 x4 q => by
          obtain ⟨m', l, q⟩ := q; exact ⟨m', l, s4, ns4, hs4, G4, r4, x2.trans x4, q⟩, k.rt, fun s4 ns4 hs4 σ4 G4 H4 r4 x4 q => k.nx s4 ns4 hs4 σ4 G4 H4 r4 (x2.trans x4) q, fun s4 ns4 hs4 σ4 G4 H4 r4 x4 q => by
          obtain ⟨m', l, q⟩ := q; exact ⟨m', l, s4, ns4, hs4, G4, r4, x2.trans x4, q⟩, k.ex.mono x2⟩
end
end Fe

namespace Fe
open PySem L2 Fc
open scoped List
def killR (r : Nat) : Cl → Cl
  | .at r' p => if r' = r then .un else .at r' p
  | x => x
abbrev killH := killR
/-- the root r is another tree -/
def Sx.root (s : Sx) (r : Nat) (m : M) : Sx := ⟨s.e.map (killR r), s.r.set r m, s.h.map (killH r)⟩
section
variable {K : PySem.W.Frag} {cm : Nat → Addr} {c : Cz K cm} {W : WX} {s s' : Sx} {ns : List N} {hs : List V} {σ : St} {G H G' H' Hs G2 H2 : Hp}
theorem subL_set_ne {r r' : Nat} {n : N} {p : Pt} (h : r' ≠ r) : subL (ns.set r n) r' p = subL ns r' p := by
  unfold subL
  rw [List.getElem?_set, if_neg (fun z => h z.symm)]
theorem Rl.rootN (rl : Rl c s ns hs σ G H) {r : Nat} {n : N} (h0 : c.ns0.length ≤ r) (hr : r < s.r.length)
    (hw : ∀ x ∈ n.cells cm, H x.1 = some x.2 ∧ G x.1 = none ∧ c.H0 x.1 = none ∧ ∀ n0, ns[r]? = some n0 → x ∈ n0.cells cm ∨ x.1 ∉ (cellsL cm ns).map (·.1)) (hwn : ((n.cells cm).map (·.1)).Nodup) (hl : ∀ l ∈ n.leaves, Rv K G l.1 l.2) : Rl c (s.root r n.erase) (ns.set r n) hs σ G H := by
  have hr' : r < ns.length := by rw [← rl.er, eraseL_map, List.length_map] at hr; exact hr
  have e0 := List.getElem?_eq_getElem hr'
  obtain ⟨R, f1, f2⟩ := cellsL_at cm ns r ns[r] e0
  have f3 := f2 n
  have inR : ∀ x ∈ R, x ∈ cellsL cm ns := fun x hx => f1.mem_iff.mpr (List.mem_append.mpr (.inr hx))
  have nd := (f1.map (·.1)).nodup_iff.mp rl.nd
  rw [List.map_append, List.nodup_append] at nd
  have sp : ∀ x ∈ cellsL cm (ns.set r n), x ∈ n.cells cm ∨ x ∈ R := fun x hx => List.mem_append.mp (f3.mem_iff.mp hx)
  have nt : ∀ x ∈ n.cells cm, ∀ t l xs, c.tp = some (t, l, xs) → x.1 ≠ t ∧ x.1 ≠ l := fun x hx t l xs e => by
    have h3 := (hw x hx).2.2.1
    exact ⟨fun z => tape_ne (c.tp0 t l xs e).1 (by rw [← z]; exact h3), fun z => tape_neL (c.tp0 t l xs e).1 (by rw [← z]; exact h3)⟩
  refine ⟨?_, fun x hx => ?_, fun l hx => ?_, ?_, fun x hx => ?_, fun x hx => ?_, rl.ex, rl.gg, rl.fr, rl.hh, rl.tp, fun r' n' hn x hx => ?_, fun i h1 h2 => ?_, fun i n' hn => ?_, rl.th, rl.tt, ?_, fun j x e => ?_, ?_, fun j x e => ?_⟩
  · show eraseL (ns.set r n) = s.r.set r n.erase
    rw [← rl.er, eraseL_map, eraseL_map, List.map_set]
  · rcases sp x hx with h1 | h1
    · exact (hw x h1).1
    · exact rl.ok x (inR x h1)
  · obtain ⟨n', hn', hl'⟩ := mem_leavesL.mp hx
    rcases List.mem_or_eq_of_mem_set hn' with h1 | h1
    · exact rl.lv l (mem_leavesL.mpr ⟨n', h1, hl'⟩)
    · subst h1; exact hl l hl'
  · rw [(f3.map (·.1)).nodup_iff, List.map_append, List.nodup_append]
    refine ⟨hwn, nd.2.1, fun a ha b hb => ?_⟩
    rintro rfl
    obtain ⟨x, hx, rfl⟩ := List.mem_map.mp ha
    obtain ⟨y, hy, e⟩ := List.mem_map.mp hb
    rcases (hw x hx).2.2.2 _ e0 with z | z
    · exact nd.2.2 x.1 (List.mem_map.mpr ⟨x, z, rfl⟩) y.1 (List.mem_map.mpr ⟨y, hy, rfl⟩) e.symm
    · exact z (by rw [← e]; exact List.mem_map.mpr ⟨y, inR y hy, rfl⟩)
  · rcases sp x hx with h1 | h1
    · exact (hw x h1).2.1
    · exact rl.gn x (inR x h1)
  · rcases sp x hx with h1 | h1
    · exact nt x h1
    · exact rl.nt x (inR x h1)
  · by_cases e : r' = r
    · subst e
      rw [List.getElem?_set, if_pos rfl, if_pos hr'] at hn
      cases hn
      exact .inl (hw x hx).2.2.1
    · rw [List.getElem?_set, if_neg (fun z => e z.symm)] at hn
      exact rl.nw r' n' hn x hx
  · rw [List.getElem?_set, if_neg (by omega)]; exact rl.fx i h1 h2
  · have := (List.getElem?_eq_some_iff.mp hn).1
    rw [List.getElem?_set, if_neg (by omega)]; exact rl.sb i n' hn
  · show σ.length = (s.e.map (killR r)).length
    rw [List.length_map]; exact rl.len
  · have e' : (s.e.map (killR r))[j]? = some x := e
    rw [List.getElem?_map] at e'
    cases hj : s.e[j]? with
    | none => rw [hj] at e'; cases e'
    | some y =>
      rw [hj] at e'
      obtain rfl := Option.some.inj e'
      obtain ⟨o, h1, h2⟩ := rl.cell j y hj
      refine ⟨o, h1, ?_⟩
      cases y with
      | «at» r' p =>
        simp only [killR]
        split
        · trivial
        · rename_i ne
          obtain ⟨n', h3, h4, h5⟩ := h2
          exact ⟨n', by rw [subL_set_ne ne]; exact h3, h4, h5⟩
      | _ => exact h2
  · show hs.length = (s.h.map (killH r)).length
    rw [List.length_map]; exact rl.hlen
  · have e' : (s.h.map (killH r))[j]? = some x := e
    rw [List.getElem?_map] at e'
    cases hj : s.h[j]? with
    | none => rw [hj] at e'; cases e'
    | some y =>
      rw [hj] at e'
      obtain rfl := Option.some.inj e'
      obtain ⟨o, h1, h2⟩ := rl.hid j y hj
      refine ⟨o, h1, ?_⟩
      cases y with
      | «at» r' p =>
        simp only [killR]
        split
        · trivial
        · rename_i ne
          obtain ⟨n', h3, h4, h5⟩ := h2
          exact ⟨n', by rw [subL_set_ne ne]; exact h3, h4, h5⟩
      | _ => exact h2
/-- a name gets a new tree of its own -/
def zSetNew (i r : Nat) (A : AX) : AZ := fun E s => A E.ex s fun rv s' => match rv with
  | .new m => r < s'.r.length ∧ E.nx ⟨(s'.e.map (killR r)).set i (.at r []), s'.r.set r m, s'.h.map (killH r)⟩
  | _ => False
theorem Rl.setNew (rl : Rl c s ns hs σ G H) {i r : Nat} {v : V} {m : M} (h0 : c.ns0.length ≤ r) (hr : r < s.r.length) (lt : Lt c ns Hs) (x : NewAt K cm Hs G H v m) : ∃ ns', Rl c ⟨(s.e.map (killR r)).set i (.at r []), s.r.set r m, s.h.map (killH r)⟩ ns' hs (σ.set i (some v)) G H := by
  obtain ⟨n, rfl, rfl, h3, h4, h5, h6⟩ := x
  have r2 := rl.rootN (n := n) h0 hr (fun x hx => ⟨(h4 x hx).1, (h4 x hx).2.1, lt.z _ (h4 x hx).2.2, fun n0 _ => .inr fun hm => by
    obtain ⟨y, hy, e⟩ := List.mem_map.mp hm
    exact lt.n y hy (by rw [e]; exact (h4 x hx).2.2)⟩) h6 h5
  have hr' : r < ns.length := by rw [← rl.er, eraseL_map, List.length_map] at hr; exact hr
  refine ⟨_, r2.setC (i := i) (x := .at r []) ⟨n, ?_, h3, rfl⟩⟩
  unfold subL
  rw [List.getElem?_set, if_pos rfl, if_pos hr']
  cases n <;> rfl
theorem z_setNew {i r : Nat} {t : TE} {A : AX} (h0 : c.ns0.length ≤ r) (ha : AbsX c W t A) : AbsZ c W (tAsg t (gName i)) (zSetNew i r A) := fun s ns hs σ G H rl E D' h k =>
  ha s ns hs σ G H rl E.ex k.ex _ _ h fun v rv s1 ns1 hs1 G1 H1 Hs1 r1 g1 lt1 x1 h1 => by
    cases rv with
    | new m =>
      obtain ⟨ns2, r2⟩ := r1.setNew (i := i) h0 h1.1 lt1 x1
      exact k.nx _ ns2 hs1 _ G1 H1 r2 g1 h1.2
    | _ => exact h1.elim
/-! ### new lists -/
def dN : List V → List D → List N
  | v :: vs, x :: xs => .d v x :: dN vs xs
  | _, _ => []
theorem dN_ok {vs : List V} {xs : List D} (h : RvA K G vs xs) : eraseL (dN vs xs) = xs.map M.d ∧ cellsL cm (dN vs xs) = [] ∧ (dN vs xs).map N.val = vs ∧ ∀ l ∈ leavesL (dN vs xs), Rv K G l.1 l.2 := by
  have aux : ∀ (n : Nat) {vs : List V} {xs : List D}, vs.length = n → RvA K G vs xs → eraseL (dN vs xs) = xs.map M.d ∧ cellsL cm (dN vs xs) = [] ∧ (dN vs xs).map N.val = vs ∧ ∀ l ∈ leavesL (dN vs xs), Rv K G l.1 l.2 := by
    intro n
    induction n with
    | zero =>
      intro vs xs hl h
      cases h with
      | nil => exact ⟨rfl, rfl, rfl, fun l hl => by simp [dN, leavesL] at hl⟩
      | cons => simp at hl
    | succ n ih =>
      intro vs xs hl h
      cases h with
      | nil => simp at hl
      | cons a r =>
        obtain ⟨e1, e2, e3, e4⟩ := ih (by simpa using hl) r
        refine ⟨by simp [dN, eraseL, N.erase, e1], by simp [dN, cellsL, N.cells, e2], by simp [dN, N.val, e3], fun l hl => ?_⟩
        simp only [dN, leavesL, N.leaves, List.mem_append, List.mem_singleton] at hl
        rcases hl with rfl | hl
        · exact a
        · exact e4 l hl
  exact aux _ rfl h
/-- a new list of data -/
theorem new_lst (rl : Rl c s ns hs σ G H) {vs : List V} {xs : List D} {p : Addr} (h : RvA K G vs xs) (hp : H p = none) : Qs c G H G (upd H p (.lst vs)) ∧ RvX c ns H G (upd H p (.lst vs)) (.ref p) (.new (.nd .lst (xs.map M.d))) := by
  obtain ⟨e1, e2, e3, e4⟩ := dN_ok (cm := cm) h
  refine ⟨⟨Ex.refl _, fun b o hb => ?_, fun b o _ hb => ?_, fun _ h _ => h, fun t l xs e => ?_⟩, .nd p p .lst (dN vs xs), by simp [N.erase, e1], rfl, trivial, fun x hx => ?_, fun l hl => e4 l (by simpa [N.leaves] using hl), ?_⟩
  · rw [upd_ne (ne_of_none (rl.ex b o hb) hp)]; exact rl.ex b o hb
  · rw [upd_ne (ne_of_none hb hp)]; exact hb
  · obtain ⟨ne, hl, i, j, h0, h1, ht⟩ := rl.tp t l xs e
    exact ⟨ne, by rw [upd_ne (ne_of_none hl hp)]; exact hl, i, j, h0, h1, by rw [upd_ne (ne_of_none ht hp)]; exact ht⟩
  · simp only [N.cells, hdO, e2, e3, List.append_nil, List.mem_singleton] at hx
    subst hx
    exact ⟨upd_same, rl.ex.none hp, hp⟩
  · simp [N.cells, hdO, e2]
/-- the items of a list: a datum's, or those of a list of data in a tree -/
def itemsOf (s : Sx) : RV → List D → Prop
  | .d (.list xs), ys => ys = xs
  | .d (.tuple xs), ys => ys = xs
  | .at r p, ys => subM s.r r p = some (.nd .lst (ys.map M.d))
  | .new m, ys => m = .nd .lst (ys.map M.d)
  | _, _ => False
theorem leafs_of : ∀ (cs : List N) (xs : List D), (∀ l ∈ leavesL cs, Rv K G l.1 l.2) → eraseL cs = xs.map M.d → RvA K G (cs.map N.val) xs
  | [], [], _, _ => .nil
  | [], _ :: _, _, h => by simp [eraseL] at h
  | _ :: _, [], _, h => by simp [eraseL] at h
  | n :: r, x :: xs, hl, h => by
    simp only [eraseL, List.map_cons, List.cons.injEq] at h
    cases n with
    | d v y =>
      have e : y = x := by simpa [N.erase] using h.1
      subst e
      exact .cons (hl (v, y) (by simp [leavesL, N.leaves])) (leafs_of r xs (fun l q => hl l (by simp only [leavesL, List.mem_append]; exact .inr q)) h.2)
    | nd a da k cs => simp [N.erase] at h
    | gone v => simp [N.erase] at h
theorem items_rv (rl : Rl c s ns hs σ G H) {v : V} {rv : RV} {ys : List D} (h : RvX c ns Hs G H v rv) (e : itemsOf s rv ys) : ∃ p vs, v = .ref p ∧ (SqL K H p vs ∨ SqT K H p vs) ∧ RvA K G vs ys := by
  cases rv with
  | d x =>
    cases x with
    | list xs =>
      cases e
      cases h with
      | @lst p vs _ hp hA => exact ⟨p, vs, rfl, .inl (SqL.of (rl.ex _ _ hp)), hA⟩
    | tuple xs =>
      cases e
      cases h with
      | @tup p vs _ hp hA => exact ⟨p, vs, rfl, .inr (rl.ex.sqt hp), hA⟩
    | _ => exact e.elim
  | «at» r p =>
    obtain ⟨n, h1, h2, rfl⟩ := h
    obtain ⟨a, da, cs, e3, e4⟩ := rl.at (show subM s.r r p = some (.nd .lst (ys.map M.d)) from e)
    rw [h1] at e3
    cases e3
    exact ⟨a, cs.map N.val, rfl, .inl (SqL.of (cell_head rl h1 (a, _) (by simp [hdO]))), leafs_of cs ys (fun l hl => (rl.sub h1).2 l (by simpa [N.leaves] using hl)) e4⟩
  | new m =>
    obtain ⟨n, h1, rfl, h3, h4, h5, h6⟩ := h
    obtain rfl : m = _ := e
    cases n with
    | nd a da k cs =>
      simp only [N.erase, M.nd.injEq] at h1
      obtain ⟨rfl, h1⟩ := h1
      exact ⟨a, cs.map N.val, rfl, .inl (SqL.of (h4 (a, _) (by simp [N.cells, hdO])).1), leafs_of cs ys (fun l hl => h5 l (by simpa [N.leaves] using hl)) h1⟩
    | _ => exact h3.elim
  | exc e' => exact e.elim
  | tape => exact e.elim
/-- [a, b, ..], one's own -/
def qNewL (r : AQA) : AQ := fun ex s Q => r ex s fun xs => ∃ ds, asD xs = some ds ∧ ds.length ≤ sizeLine ∧ Q (.new (.nd .lst (ds.map M.d)))
theorem q_newL {tr : TA} {ar : AQA} (hr : AbsQA c W tr ar) : AbsQ c W (tLst tr) (qNewL ar) := by
  intro s ns hs σ G H rl ex hx Qd Q h q
  refine hr s ns hs σ G H rl ex hx _ _ h fun vs ds G1 H1 q1 r1 h1 => ?_
  obtain ⟨xs, e, hl, h1⟩ := h1
  have A := asD_rv r1 e
  refine ⟨by rw [A.length]; exact hl, fun p hp => ?_⟩
  obtain ⟨q2, x2⟩ := new_lst (rl.quiet q1) A hp
  exact q _ _ G1 _ (q1.tr q2) (x2.early fun b hb => q1.th rl.tp b hb) h1
/-- list(x), one's own -/
def qListNew (a : AQ) : AQ := fun ex s Q => a ex s fun x => ∃ ys, itemsOf s x ys ∧ Q (.new (.nd .lst (ys.map M.d)))
theorem q_listNew {ta : TE} {a : AQ} (ha : AbsQ c W ta a) : AbsQ c W (tCB (rListOf K) (tCons ta tNil)) (qListNew a) := by
  intro s ns hs σ G H rl ex hx Qd Q h q
  refine ha s ns hs σ G H rl ex hx _ _ h fun v rv G1 H1 q1 r1 h1 => ?_
  obtain ⟨ys, e, h1⟩ := h1
  have rl1 := rl.quiet q1
  obtain ⟨p, vs, rfl, hS, hA⟩ := items_rv rl1 r1 e
  refine ⟨p, vs, rfl, hS, fun l hl => ?_⟩
  obtain ⟨q2, x2⟩ := new_lst rl1 hA hl
  exact q _ _ G1 _ (q1.tr q2) (x2.early fun b hb => q1.th rl.tp b hb) h1
/-- tuple(x): a datum -/
def qTupleOf (a : AQ) : AQ := fun ex s Q => a ex s fun x => ∃ ys, itemsOf s x ys ∧ Q (.d (.tuple ys))
theorem q_tupleOf {ta : TE} {a : AQ} (ha : AbsQ c W ta a) : AbsQ c W (tCB (fun xs H Q => ∃ p ys, xs = [V.ref p] ∧ ((SqL K H p ys ∧ ∀ l, H l = none → Q (V.ref l) (upd H l (HO.tup ys))) ∨ SqT K H p ys ∧ Q (V.ref p) H)) (tCons ta tNil)) (qTupleOf a) := by
  intro s ns hs σ G H rl ex hx Qd Q h q
  refine ha s ns hs σ G H rl ex hx _ _ h fun v rv G1 H1 q1 r1 h1 => ?_
  obtain ⟨ys, e, h1⟩ := h1
  have rl1 := rl.quiet q1
  have lay : ∀ (p : Addr) (vs : List V), SqL K H1 p vs → RvA K G1 vs ys → ∀ l, H1 l = none → Q (V.ref l) (upd H1 l (HO.tup vs)) := fun p vs _ hA l hl => by
    have st := Step.new (o := .tup vs) (Ok.zero (qCtx rl1)) hl
    exact q _ (.d (.tuple ys)) _ _ (q1.tr (qStep rl1 st)) (.tup (SqT.of upd_same) (hA.mono st.gg)) h1
  cases rv with
  | d x =>
    cases x with
    | list xs =>
      cases e
      cases r1 with
      | @lst p vs _ hp hA => exact ⟨p, vs, rfl, .inl ⟨SqL.of (rl1.ex _ _ hp), lay p vs (SqL.of (rl1.ex _ _ hp)) hA⟩⟩
    | tuple xs =>
      cases e
      cases r1 with
      | @tup p vs _ hp hA => exact ⟨p, vs, rfl, .inr ⟨rl1.ex.sqt hp, q _ (.d (.tuple _)) G1 H1 q1 (.tup hp hA) h1⟩⟩
    | _ => exact e.elim
  | «at» r p =>
    obtain ⟨n, h3, h2, rfl⟩ := r1
    obtain ⟨a, da, cs, e3, e4⟩ := rl1.at (show subM s.r r p = some (.nd .lst (ys.map M.d)) from e)
    rw [h3] at e3
    cases e3
    have hS : SqL K H1 a (cs.map N.val) := SqL.of (cell_head rl1 h3 (a, _) (by simp [hdO]))
    exact ⟨a, cs.map N.val, rfl, .inl ⟨hS, lay a _ hS (leafs_of cs ys (fun l hl => (rl1.sub h3).2 l (by simpa [N.leaves] using hl)) e4)⟩⟩
  | new m =>
    obtain ⟨p, vs, rfl, hS, hA⟩ := items_rv rl1 r1 e
    obtain ⟨n, e1, e2, h3, h4, h5, h6⟩ := r1
    obtain rfl : m = _ := e
    cases n with
    | nd a da k cs =>
      simp only [N.erase, M.nd.injEq] at e1
      obtain ⟨rfl, e1⟩ := e1
      cases e2
      have hS : SqL K H1 p (cs.map N.val) := SqL.of (h4 (p, _) (by simp [N.cells, hdO])).1
      exact ⟨p, cs.map N.val, rfl, .inl ⟨hS, lay p _ hS (leafs_of cs ys (fun l hl => h5 l (by simpa [N.leaves] using hl)) e1)⟩⟩
    | _ => exact h3.elim
  | exc e' => exact e.elim
  | tape => exact e.elim
/-! ### a node changes, all nodes stay where they are -/
theorem Rl.nodeS (rl : Rl c s ns hs σ G H) {i : Nat} {p : Pt} {a da : Addr} {k k' : Kd} {cs cs' nw : List N}
    (h : subL ns i p = some (.nd a da k cs)) (hlo : c.lo ≤ i)
    (hd : (hdO cm a da (cs'.map N.val) k').map (·.1) = (hdO cm a da (cs.map N.val) k).map (·.1))
    (hc : ∃ R', cellsL cm cs ++ cellsL cm nw ~ cellsL cm cs' ++ R')
    (hw : ∀ x ∈ cellsL cm nw, H x.1 = some x.2 ∧ G x.1 = none ∧ c.H0 x.1 = none ∧ x.1 ∉ (cellsL cm ns).map (·.1)) (hwn : ((cellsL cm nw).map (·.1)).Nodup)
    (hl : ∀ l ∈ leavesL cs', Rv K G l.1 l.2)
    (hH : ∀ b, b ∉ (hdO cm a da (cs.map N.val) k).map (·.1) → H' b = H b) (hH' : ∀ x ∈ hdO cm a da (cs'.map N.val) k', H' x.1 = some x.2)
    (hkp : ∀ (j : Nat) (n : N), cs[j]? = some n → n.isNd → cs'[j]? = some n) (hkt : k ≠ .tup := by intro z; cases z) :
    Rl c { s with r := putM s.r i p (.nd k' (eraseL cs')) } (putL ns i p (.nd a da k' cs')) hs σ G H' := by
  refine rl.node (nw := nw) (fun _ => True) h hlo hd hc hw hwn hl hH hH' (fun q' b db k1 cs1 hq _ => ?_) (fun _ _ _ => trivial) rfl rfl rfl (fun j x e => .inr ⟨e, fun _ _ => trivial⟩) (fun j x e => .inr ⟨e, fun _ _ => trivial⟩) hkt
  cases q' with
  | nil =>
    simp only [N.sub, Option.some.injEq, N.nd.injEq] at hq
    obtain ⟨rfl, rfl, rfl, rfl⟩ := hq
    exact ⟨_, _, rfl⟩
  | cons j q =>
    simp only [N.sub] at hq ⊢
    cases hj : cs[j]? with
    | none => rw [hj] at hq; cases hq
    | some n =>
      rw [hj] at hq
      have hN : n.isNd := by
        cases n with
        | nd => trivial
        | _ => cases q <;> simp [N.sub] at hq
      rw [hkp j n hj hN]
      exact ⟨k1, cs1, hq⟩
/-- a.append(b) -/
def appV (E : DX) (s : Sx) (r : Nat) (p : Pt) (cs : List M) : RV → Prop
  | .d y => E.nx { s with r := putM s.r r p (.nd .lst (cs ++ [.d y])) }
  | .new m => E.nx { s with r := putM s.r r p (.nd .lst (cs ++ [m])) }
  | _ => False
theorem appV_d {E : DX} {s : Sx} {r : Nat} {p : Pt} {cs : List M} {y : D} : appV E s r p cs (.d y) = E.nx { s with r := putM s.r r p (.nd .lst (cs ++ [.d y])) } := rfl
theorem appV_new {E : DX} {s : Sx} {r : Nat} {p : Pt} {cs : List M} {m : M} : appV E s r p cs (.new m) = E.nx { s with r := putM s.r r p (.nd .lst (cs ++ [m])) } := rfl
def zAppend (lo : Nat) (a : AQ) (b : AQ) : AZ := fun E s => a E.ex s fun x => (match x with
  | .at r p => lo ≤ r ∧ ∃ cs, subM s.r r p = some (.nd .lst cs) ∧ cs.length < sizeLine ∧ b E.ex s fun y => appV E s r p cs y
  | _ => False)
theorem z_append {lo : Nat} {ta tb : TE} {a b : AQ} (hlo : c.lo = lo) (ha : AbsQ c W ta a) (hb : AbsQ c W tb b) : AbsZ c W (tDrop (tBM K "list" rAppend ta (tCons tb tNil))) (zAppend lo a b) := by
  intro s ns hs σ G H rl E D' h k
  refine ha s ns hs σ G H rl E.ex k.ex _ _ h fun v x G1 H1 q1 r1 h1 => ?_
  have rl1 := rl.quiet q1
  cases x with
  | «at» r p =>
    obtain ⟨l1, ms, hm, hlen, h1⟩ := h1
    obtain ⟨n, e1, e2, rfl⟩ := r1
    obtain ⟨a1, da1, cs1, e3, rfl⟩ := rl1.at hm
    rw [e1] at e3
    cases e3
    refine ⟨.inl ⟨rfl, cs1.map N.val, SqL.of (cell_head rl1 e1 (a1, _) (by simp [hdO]))⟩, ?_⟩
    refine hb s ns hs σ G1 H1 rl1 E.ex (k.ex.mono q1.gg) _ _ h1 fun v y G2 H2 q2 r2 h2 => ?_
    have rl2 := rl1.quiet q2
    refine ⟨a1, cs1.map N.val, v, rfl, rfl, cell_head rl2 e1 (a1, _) (by simp [hdO]), by rw [eraseL_map, List.length_map] at hlen; rw [List.length_map]; exact hlen, ?_⟩
    have other : ∀ b, b ∉ (hdO cm a1 da1 (cs1.map N.val) .lst).map (·.1) → upd H2 a1 (.lst (cs1.map N.val ++ [v])) b = H2 b := fun b hb => upd_ne fun z => hb (by simp [hdO, z])
    have keep : ∀ (n' : N) (j : Nat) (n : N), cs1[j]? = some n → n.isNd → (cs1 ++ [n'])[j]? = some n := fun n' j n hj _ => by
      rw [List.getElem?_append_left (List.getElem?_eq_some_iff.mp hj).1]; exact hj
    have lv1 : ∀ l ∈ leavesL cs1, Rv K G2 l.1 l.2 := fun l hl => (rl2.sub e1).2 l (by simpa [N.leaves] using hl)
    cases y with
    | d y =>
      have r3 := rl2.nodeS (nw := []) (cs' := cs1 ++ [.d v y]) (k' := .lst) (H' := upd H2 a1 (.lst (cs1.map N.val ++ [v]))) e1 (by omega) (by simp [hdO]) ⟨[], by simp [cellsL_append, cellsL, N.cells]⟩ (fun x hx => by simp [cellsL] at hx) (by simp [cellsL])
        (fun l hl => by
          rw [leavesL_append, List.mem_append] at hl
          rcases hl with hl | hl
          · exact lv1 l hl
          · simp only [leavesL, N.leaves, List.append_nil, List.mem_singleton] at hl
            subst hl; exact r2) other (fun x hx => by simp [hdO, N.val] at hx; subst hx; exact upd_same) (keep _)
      have e5 : eraseL (cs1 ++ [.d v y]) = eraseL cs1 ++ [.d y] := by simp [eraseL_map, N.erase]
      rw [e5] at r3
      exact k.nx _ _ hs σ G2 _ r3 (q1.gg.trans q2.gg) h2
    | new m =>
      obtain ⟨n, g1, rfl, g3, g4, g5, g6⟩ := r2
      have r3 := rl2.nodeS (nw := [n]) (cs' := cs1 ++ [n]) (k' := .lst) (H' := upd H2 a1 (.lst (cs1.map N.val ++ [n.val]))) e1 (by omega) (by simp [hdO]) ⟨[], by simp [cellsL_append, cellsL]⟩
        (fun x hx => by
          simp only [cellsL, List.append_nil] at hx
          obtain ⟨z1, z2, z3⟩ := g4 x hx
          refine ⟨z1, z2, rl1.lt.z _ z3, fun hm => ?_⟩
          obtain ⟨y, hy, e⟩ := List.mem_map.mp hm
          exact rl1.lt.n y hy (by rw [e]; exact z3)) (by simpa [cellsL] using g6)
        (fun l hl => by
          rw [leavesL_append, List.mem_append] at hl
          rcases hl with hl | hl
          · exact lv1 l hl
          · exact g5 l (by simpa [leavesL] using hl)) other (fun x hx => by simp [hdO] at hx; subst hx; exact upd_same) (keep _)
      have e5 : eraseL (cs1 ++ [n]) = eraseL cs1 ++ [m] := by simp [eraseL_map, g1]
      rw [e5] at r3
      exact k.nx _ _ hs σ G2 _ r3 (q1.gg.trans q2.gg) h2
    | _ => exact h2.elim
  | _ => exact h1.elim
/-- a leaf in a node is another -/
theorem Rl.leafS (rl : Rl c s ns hs σ G H) {i : Nat} {p : Pt} {a da : Addr} {k : Kd} {cs : List N} {j : Nat} {v0 v : V} {x0 y : D}
    (h : subL ns i p = some (.nd a da k cs)) (hlo : c.lo ≤ i) (hj : cs[j]? = some (.d v0 x0)) (hv : Rv K G v y)
    (hH : ∀ b, b ≠ a → H' b = H b) (hH' : ∀ x ∈ hdO cm a da ((cs.map N.val).set j v) k, H' x.1 = some x.2) (hkt : k ≠ .tup := by intro z; cases z) :
    Rl c { s with r := putM s.r i p (.nd k ((eraseL cs).set j (.d y))) } (putL ns i p (.nd a da k (cs.set j (.d v y)))) hs σ G H' := by
  obtain ⟨R, f1, f2⟩ := cellsL_at cm cs j _ hj
  have f3 := f2 (.d v y)
  simp only [N.cells, List.nil_append] at f1 f3
  have em : (cs.set j (.d v y)).map N.val = (cs.map N.val).set j v := by rw [List.map_set]; rfl
  have r3 := rl.nodeS (nw := []) (cs' := cs.set j (.d v y)) (k' := k) (H' := H') h hlo (by rw [em]; cases k <;> simp [hdO]) ⟨[], by simpa [cellsL] using f1.trans f3.symm⟩ (fun x hx => by simp [cellsL] at hx) (by simp [cellsL])
    (fun l hl => by
      obtain ⟨n', hn', hl'⟩ := mem_leavesL.mp hl
      rcases List.mem_or_eq_of_mem_set hn' with h1 | h1
      · exact (rl.sub h).2 l (by simp only [N.leaves]; exact mem_leavesL.mpr ⟨n', h1, hl'⟩)
      · subst h1
        simp only [N.leaves, List.mem_singleton] at hl'
        subst hl'; exact hv)
    (fun b hb => hH b fun z => hb (by subst z; cases k <;> simp [hdO])) (by rw [em]; exact hH')
    (fun j' n hj' hn => by
      by_cases e : j = j'
      · subst e; rw [hj] at hj'; cases hj'; exact hn.elim
      · rw [List.getElem?_set, if_neg e]; exact hj') hkt
  have e5 : eraseL (cs.set j (.d v y)) = (eraseL cs).set j (.d y) := by rw [eraseL_map, eraseL_map, List.map_set]; rfl
  rw [e5] at r3
  exact r3
theorem leaf_at {cs : List N} {j : Nat} {x : D} (h : (eraseL cs)[j]? = some (.d x)) : ∃ v, cs[j]? = some (.d v x) := by
  rw [eraseL_map, List.getElem?_map] at h
  cases hj : cs[j]? with
  | none => rw [hj] at h; cases h
  | some n =>
    rw [hj] at h
    cases n with
    | d v y => cases h; exact ⟨v, rfl⟩
    | nd a da k cs => cases h
    | gone v => cases h
/-- a[i] = b, a datum in the place of a datum -/
def setAtV (lo : Nat) (E : DX) (s : Sx) : RV → RV → RV → Prop
  | .d y, .at r p, .d (.int z) => lo ≤ r ∧ ∃ cs, subM s.r r p = some (.nd .lst cs) ∧ ∃ j x0, ixN cs.length z = some j ∧ cs[j]? = some (.d x0) ∧ E.nx { s with r := putM s.r r p (.nd .lst (cs.set j (.d y))) }
  | _, _, _ => False
theorem setAtV_at {lo : Nat} {E : DX} {s : Sx} {y : D} {r : Nat} {p : Pt} {z : Int} : setAtV lo E s (.d y) (.at r p) (.d (.int z)) = (lo ≤ r ∧ ∃ cs, subM s.r r p = some (.nd .lst cs) ∧ ∃ j x0, ixN cs.length z = some j ∧ cs[j]? = some (.d x0) ∧ E.nx { s with r := putM s.r r p (.nd .lst (cs.set j (.d y))) }) := rfl
def zSetAt (lo : Nat) (b a i : AQ) : AZ := fun E s => b E.ex s fun y => a E.ex s fun x => i E.ex s fun z => setAtV lo E s y x z
theorem z_setAt {lo : Nat} {ta tb ti : TE} {a b i : AQ} (hlo : c.lo = lo) (hb : AbsQ c W tb b) (ha : AbsQ c W ta a) (hi : AbsQ c W ti i) : AbsZ c W (tAsg tb (gSub ta ti rSetL)) (zSetAt lo b a i) := by
  intro s ns hs σ G H rl E D' h k
  refine hb s ns hs σ G H rl E.ex k.ex _ _ h fun v y G1 H1 q1 r1 h1 => ?_
  have rl1 := rl.quiet q1
  refine ha s ns hs σ G1 H1 rl1 E.ex (k.ex.mono q1.gg) _ _ h1 fun w x G2 H2 q2 r2 h2 => ?_
  have rl2 := rl1.quiet q2
  refine hi s ns hs σ G2 H2 rl2 E.ex (k.ex.mono (q1.gg.trans q2.gg)) _ _ h2 fun u z G3 H3 q3 r3 h3 => ?_
  have rl3 := rl2.quiet q3
  unfold setAtV at h3
  split at h3
  · rename_i y r p z
    obtain ⟨l1, ms, hm, j, x0, hj, hx0, h3⟩ := h3
    obtain ⟨n, e1, e2, rfl⟩ := r2
    obtain ⟨a1, da1, cs1, e3, rfl⟩ := rl3.at hm
    rw [e1] at e3
    cases e3
    cases r3
    obtain ⟨v0, hv0⟩ := leaf_at hx0
    have r1' : Rv K G3 v y := Rv.mono (q2.gg.trans q3.gg) r1
    refine ⟨a1, cs1.map N.val, z, j, rfl, rfl, cell_head rl3 e1 (a1, _) (by simp [hdO]), by rw [eraseL_map, List.length_map] at hj; rw [List.length_map]; exact hj, ?_⟩
    have r4 := rl3.leafS (H' := upd H3 a1 (.lst ((cs1.map N.val).set j v))) e1 (by omega) hv0 r1' (fun b hb => upd_ne hb) (fun x hx => by simp only [hdO, List.mem_singleton] at hx; subst hx; exact upd_same)
    exact k.nx _ _ hs σ G3 _ r4 ((q1.gg.trans q2.gg).trans q3.gg) h3
  · exact h3.elim
end
end Fe

namespace Fe
open PySem L2 Fc
open scoped List
/-- the known part, and these -/
def layG (G H : Hp) (xs : List (Addr × HO)) : Hp := fun b => if b ∈ xs.map (·.1) then H b else G b
section
variable {K : PySem.W.Frag} {cm : Nat → Addr} {c : Cz K cm} {W : WX} {s s' : Sx} {ns : List N} {hs : List V} {σ : St} {G H G' H' Hs G2 H2 : Hp}
theorem layG_in {xs : List (Addr × HO)} {b : Addr} (h : b ∈ xs.map (·.1)) : layG G H xs b = H b := by unfold layG; rw [if_pos h]
theorem layG_out {xs : List (Addr × HO)} {b : Addr} (h : b ∉ xs.map (·.1)) : layG G H xs b = G b := by unfold layG; rw [if_neg h]
theorem layG_ex {xs : List (Addr × HO)} (hg : ∀ x ∈ xs, G x.1 = none) : Ex G (layG G H xs) := fun b o h => by
  rw [layG_out fun hm => ?_]; exact h
  obtain ⟨x, hx, rfl⟩ := List.mem_map.mp hm
  rw [hg x hx] at h; cases h
theorem layG_exH {xs : List (Addr × HO)} (e : Ex G H) : Ex (layG G H xs) H := fun b o h => by
  by_cases hm : b ∈ xs.map (·.1)
  · rw [layG_in hm] at h; exact h
  · rw [layG_out hm] at h; exact e b o h
mutual
theorem view_rvG {G H : Hp} (e : Ex G H) : ∀ (n : N) (x : D), (∀ y ∈ n.cells cm, H y.1 = some y.2) → (∀ l ∈ n.leaves, Rv K G l.1 l.2) → viewM n.erase = some x → Rv K H n.val x := view_rv e
end
/-- a new tree from now on a datum -/
def qFrz (a : AQ) : AQ := fun ex s Q => a ex s fun x => match x with | .new m => (∃ d, viewM m = some d ∧ Q (.d d)) | _ => False
theorem q_frz {t : TE} {a : AQ} (ha : AbsQ c W t a) : AbsQ c W t (qFrz a) := by
  intro s ns hs σ G H rl ex hx Qd Q h q
  refine ha s ns hs σ G H rl ex hx _ _ h fun v rv G1 H1 q1 r1 h1 => ?_
  cases rv with
  | new m =>
    obtain ⟨d, hd, h1⟩ := h1
    obtain ⟨n, rfl, rfl, h3, h4, h5, h6⟩ := r1
    have eG : Ex G1 (layG G1 H1 (n.cells cm)) := layG_ex fun x hx => (h4 x hx).2.1
    have q2 : Qs c G H (layG G1 H1 (n.cells cm)) H1 := ⟨q1.gg.trans eG, layG_exH q1.gh, q1.hh, fun b g hb => by
      rw [layG_out fun hm => ?_]
      · exact q1.fr b g hb
      · obtain ⟨x, hx, rfl⟩ := List.mem_map.mp hm
        exact hb (h4 x hx).2.2, q1.tp⟩
    refine q _ (.d d) _ H1 q2 ?_ h1
    exact view_rv (K := K) (cm := cm) eG n d (fun y hy => by rw [layG_in (List.mem_map.mpr ⟨y, hy, rfl⟩)]; exact (h4 y hy).1) h5 hd
  | _ => exact h1.elim
/-- a tree of one's own from now on a datum -/
theorem Rl.freeze (rl : Rl c s ns hs σ G H) {r : Nat} {n : N} {x : D} (h0 : c.ns0.length ≤ r) (hn : ns[r]? = some n) (hv : viewM n.erase = some x) :
    ∃ G', Rl c (s.root r .gone) (ns.set r (.gone n.val)) hs σ G' H ∧ Ex G G' ∧ Rv K G' n.val x := by
  have hr : r < ns.length := (List.getElem?_eq_some_iff.mp hn).1
  have hr' : r < s.r.length := by rw [← rl.er, eraseL_map, List.length_map]; exact hr
  obtain ⟨R, f1, f2⟩ := cellsL_at cm ns r n hn
  have f3 := f2 (.gone n.val)
  simp only [N.cells, List.nil_append] at f3
  have nd := (f1.map (·.1)).nodup_iff.mp rl.nd
  rw [List.map_append, List.nodup_append] at nd
  have inN : ∀ x ∈ n.cells cm, x ∈ cellsL cm ns := fun x hx => f1.mem_iff.mpr (List.mem_append.mpr (.inl hx))
  have r1 := rl.rootN (n := .gone n.val) h0 hr' (fun x hx => by simp [N.cells] at hx) (by simp [N.cells]) (fun l hl => by simp [N.leaves] at hl)
  have eG : Ex G (layG G H (n.cells cm)) := layG_ex fun x hx => rl.gn x (inN x hx)
  have new : ∀ x ∈ n.cells cm, c.H0 x.1 = none := fun x hx => by
    rcases rl.nw r n hn x hx with z | ⟨m, z, _⟩
    · exact z
    · have := (List.getElem?_eq_some_iff.mp z).1
      omega
  refine ⟨layG G H (n.cells cm), ⟨r1.er, r1.ok, fun l hl => (r1.lv l hl).mono eG, r1.nd, fun x hx => ?_, r1.nt, layG_exH rl.ex, rl.gg.trans eG, fun b g hb => ?_, r1.hh, r1.tp, r1.nw, r1.fx, r1.sb, r1.th, r1.tt, r1.len, fun j y e => ?_, r1.hlen, fun j y e => ?_⟩, eG, ?_⟩
  · rw [layG_out fun hm => ?_]; exact r1.gn x hx
    have hxR := f3.mem_iff.mp hx
    exact nd.2.2 x.1 hm x.1 (List.mem_map.mpr ⟨x, hxR, rfl⟩) rfl
  · rw [layG_out fun hm => ?_]; exact rl.fr b g hb
    obtain ⟨x, hx, rfl⟩ := List.mem_map.mp hm
    exact hb (new x hx)
  · obtain ⟨o, h1, h2⟩ := r1.cell j y e
    refine ⟨o, h1, ?_⟩
    cases y with
    | d y => obtain ⟨v, e1, e2⟩ := h2; exact ⟨v, e1, e2.mono eG⟩
    | exc e' => obtain ⟨a, e1, e2⟩ := h2; exact ⟨a, e1, exAt_step eG (fun _ _ h => h) (fun _ _ h => h) (fun _ _ h => h) e2⟩
    | _ => exact h2
  · obtain ⟨o, h1, h2⟩ := r1.hid j y e
    refine ⟨o, h1, ?_⟩
    cases y with
    | d y => obtain ⟨v, e1, e2⟩ := h2; exact ⟨v, e1, e2.mono eG⟩
    | exc e' => obtain ⟨a, e1, e2⟩ := h2; exact ⟨a, e1, exAt_step eG (fun _ _ h => h) (fun _ _ h => h) (fun _ _ h => h) e2⟩
    | _ => exact h2
  · exact view_rv (K := K) (cm := cm) eG n x (fun y hy => by rw [layG_in (List.mem_map.mpr ⟨y, hy, rfl⟩)]; exact rl.ok y (inN y hy)) (fun l hl => rl.lv l (mem_leavesL.mpr ⟨n, List.mem_of_getElem? hn, hl⟩)) hv
/-- the name i holds the whole root r: from now on a datum -/
def zFreeze (i r : Nat) (a : AZ) : AZ := fun E s => s.e[i]? = some (.at r []) ∧ ∃ m x, s.r[r]? = some m ∧ viewM m = some x ∧ a E ⟨(s.e.map (killR r)).set i (.d x), s.r.set r .gone, s.h.map (killH r)⟩
theorem z_freeze {i r : Nat} {t : TS} {a : AZ} (h0 : c.ns0.length ≤ r) (ha : AbsZ c W t a) : AbsZ c W t (zFreeze i r a) := by
  intro s ns hs σ G H rl E D' h k
  obtain ⟨hi, m, x, hm, hx, h⟩ := h
  have hm' := hm
  rw [← rl.er, eraseL_map, List.getElem?_map] at hm
  cases hn : ns[r]? with
  | none => rw [hn] at hm; cases hm
  | some n =>
    rw [hn] at hm
    obtain rfl := Option.some.inj hm
    obtain ⟨G', r1, eG, rv⟩ := rl.freeze h0 hn hx
    obtain ⟨o, h1, n', h2, h3, rfl⟩ := rl.cell i _ hi
    have e : n' = n := by
      unfold subL at h2
      rw [hn] at h2
      have : n = n' := by cases n <;> simpa [N.sub] using h2
      exact this.symm
    subst e
    have r2 := r1.setC (i := i) (v := n'.val) (x := .d x) ⟨_, rfl, rv⟩
    have es : σ.set i (some n'.val) = σ := by
      apply List.ext_getElem?
      intro j
      rw [List.getElem?_set]
      split
      · rename_i q; subst q
        have hl := (List.getElem?_eq_some_iff.mp h1).1
        rw [if_pos hl, h1]
      · rfl
    rw [es] at r2
    exact ha _ _ hs σ G' H r2 E D' h (k.mono eG)
/-! ### comprehensions -/
def wipeS (s : Sx) : List Nat → Sx
  | [] => s
  | v :: vs => { wipeS s vs with e := (wipeS s vs).e.set v .un }
theorem Rl.wipe (rl : Rl c s ns hs σ G H) : ∀ vs : List Nat, Rl c (wipeS s vs) ns hs (L2.wipe σ vs) G H
  | [] => rl
  | v :: vs => (rl.wipe vs).drop
def oneV (Q : M → Prop) : RV → Prop
  | .d x => Q (.d x)
  | .new m => Q m
  | _ => False
theorem oneV_d {Q : M → Prop} {x : D} : oneV Q (.d x) = Q (.d x) := rfl
theorem oneV_new {Q : M → Prop} {m : M} : oneV Q (.new m) = Q m := rfl
/-- [e for .. if ..], one's own -/
def qLc (xi : AXI) (xg : XG) (tt : AQT) (ae : AQ) (vs : List Nat) : AQ := fun ex s Q => xi ex s fun items => items.length ≤ sizeLine ∧ ∃ I : Nat → List M → Prop, I 0 [] ∧
  (∀ (i : Nat) (d : D) (acc : List M), items[i]? = some d → I i acc → xg (.d d) (wipeS s vs) fun s' => tt (fun _ _ => False) s' fun b => if b = true then ae (fun _ _ => False) s' (oneV fun m => I (i + 1) (acc ++ [m])) else I (i + 1) acc) ∧ ∀ acc, I items.length acc → Q (.new (.nd .lst acc))
theorem XOk.never {g : Hp} : XOk c W g (fun _ _ => False) := fun _ _ _ _ _ _ _ _ _ h => h.elim
/-- what a comprehension has made so far -/
structure Made (c : Cz K cm) (H1 : Hp) (D : Addr) (ans : List N) (G H : Hp) : Prop where
  d : H D = some (.lst (ans.map N.val))
  g : G D = none
  o : ∀ x ∈ cellsL cm ans, H x.1 = some x.2 ∧ G x.1 = none ∧ H1 x.1 = none ∧ x.1 ≠ D
  l : ∀ l ∈ leavesL ans, Rv K G l.1 l.2
  n : ((cellsL cm ans).map (·.1)).Nodup
theorem Made.quiet {H1 : Hp} {D : Addr} {ans : List N} (m : Made c H1 D ans G H) (tp : ∀ t l xs, c.tp = some (t, l, xs) → H1 t ≠ none) (hD : H1 D = none) (q : Qs c G H G' H') : Made c H1 D ans G' H' := by
  have nt : ∀ b, H1 b = none → ∀ l xs, c.tp ≠ some (b, l, xs) := fun b hb l xs e => tp b l xs e hb
  refine ⟨q.hh _ _ (nt D hD) m.d, q.fr _ m.g (by rw [m.d]; exact fun z => nomatch z), fun x hx => ?_, fun l hl => (m.l l hl).mono q.gg, m.n⟩
  obtain ⟨a1, a2, a3, a4⟩ := m.o x hx
  exact ⟨q.hh _ _ (nt _ a3) a1, q.fr _ a2 (by rw [a1]; exact fun z => nomatch z), a3, a4⟩
theorem q_lc {wi : TI} {xi : AXI} {g : TG} {xg : XG} {tt : TT} {at' : AQT} {te : TE} {ae : AQ} {vs : List Nat} (hi : AbsXI c W wi xi) (hg : AbsXG c g xg) (ho : GOnly vs g) (ht : AbsQT c W tt at') (he : AbsQ c W te ae) : AbsQ c W (tLc wi g tt te vs) (qLc xi xg at' ae vs) := by
  intro s ns hs σ G H rl ex hx Qd Q h q
  refine hi s ns hs σ G H rl ex hx _ _ h fun J items G1 H1 q1 wk h1 => ?_
  obtain ⟨hz, I, i0, it, ie⟩ := h1
  intro D hD
  have rl1 := rl.quiet q1
  have tpn1 := tpn rl1
  have qD : Qs c G1 H1 G1 (upd H1 D (.lst [])) := (new_lst rl1 (vs := []) (xs := []) .nil hD).1
  have hg1 : G1 D = none := rl1.ex.none hD
  refine ⟨fun i m H' => i + m = items.length ∧ ∃ G' ans, ans.length ≤ i ∧ Qs c G1 H1 G' H' ∧ Made c H1 D ans G' H' ∧ I i (eraseL ans), ⟨items.length, by omega, G1, [], Nat.zero_le _, qD, ⟨upd_same, hg1, fun x hx => by simp [cellsL] at hx, fun l hl => by simp [leavesL] at hl, by simp [cellsL]⟩, i0⟩, fun i m H' w => ?_⟩
  obtain ⟨em, G', ans, al, q', md, hI⟩ := w
  have rl' := rl1.quiet q'
  by_cases hl : i < items.length
  · obtain ⟨go, yl⟩ := (wk i G' H' q'.gg rl'.ex).1 hl
    refine .inr ⟨go, fun H2 => ∃ G2 ans2, ans2.length ≤ i + 1 ∧ Qs c G1 H1 G2 H2 ∧ Made c H1 D ans2 G2 H2 ∧ I (i + 1) (eraseL ans2), fun H2 n => ⟨m - 1, by omega, by omega, n⟩, fun x H2 hy => ?_⟩
    obtain ⟨G2, s2, d, hd, hr⟩ := yl x H2 hy
    have q2 := PStep.qs s2 rl'.tp
    have rl2 := rl'.quiet q2
    refine ho.mono _ _ _ _ _ (fun σ3 H3 q3 => ⟨q3.1.trans (wipe_wipe vs σ), q3.2⟩) (ho.only _ _ _ _ ?_)
    refine hg (wipeS s vs) ns hs (L2.wipe σ vs) G2 H2 x (.d d) H2 (rl2.wipe vs) hr _ _ (it i d _ hd hI) fun s3 σ3 r3 h3 => ?_
    refine ht s3 ns hs σ3 G2 H2 r3 _ XOk.never _ _ h3 fun b G4 H4 q4 h4 => ?_
    have q24 : Qs c G' H' G4 H4 := q2.tr q4
    cases b with
    | false => exact iteF ⟨G4, ans, by omega, q'.tr q24, md.quiet tpn1 hD q24, by simpa using h4⟩
    | true =>
      refine iteT ?_
      have h4' : ae (fun _ _ => False) s3 (oneV fun m => I (i + 1) (eraseL ans ++ [m])) := by simpa using h4
      have r4 := r3.quiet q4
      refine he s3 ns hs σ3 G4 H4 r4 _ XOk.never _ _ h4' fun y rv G5 H5 q5 ry h5 => ?_
      have q25 := q24.tr q5
      have md5 := md.quiet tpn1 hD q25
      have md4 := md.quiet tpn1 hD q24
      refine ⟨ans.map N.val, md5.d, by rw [List.length_map]; omega, ?_⟩
      have hDH : ∀ b o, H1 b = some o → b ≠ D := fun b o hb z => by subst z; rw [hD] at hb; cases hb
      have q6 : Qs c G1 H1 G5 (upd H5 D (.lst (ans.map N.val ++ [y]))) := by
        have q15 := q'.tr q25
        refine ⟨q15.gg, fun b o hb => ?_, fun b o mt hb => ?_, q15.fr, fun t l xs e => ?_⟩
        · rw [upd_ne (ne_of_none hb md5.g)]; exact q15.gh b o hb
        · rw [upd_ne (hDH b o hb)]; exact q15.hh b o mt hb
        · obtain ⟨ne, hl', i', j', z0, z1, ht'⟩ := q15.tp t l xs e
          have n1 : t ≠ D := fun z => tpn1 t l xs e (by rw [z]; exact hD)
          have n2 : l ≠ D := fun z => tape_neL (rl1.tp t l xs e) (by rw [z]; exact hD)
          exact ⟨ne, by rw [upd_ne n2]; exact hl', i', j', z0, z1, by rw [upd_ne n1]; exact ht'⟩
      cases rv with
      | d dy =>
        refine ⟨G5, ans ++ [.d y dy], by simpa using al, q6, ⟨by rw [upd_same, List.map_append]; rfl, md5.g, fun x hx => ?_, fun l hl => ?_, ?_⟩, by simpa [eraseL_map, N.erase, oneV] using h5⟩
        · rw [cellsL_append] at hx
          simp only [cellsL, N.cells, List.append_nil] at hx
          obtain ⟨a1, a2, a3, a4⟩ := md5.o x hx
          exact ⟨by rw [upd_ne a4]; exact a1, a2, a3, a4⟩
        · rw [leavesL_append, List.mem_append] at hl
          rcases hl with hl | hl
          · exact md5.l l hl
          · simp only [leavesL, N.leaves, List.append_nil, List.mem_singleton] at hl
            subst hl; exact ry
        · rw [cellsL_append]
          simpa [cellsL, N.cells] using md5.n
      | new mm =>
        obtain ⟨n, g1, rfl, g3, g4, g5, g6⟩ := ry
        have nD : ∀ x ∈ n.cells cm, x.1 ≠ D := fun x hx z => by
          have := (g4 x hx).2.2
          rw [z, md4.d] at this; cases this
        have n1 : ∀ x ∈ n.cells cm, H1 x.1 = none := fun x hx => Classical.byContradiction fun z => by
          have := (q'.tr q24).th rl1.tp _ z
          exact this (g4 x hx).2.2
        refine ⟨G5, ans ++ [n], by simpa using al, q6, ⟨by rw [upd_same, List.map_append]; rfl, md5.g, fun x hx => ?_, fun l hl => ?_, ?_⟩, by simpa [eraseL_map, g1, oneV] using h5⟩
        · rw [cellsL_append, List.mem_append] at hx
          rcases hx with hx | hx
          · obtain ⟨a1, a2, a3, a4⟩ := md5.o x hx
            exact ⟨by rw [upd_ne a4]; exact a1, a2, a3, a4⟩
          · simp only [cellsL, List.append_nil] at hx
            exact ⟨by rw [upd_ne (nD x hx)]; exact (g4 x hx).1, (g4 x hx).2.1, n1 x hx, nD x hx⟩
        · rw [leavesL_append, List.mem_append] at hl
          rcases hl with hl | hl
          · exact md5.l l hl
          · exact g5 l (by simpa [leavesL] using hl)
        · rw [cellsL_append, List.map_append, List.nodup_append]
          refine ⟨md5.n, by simpa [cellsL] using g6, fun a ha b hb => ?_⟩
          rintro rfl
          obtain ⟨x, hx, rfl⟩ := List.mem_map.mp ha
          obtain ⟨y, hy, e⟩ := List.mem_map.mp hb
          simp only [cellsL, List.append_nil] at hy
          have := (g4 y hy).2.2
          rw [e, (md4.o x hx).1] at this; cases this
      | _ => exact h5.elim
  · have hei : i = items.length := by omega
    subst hei
    refine .inl ⟨(wk _ G' H' q'.gg rl'.ex).2 (Nat.le_refl _), ?_⟩
    refine q _ (.new (.nd .lst (eraseL ans))) G' H' (q1.tr q') ⟨.nd D D .lst ans, by simp [N.erase], rfl, trivial, fun x hx => ?_, fun l hl => md.l l (by simpa [N.leaves] using hl), ?_⟩ (ie _ hI)
    · have early : ∀ b, H1 b = none → H b = none := fun b hb => Classical.byContradiction fun z => q1.th rl.tp b z hb
      simp only [N.cells, hdO, List.mem_append, List.mem_singleton] at hx
      rcases hx with rfl | hx
      · exact ⟨md.d, md.g, early _ hD⟩
      · obtain ⟨a1, a2, a3, a4⟩ := md.o x hx
        exact ⟨a1, a2, early _ a3⟩
    · simp only [N.cells, hdO, List.map_append, List.map_cons, List.map_nil]
      rw [List.nodup_append]
      refine ⟨by simp, md.n, fun a ha b hb => ?_⟩
      simp only [List.mem_singleton] at ha
      obtain ⟨x, hx, rfl⟩ := List.mem_map.mp hb
      rw [ha]
      exact fun z => (md.o x hx).2.2.2 z.symm
def qYes : AQT := fun _ _ Q => Q true
theorem q_yes : AbsQT c W tYes qYes := fun s ns hs σ G H rl ex hx Qd Q h q => q true G H (.refl rl) h
end
end Fe

namespace Fe
open PySem L2 Fc
open scoped List
/-! ### what a def promises, by data -/
abbrev DsX := List Cl → List M → (RV → List M → Prop) → (Xc → List M → Prop) → Prop
section
variable {K : PySem.W.Frag} {cm : Nat → Addr}
/-- q: nothing that is handed in changes; st: nodes stay where they are -/
def spX (K : PySem.W.Frag) (cm : Nat → Addr) (q st : Bool) (f : DsX) : Sp := fun vs H Q E => ∃ (c : Cz K cm) (args : List Cl) (Qd : RV → List M → Prop) (Ed : Xc → List M → Prop), c.H0 = H ∧ c.lo = (if q = true then c.ns0.length else 0) ∧ c.st = st ∧
  Rl c ⟨args, eraseL c.ns0, []⟩ c.ns0 [] (vs.map some) c.G0 H ∧ f args (eraseL c.ns0) Qd Ed ∧
  (∀ v rv ns' G' H' Hs, Rl c ⟨[], eraseL ns', []⟩ ns' [] [] G' H' → ns'.length = c.ns0.length → Lt c ns' Hs → RvX c ns' Hs G' H' v rv → Qd rv (eraseL ns') → Q v H') ∧
  (∀ e dd ns' G' H', Rl c ⟨[], eraseL ns', []⟩ ns' [] [] G' H' → ns'.length = c.ns0.length → ExF K G' H' e dd → Ed e (eraseL ns') → E (.ref (cm e.cls)) dd H')
theorem spX_len {q st : Bool} {f : DsX} {n : Nat} (h : ∀ args ρ Qd Ed, f args ρ Qd Ed → args.length = n) {vs : List V} {H : Hp} {Q : VK} {E : XK} (x : spX K cm q st f vs H Q E) : vs.length = n := by
  obtain ⟨c, args, Qd, Ed, _, _, _, rl, hf, _⟩ := x
  have := rl.len
  rw [List.length_map] at this
  rw [this]; exact h _ _ _ _ hf
def startX (n : Nat) (args : List Cl) : List Cl := args ++ List.replicate (n - args.length) .un
def retX (n0 : Nat) (Qd : RV → List M → Prop) : RV → Sx → Prop
  | .d x, s => Qd (.d x) (s.r.take n0)
  | .at r p, s => if r < n0 then Qd (.at r p) (s.r.take n0) else p = [] ∧ ∃ m, s.r[r]? = some m ∧ Qd (.new m) (s.r.take n0)
  | .new m, s => Qd (.new m) (s.r.take n0)
  | _, _ => False
variable {c : Cz K cm} {W : WX} {s s' : Sx} {ns : List N} {hs : List V} {σ : St} {G H G' H' Hs G2 H2 : Hp}
theorem cells_take {n : Nat} {x : Addr × HO} (h : x ∈ cellsL cm (ns.take n)) : x ∈ cellsL cm ns := by
  obtain ⟨m, hm, hx⟩ := mem_cellsL.mp h
  exact mem_cellsL.mpr ⟨m, List.mem_of_mem_take hm, hx⟩
theorem take_perm (cm : Nat → Addr) (ns : List N) (n : Nat) : cellsL cm ns = cellsL cm (ns.take n) ++ cellsL cm (ns.drop n) := by
  rw [← cellsL_append, List.take_append_drop]
theorem Rl.trunc (rl : Rl c s ns hs σ G H) : Rl c ⟨[], eraseL (ns.take c.ns0.length), []⟩ (ns.take c.ns0.length) [] [] G H := by
  refine ⟨rfl, fun x hx => rl.ok x (cells_take hx), fun l hl => ?_, ?_, fun x hx => rl.gn x (cells_take hx), fun x hx => rl.nt x (cells_take hx), rl.ex, rl.gg, rl.fr, rl.hh, rl.tp, fun i n hn x hx => ?_, fun i h1 h2 => ?_, fun i n hn => ?_, rl.th, rl.tt, rfl, fun i x e => by simp at e, rfl, fun i x e => by simp at e⟩
  · obtain ⟨n, hn, hl⟩ := mem_leavesL.mp hl
    exact rl.lv l (mem_leavesL.mpr ⟨n, List.mem_of_mem_take hn, hl⟩)
  · have := rl.nd
    rw [take_perm cm ns c.ns0.length, List.map_append, List.nodup_append] at this
    exact this.1
  · rw [List.getElem?_take] at hn
    split at hn
    · exact rl.nw i n hn x hx
    · cases hn
  · rw [List.getElem?_take, if_pos h2]; exact rl.fx i h1 h2
  · have hi := (List.getElem?_eq_some_iff.mp hn).1
    rw [List.getElem?_take, if_pos hi]; exact rl.sb i n hn
theorem Rl.len0 (rl : Rl c s ns hs σ G H) : c.ns0.length ≤ ns.length := by
  cases hn : c.ns0.length with
  | zero => exact Nat.zero_le _
  | succ k =>
    have hk : k < c.ns0.length := by omega
    obtain ⟨n', e, _⟩ := rl.sb k c.ns0[k] (List.getElem?_eq_getElem hk)
    have := (List.getElem?_eq_some_iff.mp e).1
    omega
theorem ret_ok (rl : Rl c s ns hs σ G H) (lt : Lt c ns Hs) {v : V} {rv : RV} (x : RvX c ns Hs G H v rv) {Qd : RV → List M → Prop} (h : retX c.ns0.length Qd rv s) :
    ∃ rv' Hs', Lt c (ns.take c.ns0.length) Hs' ∧ RvX c (ns.take c.ns0.length) Hs' G H v rv' ∧ Qd rv' (eraseL (ns.take c.ns0.length)) := by
  have er : s.r.take c.ns0.length = eraseL (ns.take c.ns0.length) := by rw [← rl.er, eraseL_map, eraseL_map, List.map_take]
  have lt' : Lt c (ns.take c.ns0.length) Hs := ⟨lt.z, fun x hx => lt.n x (cells_take hx)⟩
  cases rv with
  | d y => exact ⟨.d y, Hs, lt', x, by rw [← er]; exact h⟩
  | new m => exact ⟨.new m, Hs, lt', x, by rw [← er]; exact h⟩
  | exc e => exact h.elim
  | tape => exact h.elim
  | «at» r p =>
    simp only [retX] at h
    split at h
    · rename_i hr
      obtain ⟨n, h1, h2, h3⟩ := x
      refine ⟨.at r p, Hs, lt', ⟨n, ?_, h2, h3⟩, by rw [← er]; exact h⟩
      unfold subL at h1 ⊢
      rw [List.getElem?_take, if_pos hr]; exact h1
    · rename_i hr
      obtain ⟨rfl, m, hm, h⟩ := h
      obtain ⟨n, h1, h2, rfl⟩ := x
      rw [← rl.er, eraseL_map, List.getElem?_map] at hm
      unfold subL at h1
      cases hn : ns[r]? with
      | none => rw [hn] at h1; cases h1
      | some n0 =>
        rw [hn] at h1 hm
        have e : n0 = n := by cases n0 <;> simpa [N.sub] using h1
        subst e
        obtain rfl := Option.some.inj hm
        obtain ⟨R, f1, f2⟩ := cellsL_at cm ns r n0 hn
        have inN : ∀ x ∈ n0.cells cm, x ∈ cellsL cm ns := fun x hx => f1.mem_iff.mpr (List.mem_append.mpr (.inl hx))
        have nd := (f1.map (·.1)).nodup_iff.mp rl.nd
        rw [List.map_append, List.nodup_append] at nd
        have new : ∀ x ∈ n0.cells cm, c.H0 x.1 = none := fun x hx => by
          rcases rl.nw r n0 hn x hx with z | ⟨m, z, _⟩
          · exact z
          · have := (List.getElem?_eq_some_iff.mp z).1
            omega
        -- the heap without the tree that is handed back
        refine ⟨.new n0.erase, fun b => if b ∈ (n0.cells cm).map (·.1) then none else H b, ⟨fun b hb => ?_, fun x hx => ?_⟩, ⟨n0, rfl, rfl, h2, fun x hx => ⟨rl.ok x (inN x hx), rl.gn x (inN x hx), if_pos (List.mem_map.mpr ⟨x, hx, rfl⟩)⟩, fun l hl => rl.lv l (mem_leavesL.mpr ⟨n0, List.mem_of_getElem? hn, hl⟩), nd.1⟩, by rw [← er]; exact h⟩
        · by_cases hm : b ∈ (n0.cells cm).map (·.1)
          · obtain ⟨x, hx, rfl⟩ := List.mem_map.mp hm
            exact new x hx
          · rw [if_neg hm] at hb
            exact rl.lt.z b hb
        · have hx2 : x ∈ R := by
            obtain ⟨m, hm, hx'⟩ := mem_cellsL.mp hx
            obtain ⟨j, hj⟩ := List.getElem?_of_mem hm
            rw [List.getElem?_take] at hj
            split at hj
            · rename_i hlt
              have hset : cellsL cm (ns.set r (.gone .non)) ~ R := by simpa [N.cells] using f2 (.gone .non)
              exact hset.mem_iff.mp (mem_cellsL.mpr ⟨m, List.mem_of_getElem? (i := j) (by rw [List.getElem?_set, if_neg (by omega)]; exact hj), hx'⟩)
            · cases hj
          rw [if_neg fun hm => nd.2.2 x.1 hm x.1 (List.mem_map.mpr ⟨x, hx2, rfl⟩) rfl, rl.ok x (cells_take hx)]
          exact fun z => nomatch z
/-- room for trees of one's own, and for the other names -/
theorem Rl.extend {vs : List V} {args : List Cl} {ρ : List M} {Nm : List Str} {m : Nat} (rl : Rl c ⟨args, ρ, []⟩ ns [] (vs.map some) G H) (hn : ns.length = c.ns0.length) : Rl c ⟨startX Nm.length args, ρ ++ List.replicate m .gone, []⟩ (ns ++ List.replicate m (.gone .non)) [] (L2.start Nm vs) G H := by
  have hl : vs.length = args.length := by have h := rl.len; rw [List.length_map] at h; exact h
  have cz : ∀ m, cellsL cm (List.replicate m (.gone .non)) = [] := fun m => by
    induction m with
    | zero => rfl
    | succ m ih => rw [List.replicate_succ, cellsL, ih]; rfl
  have lz : ∀ m, leavesL (List.replicate m (.gone .non)) = [] := fun m => by
    induction m with
    | zero => rfl
    | succ m ih => rw [List.replicate_succ, leavesL, ih]; rfl
  have ez : ∀ m, eraseL (List.replicate m (.gone .non)) = List.replicate m .gone := fun m => by
    rw [eraseL_map, List.map_replicate]; rfl
  have ce : cellsL cm (ns ++ List.replicate m (.gone .non)) = cellsL cm ns := by rw [cellsL_append, cz, List.append_nil]
  have get : ∀ (i : Nat), i < c.ns0.length → (ns ++ List.replicate m (.gone .non))[i]? = ns[i]? := fun i hi => by rw [List.getElem?_append_left (by omega)]
  have sub : ∀ r p n, subL ns r p = some n → subL (ns ++ List.replicate m (.gone .non)) r p = some n := fun r p n h => by
    unfold subL at h ⊢
    cases hr : ns[r]? with
    | none => rw [hr] at h; cases h
    | some n0 => rw [List.getElem?_append_left (List.getElem?_eq_some_iff.mp hr).1, hr]; rw [hr] at h; exact h
  refine ⟨?_, by rw [ce]; exact rl.ok, fun l hl => rl.lv l (by rw [leavesL_append, lz, List.append_nil] at hl; exact hl), by rw [ce]; exact rl.nd, by rw [ce]; exact rl.gn, by rw [ce]; exact rl.nt, rl.ex, rl.gg, rl.fr, rl.hh, rl.tp, fun i n hn' x hx => ?_, fun i h1 h2 => ?_, fun i n hn' => ?_, rl.th, rl.tt, ?_, fun j x e => ?_, rfl, fun j x e => by simp at e⟩
  · rw [eraseL_map, List.map_append, ← eraseL_map, ← eraseL_map, ez, rl.er]
  · by_cases hi : i < ns.length
    · rw [List.getElem?_append_left hi] at hn'; exact rl.nw i n hn' x hx
    · rw [List.getElem?_append_right (by omega), List.getElem?_replicate] at hn'
      split at hn'
      · cases hn'; simp [N.cells] at hx
      · cases hn'
  · rw [get i h2]; exact rl.fx i h1 h2
  · rw [get i (List.getElem?_eq_some_iff.mp hn').1]; exact rl.sb i n hn'
  · unfold startX L2.start
    rw [List.length_append, List.length_append, List.length_map, List.length_replicate, List.length_replicate, hl]
  · unfold startX at e
    unfold L2.start
    by_cases hj : j < args.length
    · rw [List.getElem?_append_left hj] at e
      obtain ⟨o, h1, h2⟩ := rl.cell j x e
      refine ⟨o, by rw [List.getElem?_append_left (by rw [List.length_map, hl]; exact hj)]; exact h1, ?_⟩
      cases x with
      | «at» r p => obtain ⟨n, h3, h4, h5⟩ := h2; exact ⟨n, sub r p n h3, h4, h5⟩
      | _ => exact h2
    · rw [List.getElem?_append_right (by omega), List.getElem?_replicate] at e
      split at e
      · cases e
        rename_i hlt
        exact ⟨none, by rw [List.getElem?_append_right (by rw [List.length_map, hl]; omega), List.length_map, hl, List.getElem?_replicate, if_pos hlt], trivial⟩
      · cases e
/-- a def by its body -/
theorem body_X {q st : Bool} {f : DsX} {Nm : List Str} {n0 m : Nat} {vs : List V} {H : Hp} {Q : VK} {E : XK} {t : TS} {a : AZ}
    (hA : ∀ c : Cz K cm, c.ns0.length = n0 → c.lo = (if q = true then n0 else 0) → c.st = st → AbsZ c (fun cls d _ H => E cls d H) t a)
    (hd : ∀ args ρ Qd Ed, f args ρ Qd Ed → ρ.length = n0 ∧ a { nx := fun s => Qd (.d .none) (s.r.take n0), rt := retX n0 Qd, ex := fun e s => Ed e (s.r.take n0) } ⟨startX Nm.length args, ρ ++ List.replicate m .gone, []⟩)
    (h : spX K cm q st f vs H Q E) : t { nx := fun _ H' => Q .non H', rt := Q } (L2.start Nm vs) H := by
  obtain ⟨c, args, Qd, Ed, e0, e1, e2, rl, hf, hq, he⟩ := h
  obtain ⟨hl, hv⟩ := hd args _ Qd Ed hf
  have hn : c.ns0.length = n0 := by rw [eraseL_map, List.length_map] at hl; exact hl
  have tk : ∀ {s : Sx} {ns : List N} {hs : List V} {σ : St} {G H : Hp}, Rl c s ns hs σ G H → s.r.take n0 = eraseL (ns.take c.ns0.length) := fun r => by rw [← r.er, ← hn, eraseL_map, eraseL_map, List.map_take]
  have tl : ∀ {s : Sx} {ns : List N} {hs : List V} {σ : St} {G H : Hp}, Rl c s ns hs σ G H → (ns.take c.ns0.length).length = c.ns0.length := fun r => by rw [List.length_take, Nat.min_eq_left r.len0]
  refine hA c hn (by rw [← hn]; exact e1) e2 _ _ [] _ c.G0 H (rl.extend (Nm := Nm) (m := m) rfl) _ _ hv ⟨fun s ns hs σ G H r _ z => ?_, fun v rv s ns hs σ G H Hs r lt x z => ?_, fun _ _ _ _ _ _ _ _ z => z.elim, fun _ _ _ _ _ _ _ _ z => z.elim, fun e s ns hs σ G H r _ z dd hx => ?_⟩
  · have z' : Qd (.d .none) (s.r.take n0) := z
    rw [tk r] at z'
    exact hq .non (.d .none) _ G H H r.trunc (tl r) r.trunc.lt .non z'
  · rw [← hn] at z
    obtain ⟨rv', Hs', h1, h2, h3⟩ := ret_ok r lt x z
    exact hq v rv' _ G H Hs' r.trunc (tl r) h1 h2 h3
  · have z' : Ed e (s.r.take n0) := z
    rw [tk r] at z'
    exact he e dd _ G H r.trunc (tl r) hx z'
end
end Fe

namespace Fe
open PySem L2 Fc
open scoped List
/-! ### calls -/
def setAll {α : Type} : List α → List Nat → List α → List α
  | ns, [], _ => ns
  | ns, _ :: _, [] => ns
  | ns, r :: rs, n :: ns' => setAll (ns.set r n) rs ns'
theorem setAll_len {α : Type} : ∀ (rs : List Nat) (ns ns' : List α), (setAll ns rs ns').length = ns.length
  | [], _, _ => by rw [setAll]
  | _ :: _, _, [] => by rw [setAll]
  | r :: rs, ns, n :: ns' => by rw [setAll, setAll_len rs, List.length_set]
theorem setAll_off {α : Type} : ∀ (rs : List Nat) (ns ns' : List α) (i : Nat), i ∉ rs → (setAll ns rs ns')[i]? = ns[i]?
  | [], _, _, _, _ => by rw [setAll]
  | _ :: _, _, [], _, _ => by rw [setAll]
  | r :: rs, ns, n :: ns', i, h => by
    simp only [List.mem_cons, not_or] at h
    rw [setAll, setAll_off rs _ _ i h.2, List.getElem?_set, if_neg (fun z => h.1 z.symm)]
theorem setAll_at {α : Type} : ∀ (rs : List Nat) (ns ns' : List α) (j r : Nat), rs.Nodup → ns'.length = rs.length → (∀ r ∈ rs, r < ns.length) → rs[j]? = some r → (setAll ns rs ns')[r]? = ns'[j]?
  | [], _, _, j, r, _, _, _, h => by simp at h
  | r0 :: rs, ns, [], j, r, nd, hl, hb, h => by simp at hl
  | r0 :: rs, ns, n :: ns', j, r, nd, hl, hb, h => by
    rw [List.nodup_cons] at nd
    cases j with
    | zero =>
      simp only [List.getElem?_cons_zero, Option.some.injEq] at h
      subst h
      rw [setAll, setAll_off rs _ _ _ nd.1, List.getElem?_set, if_pos rfl, if_pos (hb _ List.mem_cons_self)]; rfl
    | succ j =>
      rw [setAll, setAll_at rs _ ns' j r nd.2 (by simpa using hl) (fun r hr => by rw [List.length_set]; exact hb r (List.mem_cons_of_mem _ hr)) (by simpa using h)]; rfl
theorem setAll_comm {α : Type} : ∀ (rs : List Nat) (ns ns' : List α) (r : Nat) (n : α), r ∉ rs → setAll (ns.set r n) rs ns' = (setAll ns rs ns').set r n
  | [], _, _, _, _, _ => by rw [setAll, setAll]
  | _ :: _, _, [], _, _, _ => by rw [setAll, setAll]
  | r0 :: rs, ns, n0 :: ns', r, n, h => by
    simp only [List.mem_cons, not_or] at h
    rw [setAll, setAll, List.set_comm _ _ (fun z => h.1 z), setAll_comm rs _ _ _ _ h.2]
theorem setAll_cells (cm : Nat → Addr) : ∀ (rs : List Nat) (ns ns' : List N), rs.Nodup → ns'.length = rs.length → (∀ r ∈ rs, r < ns.length) → cellsL cm (setAll ns rs ns') ~ cellsL cm ns' ++ cellsL cm (setAll ns rs (List.replicate rs.length (.gone .non)))
  | [], ns, [], _, _, _ => by simp [setAll, cellsL]
  | [], ns, _ :: _, _, h, _ => by simp at h
  | r :: rs, ns, [], _, h, _ => by simp at h
  | r :: rs, ns, n :: ns', nd, hl, hb => by
    rw [List.nodup_cons] at nd
    have hb' : ∀ m : N, ∀ r' ∈ rs, r' < (ns.set r m).length := fun m r' hr => by rw [List.length_set]; exact hb r' (List.mem_cons_of_mem _ hr)
    have ih := setAll_cells cm rs (ns.set r n) ns' nd.2 (by simpa using hl) (hb' n)
    have hr := hb r List.mem_cons_self
    have e0 : (setAll ns rs (List.replicate rs.length (N.gone .non)))[r]? = some ns[r] := by rw [setAll_off rs _ _ r nd.1, List.getElem?_eq_getElem hr]
    obtain ⟨R, f1, f2⟩ := cellsL_at cm _ r _ e0
    have e1 := setAll_comm rs ns ns' r n nd.1
    have e2 := setAll_comm rs ns (List.replicate rs.length (N.gone .non)) r n nd.1
    have e3 := setAll_comm rs ns (List.replicate rs.length (N.gone .non)) r (.gone .non) nd.1
    show cellsL cm (setAll (ns.set r n) rs ns') ~ (n.cells cm ++ cellsL cm ns') ++ cellsL cm (setAll (ns.set r (.gone .non)) rs (List.replicate rs.length (.gone .non)))
    have g1 := f2 n
    have g2 := f2 (.gone .non)
    simp only [N.cells, List.nil_append] at g2
    rw [e2] at ih
    rw [e3]
    refine ih.trans ?_
    refine (List.Perm.append_left _ g1).trans ?_
    refine List.Perm.trans ?_ (List.Perm.append_left _ g2.symm)
    rw [← List.append_assoc]
    exact List.Perm.append_right _ List.perm_append_comm
theorem setAll_self {α : Type} : ∀ (rs : List Nat) (ns ns' : List α), rs.map (ns[·]?) = ns'.map some → setAll ns rs ns' = ns
  | [], _, _, _ => by rw [setAll]
  | _ :: _, _, [], _ => by rw [setAll]
  | r :: rs, ns, n :: ns', h => by
    simp only [List.map_cons, List.cons.injEq] at h
    have e : ns.set r n = ns := by
      apply List.ext_getElem?
      intro j
      rw [List.getElem?_set]
      split
      · rename_i q; subst q
        rw [if_pos (List.getElem?_eq_some_iff.mp h.1).1, h.1]
      · rfl
    rw [setAll, e]
    exact setAll_self rs ns ns' h.2
def rootsOf : List RV → List Nat → List Nat
  | [], acc => acc
  | .at r _ :: t, acc => rootsOf t (if acc.contains r then acc else acc ++ [r])
  | _ :: t, acc => rootsOf t acc
theorem roots_nd : ∀ (l : List RV) (acc : List Nat), acc.Nodup → (rootsOf l acc).Nodup
  | [], acc, h => h
  | .at r p :: t, acc, h => by
    simp only [rootsOf]
    refine roots_nd t _ ?_
    split
    · exact h
    · rename_i hc
      rw [List.nodup_append]
      refine ⟨h, by simp, fun a ha b hb => ?_⟩
      simp only [List.mem_singleton] at hb
      subst hb
      rintro rfl
      exact hc (by simpa using ha)
  | .d _ :: t, acc, h => roots_nd t acc h
  | .new _ :: t, acc, h => roots_nd t acc h
  | .exc _ :: t, acc, h => roots_nd t acc h
  | .tape :: t, acc, h => roots_nd t acc h
theorem roots_in : ∀ (l : List RV) (acc : List Nat) (r : Nat), r ∈ rootsOf l acc → r ∈ acc ∨ ∃ p, RV.at r p ∈ l
  | [], acc, r, h => .inl h
  | .at r0 p :: t, acc, r, h => by
    simp only [rootsOf] at h
    rcases roots_in t _ r h with h | ⟨p', h⟩
    · split at h
      · exact .inl h
      · rcases List.mem_append.mp h with h | h
        · exact .inl h
        · simp only [List.mem_singleton] at h
          subst h
          exact .inr ⟨p, List.mem_cons_self⟩
    · exact .inr ⟨p', List.mem_cons_of_mem _ h⟩
  | .d _ :: t, acc, r, h => by
    rcases roots_in t acc r h with h | ⟨p, h⟩
    · exact .inl h
    · exact .inr ⟨p, List.mem_cons_of_mem _ h⟩
  | .new _ :: t, acc, r, h => by
    rcases roots_in t acc r h with h | ⟨p, h⟩
    · exact .inl h
    · exact .inr ⟨p, List.mem_cons_of_mem _ h⟩
  | .exc _ :: t, acc, r, h => by
    rcases roots_in t acc r h with h | ⟨p, h⟩
    · exact .inl h
    · exact .inr ⟨p, List.mem_cons_of_mem _ h⟩
  | .tape :: t, acc, r, h => by
    rcases roots_in t acc r h with h | ⟨p, h⟩
    · exact .inl h
    · exact .inr ⟨p, List.mem_cons_of_mem _ h⟩
def argOf (rs : List Nat) : RV → Option Cl
  | .d x => some (.d x)
  | .at r p => (match ixK rs r with | some j => some (.at j p) | none => none)
  | .exc e => some (.exc e)
  | .tape => some .tape
  | .new _ => none
def argsOf (rs : List Nat) : List RV → Option (List Cl)
  | [] => some []
  | x :: t => (match argOf rs x with | some a => (match argsOf rs t with | some as => some (a :: as) | none => none) | none => none)
def retRV (rs : List Nat) : RV → RV
  | .at j p => (match rs[j]? with | some r => .at r p | none => .tape)
  | x => x
def killB (st : Bool) (rs : List Nat) : Cl → Cl
  | .at r p => if st = true ∨ r ∉ rs ∨ p = [] then .at r p else .un
  | x => x
abbrev killHB := killB
def Sx.after (s : Sx) (st : Bool) (rs : List Nat) (ρ : List M) : Sx := ⟨s.e.map (killB st rs), setAll s.r rs ρ, s.h.map (killHB st rs)⟩
def rootsM (ms : List M) (rs : List Nat) : List M := rs.map fun r => ms.getD r .gone
theorem ixK_some {κ : Type} [DecidableEq κ] : ∀ (ks : List κ) (k : κ) (j : Nat), ixK ks k = some j → ks[j]? = some k
  | [], k, j, h => by simp [ixK] at h
  | g :: ks, k, j, h => by
    unfold ixK at h
    rw [List.findIdx?_cons] at h
    by_cases q : g = k
    · subst q
      simp at h
      subst h; rfl
    · simp only [q, decide_false, Bool.false_eq_true, if_false] at h
      cases hk : List.findIdx? (fun x => decide (x = k)) ks with
      | none => rw [hk] at h; simp at h
      | some i =>
        rw [hk] at h
        simp at h
        subst h
        simpa using ixK_some ks k i hk
section
variable {K : PySem.W.Frag} {cm : Nat → Addr} {c : Cz K cm} {W : WX} {s s' : Sx} {ns : List N} {hs : List V} {σ : St} {G H G' H' Hs G2 H2 : Hp}
theorem subL_at {rs : List Nat} {ns' : List N} {j r : Nat} {p : Pt} (nd : rs.Nodup) (hl : ns'.length = rs.length) (hb : ∀ r ∈ rs, r < ns.length) (h : rs[j]? = some r) : subL (setAll ns rs ns') r p = subL ns' j p := by
  unfold subL
  rw [setAll_at rs ns ns' j r nd hl hb h]
/-- the state of a callee -/
def callee (rl : Rl c s ns hs σ G H) (lo : Nat) (st : Bool) (nsr : List N) : Cz K cm := ⟨c.tp, G, H, nsr, lo, st, fun _ _ => False, rl.ex, fun t l xs e => ⟨rl.tp t l xs e, rl.fr t (c.tp0 t l xs e).2.1 (tape_ne (c.tp0 t l xs e).1), rl.fr l (c.tp0 t l xs e).2.2 (tape_neL (c.tp0 t l xs e).1)⟩⟩
theorem callee_rl (rl : Rl c s ns hs σ G H) {lo : Nat} {st : Bool} {rs : List Nat} {nsr : List N} {vs : List V} {rvs : List RV} {args : List Cl} (nd : rs.Nodup) (hn : rs.map (ns[·]?) = nsr.map some) (x : RvXs c ns Hs G H vs rvs) (ha : argsOf rs rvs = some args) : Rl (callee rl lo st nsr) ⟨args, eraseL nsr, []⟩ nsr [] (vs.map some) G H := by
  have hl : nsr.length = rs.length := by have := congrArg List.length hn; simpa using this.symm
  have get : ∀ (j r : Nat), rs[j]? = some r → ns[r]? = nsr[j]? ∧ ∃ n, ns[r]? = some n := fun j r h => by
    have := congrArg (·[j]?) hn
    simp only [List.getElem?_map, h, Option.map_some] at this
    cases hj : nsr[j]? with
    | none => rw [hj] at this; cases this
    | some n => rw [hj] at this; exact ⟨Option.some.inj this, n, Option.some.inj this⟩
  have hb : ∀ r ∈ rs, r < ns.length := fun r hr => by
    obtain ⟨j, hj⟩ := List.getElem?_of_mem hr
    obtain ⟨_, n, hn⟩ := get j r hj
    exact (List.getElem?_eq_some_iff.mp hn).1
  have P : cellsL cm ns ~ cellsL cm nsr ++ cellsL cm (setAll ns rs (List.replicate rs.length (.gone .non))) := by
    have := setAll_cells cm rs ns nsr nd hl hb
    rwa [setAll_self rs ns nsr hn] at this
  have inn : ∀ x ∈ cellsL cm nsr, x ∈ cellsL cm ns := fun x hx => P.mem_iff.mpr (List.mem_append.mpr (.inl hx))
  have ndr := (P.map (·.1)).nodup_iff.mp rl.nd
  rw [List.map_append, List.nodup_append] at ndr
  have memr : ∀ n ∈ nsr, n ∈ ns := fun n hm => by
    have : some n ∈ rs.map (ns[·]?) := by rw [hn]; exact List.mem_map.mpr ⟨n, hm, rfl⟩
    obtain ⟨r, _, e⟩ := List.mem_map.mp this
    exact List.mem_of_getElem? e
  refine ⟨rfl, fun x hx => rl.ok x (inn x hx), fun l hl => ?_, ndr.1, fun x hx => rl.gn x (inn x hx), fun x hx => rl.nt x (inn x hx), rl.ex, Ex.refl _, fun b g _ => g, fun b o _ h => h, rl.tp, fun i n hn x hx => .inr ⟨n, hn, List.mem_map.mpr ⟨x, hx, rfl⟩⟩, fun _ _ _ => rfl, fun i n hn => ⟨n, hn, rfl, fun h => h, fun _ => Stab.refl n⟩, fun b h => h, fun b xs h => h.elim id False.elim, ?_, fun j y e => ?_, rfl, fun j y e => by simp at e⟩
  · obtain ⟨n, hn, hl⟩ := mem_leavesL.mp hl
    exact rl.lv l (mem_leavesL.mpr ⟨n, memr n hn, hl⟩)
  · show (vs.map some).length = args.length
    rw [List.length_map]
    clear P inn ndr memr hb get hl hn
    induction x generalizing args with
    | nil => simp only [argsOf, Option.some.injEq] at ha; subst ha; rfl
    | cons a _ ih =>
      simp only [argsOf] at ha
      split at ha
      · split at ha
        · rename_i as has
          cases ha
          rw [List.length_cons, List.length_cons, ih has]
        · cases ha
      · cases ha
  · show ∃ o, (vs.map some)[j]? = some o ∧ _
    have e' : args[j]? = some y := e
    clear e P inn ndr memr
    induction x generalizing args j with
    | nil => simp only [argsOf, Option.some.injEq] at ha; subst ha; simp at e'
    | @cons v vs rv rvs a _ ih =>
      simp only [argsOf] at ha
      split at ha
      · rename_i a0 ha0
        split at ha
        · rename_i as has
          cases ha
          cases j with
          | zero =>
            simp only [List.getElem?_cons_zero, Option.some.injEq] at e'
            subst e'
            refine ⟨some v, rfl, ?_⟩
            cases rv with
            | d x => cases ha0; exact ⟨v, rfl, a⟩
            | «at» r p =>
              simp only [argOf] at ha0
              split at ha0
              · rename_i j hj
                cases ha0
                obtain ⟨n, h1, h2, rfl⟩ := a
                refine ⟨n, ?_, h2, rfl⟩
                unfold subL at h1 ⊢
                rw [← (get j r (ixK_some rs r j hj)).1]; exact h1
              · cases ha0
            | exc e => cases ha0; obtain ⟨a', rfl, h⟩ := a; exact ⟨a', rfl, h⟩
            | tape => cases ha0; obtain ⟨t, l, xs, h1, rfl⟩ := a; exact ⟨t, l, xs, h1, rfl⟩
            | new m => cases ha0
          | succ j => exact ih has j (by simpa using e')
        · cases ha
      · cases ha
theorem roots_get (rl : Rl c s ns hs σ G H) {rvs : List RV} {vs : List V} (x : RvXs c ns Hs G H vs rvs) : ∃ nsr : List N, (rootsOf rvs []).map (ns[·]?) = nsr.map some ∧ eraseL nsr = rootsM s.r (rootsOf rvs []) := by
  have all : ∀ r ∈ rootsOf rvs [], ∃ n, ns[r]? = some n := fun r hr => by
    rcases roots_in rvs [] r hr with h | ⟨p, h⟩
    · simp at h
    · clear hr
      induction x with
      | nil => simp at h
      | @cons v vs rv rvs a _ ih =>
        rcases List.mem_cons.mp h with rfl | h
        · obtain ⟨n, h1, _⟩ := a
          unfold subL at h1
          cases hn : ns[r]? with
          | none => rw [hn] at h1; cases h1
          | some n0 => exact ⟨n0, rfl⟩
        · exact ih h
  generalize rootsOf rvs [] = rs at all
  induction rs with
  | nil => exact ⟨[], rfl, rfl⟩
  | cons r rs ih =>
    obtain ⟨n, hn⟩ := all r List.mem_cons_self
    obtain ⟨nsr, h1, h2⟩ := ih fun r hr => all r (List.mem_cons_of_mem _ hr)
    refine ⟨n :: nsr, by simp [hn, h1], ?_⟩
    simp only [eraseL, h2, rootsM, List.map_cons]
    congr 1
    rw [List.getD_eq_getElem?_getD, ← rl.er, eraseL_map, List.getElem?_map, hn]; rfl
theorem exRv {c' : Cz K cm} {e : Xc} {a : Addr} (h : ExAt c' G H e a) : ExAt c G H e a := h
/-- a call that changes nothing -/
def qCallG (g : XEx → XEx) (f : DsX) (r : AQA) : AQ := fun ex s Q => r ex s fun rvs => ∃ args, argsOf (rootsOf rvs []) rvs = some args ∧ f args (rootsM s.r (rootsOf rvs [])) (fun rv _ => Q (retRV (rootsOf rvs []) rv)) (fun e _ => g ex e s)
abbrev qCall (f : DsX) (r : AQA) : AQ := qCallG (fun ex => ex) f r
/-- .. where nothing may be raised -/
abbrev qCallN (f : DsX) (r : AQA) : AQ := qCallG (fun _ _ _ => False) f r
/-- what is wanted of what a callee raises -/
def Wants (c : Cz K cm) (W : WX) (g : XEx → XEx) (E : St → XK) : Prop := ∀ ex Gx, XOk c W Gx ex → ∀ e s ns hs σ G H, Rl c s ns hs σ G H → Ex Gx G → g ex e s → ∀ dd, ExF K G H e dd → E σ (.ref (cm e.cls)) dd H
theorem wants_all : Wants c W (fun ex => ex) (fun σ cls d H => W cls d σ H) := fun ex Gx hx e s ns hs σ G H rl hg h dd hd => hx e s ns hs σ G H rl hg h dd hd
theorem wants_none {E : St → XK} : Wants c W (fun _ _ _ => False) E := fun _ _ _ _ _ _ _ _ _ _ _ _ h => h.elim
theorem q_call_core {st : Bool} {f : DsX} {g : XEx → XEx} {tr : TA} {ar : AQA} {E : St → XK} (hE : Wants c W g E) (hr : AbsQA c W tr ar) : AbsQ c W (fun σ H Q => tr σ H fun vs H1 => spX K cm true st f vs H1 Q (E σ)) (qCallG g f ar) := by
  intro s ns hs σ G H rl ex hx Qd Q h q
  refine hr s ns hs σ G H rl ex hx _ _ h fun vs rvs G1 H1 q1 r1 h1 => ?_
  obtain ⟨args, ha, hf⟩ := h1
  have rl1 := rl.quiet q1
  obtain ⟨nsr, hn, hm⟩ := roots_get rl1 r1
  have nd := roots_nd rvs [] (by simp)
  have hl : nsr.length = (rootsOf rvs []).length := by have := congrArg List.length hn; simpa using this.symm
  have qs : ∀ {ns' : List N} {G' H' : Hp}, Rl (callee rl1 nsr.length st nsr) ⟨[], eraseL ns', []⟩ ns' [] [] G' H' → Qs c G1 H1 G' H' := fun r => ⟨r.gg, r.ex, fun b o mt hb => r.hh b o (fun m => by
      rcases m with ⟨l, xs, e⟩ | ⟨i, n, h1, h2, _⟩
      · exact mt l xs e
      · have := (List.getElem?_eq_some_iff.mp h2).1
        exact absurd h1 (by show ¬ nsr.length ≤ i; exact Nat.not_le.mpr this)) hb, fun b g hb => r.fr b g hb, r.tp⟩
  have same : ∀ {ns' : List N} {G' H' : Hp}, Rl (callee rl1 nsr.length st nsr) ⟨[], eraseL ns', []⟩ ns' [] [] G' H' → ns'.length = nsr.length → ns' = nsr := fun {ns'} _ _ r e => by
    apply List.ext_getElem?
    intro i
    by_cases hi : i < nsr.length
    · exact r.fx i hi hi
    · rw [List.getElem?_eq_none (by omega), List.getElem?_eq_none (by omega)]
  refine ⟨callee rl1 nsr.length st nsr, args, fun rv _ => Qd (retRV (rootsOf rvs []) rv), fun e _ => g ex e s, rfl, (if_pos rfl).symm, rfl, callee_rl rl1 nd hn r1 ha, by show f args (eraseL nsr) _ _; rw [hm]; exact hf, fun v rv ns' G' H' Hs' r' el lt' x' hq => ?_, fun e dd ns' G' H' r' el hd hq => ?_⟩
  · have e := same r' el
    subst e
    have q2 := qs r'
    refine q v _ G' H' (q1.tr q2) ?_ hq
    cases rv with
    | d y => exact x'
    | «at» j p =>
      obtain ⟨n, h1, h2, h3⟩ := x'
      have hj : j < ns'.length := by
        unfold subL at h1
        cases hj : ns'[j]? with
        | none => rw [hj] at h1; cases h1
        | some n0 => exact (List.getElem?_eq_some_iff.mp hj).1
      have hj2 := List.getElem?_eq_getElem (show j < (rootsOf rvs []).length by omega)
      simp only [retRV, hj2]
      refine ⟨n, ?_, h2, h3⟩
      have g := congrArg (·[j]?) hn
      simp only [List.getElem?_map, hj2, Option.map_some] at g
      unfold subL at h1 ⊢
      cases hj3 : ns'[j]? with
      | none => rw [hj3] at h1; cases h1
      | some n0 => rw [hj3] at h1 g; rw [Option.some.inj g]; exact h1
    | new m =>
      obtain ⟨n, h1, h2, h3, h4, h5, h6⟩ := x'
      exact ⟨n, h1, h2, h3, fun x hx => ⟨(h4 x hx).1, (h4 x hx).2.1, Classical.byContradiction fun z => q1.th rl.tp _ z (lt'.z _ (h4 x hx).2.2)⟩, h5, h6⟩
    | exc e => obtain ⟨a, h1, h2⟩ := x'; exact ⟨a, h1, h2⟩
    | tape => exact x'
  · have q2 := qs r'
    exact hE ex G hx e s ns hs σ G' H' (rl1.quiet q2) (q1.gg.trans q2.gg) hq dd hd
theorem q_call {st : Bool} {f : DsX} {tr : TA} {ar : AQA} (hr : AbsQA c W tr ar) : AbsQ c W (tCallSD (spX K cm true st f) [] (fun σ cls d H => W cls d σ H) tr) (qCall f ar) := by
  have h := q_call_core (st := st) (f := f) wants_all hr
  unfold tCallSD
  simp only [List.append_nil]
  exact h
theorem q_callN {st : Bool} {f : DsX} {tr : TA} {ar : AQA} {E : XK} (hr : AbsQA c W tr ar) : AbsQ c W (tCall (spX K cm true st f) [] E tr) (qCallN f ar) := by
  have h := q_call_core (st := st) (f := f) (wants_none (E := fun _ => E)) hr
  unfold tCall
  simp only [List.append_nil]
  exact h
/-! ### a call that changes things -/
theorem Rl.after (rl : Rl c s ns hs σ G H) {st : Bool} {rs : List Nat} {nsr ns' : List N} (nd : rs.Nodup) (hn : rs.map (ns[·]?) = nsr.map some) (hlo : ∀ r ∈ rs, c.lo ≤ r) (hst : st = true ∨ c.st = false)
    (r' : Rl (callee rl 0 st nsr) ⟨[], eraseL ns', []⟩ ns' [] [] G' H') (hl' : ns'.length = nsr.length) : Rl c (s.after st rs (eraseL ns')) (setAll ns rs ns') hs σ G' H' := by
  have hl : nsr.length = rs.length := by have := congrArg List.length hn; simpa using this.symm
  have get : ∀ (j r : Nat), rs[j]? = some r → ∃ n, ns[r]? = some n ∧ nsr[j]? = some n := fun j r h => by
    have := congrArg (·[j]?) hn
    simp only [List.getElem?_map, h, Option.map_some] at this
    cases hj : nsr[j]? with
    | none => rw [hj] at this; cases this
    | some n => rw [hj] at this; exact ⟨n, Option.some.inj this, rfl⟩
  have hb : ∀ r ∈ rs, r < ns.length := fun r hr => by
    obtain ⟨j, hj⟩ := List.getElem?_of_mem hr
    obtain ⟨n, hn, _⟩ := get j r hj
    exact (List.getElem?_eq_some_iff.mp hn).1
  have P0 := setAll_cells cm rs ns nsr nd hl hb
  rw [setAll_self rs ns nsr hn] at P0
  have P1 := setAll_cells cm rs ns ns' nd (by omega) hb
  generalize hR : cellsL cm (setAll ns rs (List.replicate rs.length (.gone .non))) = R at P0 P1
  have nd0 := (P0.map (·.1)).nodup_iff.mp rl.nd
  rw [List.map_append, List.nodup_append] at nd0
  have inR : ∀ x ∈ R, x ∈ cellsL cm ns := fun x hx => P0.mem_iff.mpr (List.mem_append.mpr (.inr hx))
  have inS : ∀ x ∈ cellsL cm nsr, x ∈ cellsL cm ns := fun x hx => P0.mem_iff.mpr (List.mem_append.mpr (.inl hx))
  have sp : ∀ x ∈ cellsL cm (setAll ns rs ns'), x ∈ cellsL cm ns' ∨ x ∈ R := fun x hx => List.mem_append.mp (P1.mem_iff.mp hx)
  have mu : ∀ b, (callee rl 0 st nsr).Mu b → (∃ l xs, c.tp = some (b, l, xs)) ∨ b ∈ (cellsL cm nsr).map (·.1) := fun b m => by
    rcases m with m | ⟨i, n, _, h2, h3⟩
    · exact .inl m
    · obtain ⟨x, hx, rfl⟩ := List.mem_map.mp h3
      exact .inr (List.mem_map.mpr ⟨x, mem_cellsL.mpr ⟨n, List.mem_of_getElem? h2, hx⟩, rfl⟩)
  have okR : ∀ x ∈ R, H' x.1 = some x.2 := fun x hx => r'.hh x.1 x.2 (fun m => by
    rcases mu _ m with ⟨l, xs, e⟩ | m
    · exact (rl.nt x (inR x hx) x.1 l xs e).1 rfl
    · exact nd0.2.2 x.1 m x.1 (List.mem_map.mpr ⟨x, hx, rfl⟩) rfl) (rl.ok x (inR x hx))
  have oldNew : ∀ x ∈ cellsL cm ns', H x.1 = none ∨ x.1 ∈ (cellsL cm nsr).map (·.1) := fun x hx => by
    obtain ⟨n, hn', hx'⟩ := mem_cellsL.mp hx
    obtain ⟨j, hj⟩ := List.getElem?_of_mem hn'
    rcases r'.nw j n hj x hx' with z | ⟨m, z1, z2⟩
    · exact .inl z
    · obtain ⟨y, hy, e⟩ := List.mem_map.mp z2
      exact .inr (List.mem_map.mpr ⟨y, mem_cellsL.mpr ⟨m, List.mem_of_getElem? z1, hy⟩, e⟩)
  have isn : ∀ b o, H b = some o → isN o = false → H' b = some o := fun b o hb ho => r'.hh b o (fun m => by
    rcases mu _ m with ⟨l, xs, e⟩ | m
    · obtain ⟨_, _, i, j, _, _, h2⟩ := rl.tp b l xs e
      rw [hb] at h2; cases h2; cases ho
    · obtain ⟨x, hx, rfl⟩ := List.mem_map.mp m
      rw [rl.ok x (inS x hx)] at hb
      cases hb
      rw [cellsL_isN nsr x hx] at ho; cases ho) hb
  -- a path that stays
  have ali : ∀ r q (n : N), subL ns r q = some n → n.isNd → (st = true ∨ r ∉ rs ∨ q = []) → ∃ n', subL (setAll ns rs ns') r q = some n' ∧ n'.isNd ∧ n'.val = n.val := fun r q n h1 h2 hk => by
    by_cases hr : r ∈ rs
    · obtain ⟨j, hj⟩ := List.getElem?_of_mem hr
      obtain ⟨n0, g1, g2⟩ := get j r hj
      obtain ⟨n1, g3, g4, g4', g5⟩ := r'.sb j n0 g2
      have es := subL_at (p := q) nd (by omega) hb hj (ns := ns) (ns' := ns')
      rw [es]
      unfold subL at h1 ⊢
      rw [g1] at h1
      rw [g3]
      obtain ⟨a, da, k, cs, rfl⟩ := isNd_ex h2
      rcases hk with hk | hk | hk
      · obtain ⟨k', cs', e⟩ := g5 hk q a da k cs h1
        exact ⟨_, e, trivial, rfl⟩
      · exact absurd hr hk
      · subst hk
        have e0 : n0 = .nd a da k cs := by cases n0 <;> simpa [N.sub] using h1
        subst e0
        exact ⟨n1, by cases n1 <;> rfl, g4' trivial, g4⟩
    · refine ⟨n, ?_, h2, rfl⟩
      unfold subL at h1 ⊢
      rw [setAll_off rs ns ns' r hr]; exact h1
  refine ⟨?_, fun x hx => ?_, fun l hx => ?_, ?_, fun x hx => ?_, fun x hx => ?_, r'.ex, rl.gg.trans r'.gg, fun b g hb => r'.fr b (rl.fr b g hb) (rl.th b hb), fun b o m hb => ?_, r'.tp, fun i n hi x hx => ?_, fun i h1 h2 => ?_, fun i n hi => ?_, fun b hb => r'.th b (rl.th b hb), fun b xs hb => r'.tt b xs (.inl (rl.tt b xs hb)), ?_, fun j x e => ?_, ?_, fun j x e => ?_⟩
  · show eraseL (setAll ns rs ns') = setAll s.r rs (eraseL ns')
    rw [← rl.er]
    clear r' hl' P0 P1 ali
    have gen : ∀ (rs : List Nat) (ns ns' : List N), eraseL (setAll ns rs ns') = setAll (eraseL ns) rs (eraseL ns') := by
      intro rs
      induction rs with
      | nil => intro ns ns'; rw [setAll, setAll]
      | cons r rs ih =>
        intro ns ns'
        cases ns' with
        | nil => rw [setAll, eraseL, setAll]
        | cons n ns' => rw [setAll, eraseL, setAll, ih]; simp only [eraseL_map, List.map_set]
    exact gen rs ns ns'
  · rcases sp x hx with h1 | h1
    · exact r'.ok x h1
    · exact okR x h1
  · obtain ⟨n, hn', hl⟩ := mem_leavesL.mp hx
    obtain ⟨i, hi⟩ := List.getElem?_of_mem hn'
    by_cases hr : i ∈ rs
    · obtain ⟨j, hj⟩ := List.getElem?_of_mem hr
      rw [setAll_at rs ns ns' j i nd (by omega) hb hj] at hi
      exact r'.lv l (mem_leavesL.mpr ⟨n, List.mem_of_getElem? hi, hl⟩)
    · rw [setAll_off rs ns ns' i hr] at hi
      exact (rl.lv l (mem_leavesL.mpr ⟨n, List.mem_of_getElem? hi, hl⟩)).mono r'.gg
  · rw [(P1.map (·.1)).nodup_iff, List.map_append, List.nodup_append]
    refine ⟨r'.nd, nd0.2.1, fun a ha b hb' => ?_⟩
    rintro rfl
    obtain ⟨x, hx, rfl⟩ := List.mem_map.mp ha
    obtain ⟨y, hy, e⟩ := List.mem_map.mp hb'
    rcases oldNew x hx with z | z
    · rw [← e, rl.ok y (inR y hy)] at z; cases z
    · exact nd0.2.2 x.1 z y.1 (List.mem_map.mpr ⟨y, hy, rfl⟩) e.symm
  · rcases sp x hx with h1 | h1
    · exact r'.gn x h1
    · exact r'.fr x.1 (rl.gn x (inR x h1)) (by show H x.1 ≠ none; rw [rl.ok x (inR x h1)]; exact fun z => nomatch z)
  · rcases sp x hx with h1 | h1
    · exact r'.nt x h1
    · exact rl.nt x (inR x h1)
  · refine r'.hh b o (fun m' => ?_) (rl.hh b o m hb)
    rcases m' with m' | ⟨j, n, _, h2, h3⟩
    · exact m (.inl m')
    · have hj : j < rs.length := by rw [← hl]; exact (List.getElem?_eq_some_iff.mp h2).1
      obtain ⟨n0, g1, g2⟩ := get j rs[j] (List.getElem?_eq_getElem hj)
      have h2' : nsr[j]? = some n := h2
      rw [g2] at h2'
      cases h2'
      obtain ⟨x, hx, rfl⟩ := List.mem_map.mp h3
      rcases rl.nw rs[j] _ g1 x hx with z | ⟨m0, z1, z2⟩
      · rw [z] at hb; cases hb
      · exact m (.inr ⟨rs[j], m0, hlo _ (List.getElem_mem hj), z1, z2⟩)
  · by_cases hr : i ∈ rs
    · obtain ⟨j, hj⟩ := List.getElem?_of_mem hr
      rw [setAll_at rs ns ns' j i nd (by omega) hb hj] at hi
      obtain ⟨n0, g1, g2⟩ := get j i hj
      rcases r'.nw j n hi x hx with z | ⟨m, z1, z2⟩
      · exact .inl (rl.lt.z _ z)
      · have z1' : nsr[j]? = some m := z1
        rw [g2] at z1'
        cases z1'
        obtain ⟨y, hy, e⟩ := List.mem_map.mp z2
        have := rl.nw i n0 g1 y hy
        rwa [e] at this
    · rw [setAll_off rs ns ns' i hr] at hi
      exact rl.nw i n hi x hx
  · rw [setAll_off rs ns ns' i (fun hr => by have := hlo i hr; omega)]
    exact rl.fx i h1 h2
  · obtain ⟨n1, e1, e2, e2', e3⟩ := rl.sb i n hi
    by_cases hr : i ∈ rs
    · obtain ⟨j, hj⟩ := List.getElem?_of_mem hr
      obtain ⟨n0, g1, g2⟩ := get j i hj
      rw [e1] at g1
      cases g1
      obtain ⟨n2, g3, g4, g4', g5⟩ := r'.sb j n1 g2
      refine ⟨n2, by rw [setAll_at rs ns ns' j i nd (by omega) hb hj]; exact g3, g4.trans e2, fun h => g4' (e2' h), fun hs => ?_⟩
      rcases hst with h | h
      · exact (e3 hs).trans (g5 h)
      · rw [h] at hs; cases hs
    · exact ⟨n1, by rw [setAll_off rs ns ns' i hr]; exact e1, e2, e2', e3⟩
  · show σ.length = (s.e.map (killB st rs)).length
    rw [List.length_map]; exact rl.len
  · have e' : (s.e.map (killB st rs))[j]? = some x := e
    rw [List.getElem?_map] at e'
    cases hj : s.e[j]? with
    | none => rw [hj] at e'; cases e'
    | some y =>
      rw [hj] at e'
      obtain rfl := Option.some.inj e'
      obtain ⟨o, h1, h2⟩ := rl.cell j y hj
      refine ⟨o, h1, ?_⟩
      cases y with
      | un => trivial
      | d y => obtain ⟨v, e1, e2⟩ := h2; exact ⟨v, e1, e2.mono r'.gg⟩
      | «at» r q =>
        simp only [killB]
        split
        · rename_i hk
          obtain ⟨n, h3, h4, rfl⟩ := h2
          obtain ⟨n', h5, h6, h7⟩ := ali r q n h3 h4 hk
          exact ⟨n', h5, h6, by rw [h7]⟩
        · trivial
      | tape => exact h2
      | exc e =>
        obtain ⟨a', h3, h4⟩ := h2
        exact ⟨a', h3, exAt_step r'.gg (fun b fs hb => isn _ _ hb rfl) (fun b fs hb => isn _ _ hb rfl) (fun b vs hb => r'.tt b vs (.inl hb)) h4⟩
  · show hs.length = (s.h.map (killHB st rs)).length
    rw [List.length_map]; exact rl.hlen
  · have e' : (s.h.map (killHB st rs))[j]? = some x := e
    rw [List.getElem?_map] at e'
    cases hj : s.h[j]? with
    | none => rw [hj] at e'; cases e'
    | some y =>
      rw [hj] at e'
      obtain rfl := Option.some.inj e'
      obtain ⟨o, h1, h2⟩ := rl.hid j y hj
      refine ⟨o, h1, ?_⟩
      cases y with
      | un => trivial
      | d y => obtain ⟨v, e1, e2⟩ := h2; exact ⟨v, e1, e2.mono r'.gg⟩
      | «at» r q =>
        simp only [killB]
        split
        · rename_i hk
          obtain ⟨n, h3, h4, e9⟩ := h2
          obtain ⟨n', h5, h6, h7⟩ := ali r q n h3 h4 hk
          exact ⟨n', h5, h6, by rw [h7]; exact e9⟩
        · trivial
      | tape => exact h2
      | exc e =>
        obtain ⟨a', h3, h4⟩ := h2
        exact ⟨a', h3, exAt_step r'.gg (fun b fs hb => isn _ _ hb rfl) (fun b fs hb => isn _ _ hb rfl) (fun b vs hb => r'.tt b vs (.inl hb)) h4⟩
def xCallG (g : XEx → XEx) (lo : Nat) (st : Bool) (f : DsX) (r : AQA) : AX := fun ex s Q => r ex s fun rvs => (∀ r ∈ rootsOf rvs [], lo ≤ r) ∧ ∃ args, argsOf (rootsOf rvs []) rvs = some args ∧
  f args (rootsM s.r (rootsOf rvs [])) (fun rv ρ => Q (retRV (rootsOf rvs []) rv) (s.after st (rootsOf rvs []) ρ)) (fun e ρ => g ex e (s.after st (rootsOf rvs []) ρ))
abbrev xCall := xCallG (fun ex => ex)
abbrev xCallN := xCallG (fun _ _ _ => False)
theorem x_call_core {lo : Nat} {st : Bool} {f : DsX} {g : XEx → XEx} {tr : TA} {ar : AQA} {E : St → XK} (hlo : c.lo = lo) (hst : st = true ∨ c.st = false) (hE : Wants c W g E) (hr : AbsQA c W tr ar) : AbsX c W (fun σ H Q => tr σ H fun vs H1 => spX K cm false st f vs H1 Q (E σ)) (xCallG g lo st f ar) := by
  intro s ns hs σ G H rl ex hx Qd Q h q
  refine hr s ns hs σ G H rl ex hx _ _ h fun vs rvs G1 H1 q1 r1 h1 => ?_
  obtain ⟨hlo', args, ha, hf⟩ := h1
  have rl1 := rl.quiet q1
  obtain ⟨nsr, hn, hm⟩ := roots_get rl1 r1
  have nd := roots_nd rvs [] (by simp)
  have hl : nsr.length = (rootsOf rvs []).length := by have := congrArg List.length hn; simpa using this.symm
  have hb : ∀ r ∈ rootsOf rvs [], r < ns.length := fun r hr => by
    obtain ⟨j, hj⟩ := List.getElem?_of_mem hr
    have := congrArg (·[j]?) hn
    simp only [List.getElem?_map, hj, Option.map_some] at this
    cases hj2 : nsr[j]? with
    | none => rw [hj2] at this; cases this
    | some n => rw [hj2] at this; exact (List.getElem?_eq_some_iff.mp (Option.some.inj this)).1
  refine ⟨callee rl1 0 st nsr, args, fun rv ρ => Qd (retRV (rootsOf rvs []) rv) (s.after st (rootsOf rvs []) ρ), fun e ρ => g ex e (s.after st (rootsOf rvs []) ρ), rfl, rfl, rfl, callee_rl rl1 nd hn r1 ha, by show f args (eraseL nsr) _ _; rw [hm]; exact hf, fun v rv ns' G' H' Hs' r' el lt' x' hq => ?_, fun e dd ns' G' H' r' el hd hq => ?_⟩
  · have r2 := rl1.after nd hn (fun r hr => by rw [hlo]; exact hlo' r hr) hst r' el
    refine q v _ _ _ hs G' H' Hs' r2 (q1.gg.trans r'.gg) ⟨fun b hb => rl1.lt.z b (lt'.z b hb), fun x hx => ?_⟩ ?_ hq
    · have P1 := setAll_cells cm (rootsOf rvs []) ns ns' nd (by have : ns'.length = nsr.length := el; omega) hb
      rcases List.mem_append.mp (P1.mem_iff.mp hx) with z | z
      · exact lt'.n x z
      · intro hz
        have h0 : H1 x.1 = none := lt'.z _ hz
        have P0 := setAll_cells cm (rootsOf rvs []) ns nsr nd hl hb
        rw [setAll_self _ ns nsr hn] at P0
        rw [rl1.ok x (P0.mem_iff.mpr (List.mem_append.mpr (.inr z)))] at h0
        cases h0
    · cases rv with
      | d y => exact x'
      | «at» j p =>
        obtain ⟨n, h1, h2, h3⟩ := x'
        have hj : j < ns'.length := by
          unfold subL at h1
          cases hj : ns'[j]? with
          | none => rw [hj] at h1; cases h1
          | some n0 => exact (List.getElem?_eq_some_iff.mp hj).1
        have el' : ns'.length = nsr.length := el
        have hj2 := List.getElem?_eq_getElem (show j < (rootsOf rvs []).length by omega)
        simp only [retRV, hj2]
        exact ⟨n, by rw [subL_at nd (by omega) hb hj2]; exact h1, h2, h3⟩
      | new m => exact x'
      | exc e => obtain ⟨a, h1, h2⟩ := x'; exact ⟨a, h1, h2⟩
      | tape => exact x'
  · have r2 := rl1.after nd hn (fun r hr => by rw [hlo]; exact hlo' r hr) hst r' el
    exact hE ex G hx e _ _ hs σ G' H' r2 (q1.gg.trans r'.gg) hq dd hd
theorem x_call {lo : Nat} {st : Bool} {f : DsX} {tr : TA} {ar : AQA} (hlo : c.lo = lo) (hst : st = true ∨ c.st = false) (hr : AbsQA c W tr ar) : AbsX c W (tCallSD (spX K cm false st f) [] (fun σ cls d H => W cls d σ H) tr) (xCall lo st f ar) := by
  have h := x_call_core (st := st) (f := f) hlo hst wants_all hr
  unfold tCallSD
  simp only [List.append_nil]
  exact h
theorem x_callN {lo : Nat} {st : Bool} {f : DsX} {tr : TA} {ar : AQA} {E : XK} (hlo : c.lo = lo) (hst : st = true ∨ c.st = false) (hr : AbsQA c W tr ar) : AbsX c W (tCall (spX K cm false st f) [] E tr) (xCallN lo st f ar) := by
  have h := x_call_core (st := st) (f := f) hlo hst (wants_none (E := fun _ => E)) hr
  unfold tCall
  simp only [List.append_nil]
  exact h
end
end Fe

namespace Fe
open PySem L2 Fc
open scoped List
/-! ### defs with trees of their own alone, promised as in the first layer -/
abbrev cm0 : Nat → Addr := fun _ => 0
def rtP (Qd : D → Prop) : RV → Sx → Prop
  | .d x, _ => Qd x
  | _, _ => False
section
variable {K : PySem.W.Frag} {cm : Nat → Addr}
def Cz.own (K : PySem.W.Frag) (cm : Nat → Addr) {G H : Hp} (e : Ex G H) : Cz K cm := ⟨none, G, H, [], 0, false, fun _ _ => False, e, fun _ _ _ h => nomatch h⟩
theorem own_rl {G H : Hp} (e : Ex G H) {vs : List V} {ds : List D} (r : RvA K G vs ds) : Rl (Cz.own K cm e) ⟨ds.map Cl.d, [], []⟩ [] [] (vs.map some) G H := by
  refine ⟨rfl, fun x hx => by simp [cellsL] at hx, fun l hl => by simp [leavesL] at hl, by simp [cellsL], fun x hx => by simp [cellsL] at hx, fun x hx => by simp [cellsL] at hx, e, Ex.refl _, fun b g _ => g, fun b o _ h => h, (fun _ _ _ h => by cases h), fun i n h => by simp at h, fun i _ h => by exact absurd h (Nat.not_lt_zero i), fun i n h => by simp [Cz.own] at h, fun b h => h, fun b xs h => h.elim id False.elim, by simp [r.length], fun j x e => ?_, rfl, fun j x e => by simp at e⟩
  have e' : (ds.map Cl.d)[j]? = some x := e
  rw [List.getElem?_map] at e'
  cases hd : ds[j]? with
  | none => rw [hd] at e'; cases e'
  | some d =>
    rw [hd] at e'
    cases e'
    obtain ⟨v, h1, h2⟩ := r.get hd
    exact ⟨some v, by rw [List.getElem?_map, h1]; rfl, v, rfl, h2⟩
theorem body_XP {f : Ds} {Nm : List Str} {m : Nat} {vs : List V} {H : Hp} {Q : VK} {E : XK} {t : TS} {a : AZ} (hA : ∀ c : Cz K cm, c.ns0.length = 0 → c.lo = 0 → c.st = false → AbsZ c (fun _ _ _ _ => False) t a)
    (hd : ∀ ds Qd, f ds Qd → a { nx := fun _ => Qd .none, rt := rtP Qd } ⟨startX Nm.length (ds.map Cl.d), List.replicate m .gone, []⟩) (h : spP K f vs H Q E) : t { nx := fun _ H' => Q .non H', rt := Q } (L2.start Nm vs) H := by
  obtain ⟨G, ds, e, r, Qd, hf, q⟩ := h
  have mu : ∀ b, ¬ (Cz.own K cm e).Mu b := fun b m => by
    rcases m with ⟨l, xs, z⟩ | ⟨i, n, _, h2, _⟩
    · cases z
    · simp [Cz.own] at h2
  have st : ∀ {s ns hs σ G' H'}, Rl (Cz.own K cm e) s ns hs σ G' H' → PStep G H G' H' := fun r' => ⟨r'.gg, r'.ex, fun b o h => r'.hh b o (mu b) h, r'.fr⟩
  have r0 := (own_rl (cm := cm) e r).extend (Nm := Nm) (m := m) rfl
  refine hA (Cz.own K cm e) rfl rfl rfl _ _ [] _ G H r0 _ _ (hd ds Qd hf) ⟨fun s ns hs σ G' H' r' _ z => q _ _ G' H' (st r') .non z, fun v rv s ns hs σ G' H' Hs r' lt x z => ?_, fun _ _ _ _ _ _ _ _ z => z.elim, fun _ _ _ _ _ _ _ _ z => z.elim, fun _ _ _ _ _ _ _ _ _ z => z.elim⟩
  cases rv with
  | d y => exact q v y G' H' (st r') x z
  | _ => exact z.elim
def Cz.tape (K : PySem.W.Frag) (cm : Nat → Addr) {G H : Hp} {t l : Addr} {xs : List Int} (e : Ex G H) (T : TapeAt t l xs H) (gt : G t = none) (gl : G l = none) : Cz K cm := ⟨some (t, l, xs), G, H, [], 0, false, fun _ _ => False, e, fun t' l' xs' h => by cases h; exact ⟨T, gt, gl⟩⟩
theorem tape_rl {G H : Hp} {t l : Addr} {xs : List Int} (e : Ex G H) (T : TapeAt t l xs H) (gt : G t = none) (gl : G l = none) {vs : List V} {ds : List D} (r : RvA K G vs ds) : Rl (Cz.tape K cm e T gt gl) ⟨.tape :: ds.map Cl.d, [], []⟩ [] [] ((V.ref t :: vs).map some) G H := by
  refine ⟨rfl, fun x hx => by simp [cellsL] at hx, fun l hl => by simp [leavesL] at hl, by simp [cellsL], fun x hx => by simp [cellsL] at hx, fun x hx => by simp [cellsL] at hx, e, Ex.refl _, fun b g _ => g, fun b o _ h => h, fun t' l' xs' h => by cases h; exact T, fun i n h => by simp at h, fun i _ h => by exact absurd h (Nat.not_lt_zero i), fun i n h => by simp [Cz.tape] at h, fun b h => h, fun b xs h => h.elim id False.elim, by simp [r.length], fun j x e => ?_, rfl, fun j x e => by simp at e⟩
  cases j with
  | zero => cases e; exact ⟨_, rfl, t, l, xs, rfl, rfl⟩
  | succ j =>
    have e' : (ds.map Cl.d)[j]? = some x := e
    rw [List.getElem?_map] at e'
    cases hd : ds[j]? with
    | none => rw [hd] at e'; cases e'
    | some d =>
      rw [hd] at e'
      cases e'
      obtain ⟨v, h1, h2⟩ := r.get hd
      exact ⟨some v, by rw [List.map_cons, List.getElem?_cons_succ, List.getElem?_map, h1]; rfl, v, rfl, h2⟩
theorem tape_st {G H : Hp} {t l : Addr} {xs : List Int} {e : Ex G H} {T : TapeAt t l xs H} {gt : G t = none} {gl : G l = none} {s ns hs σ G' H'} (r' : Rl (Cz.tape K cm e T gt gl) s ns hs σ G' H') : TStep t l xs G H G' H' :=
  ⟨r'.gg, r'.ex, fun b o n h => r'.hh b o (fun m => by
    rcases m with ⟨l', xs', z⟩ | ⟨i, n', _, h2, _⟩
    · cases z; exact n rfl
    · simp [Cz.tape] at h2) h, r'.fr, r'.tp t l xs rfl⟩
theorem body_XT {f : Ds} {Nm : List Str} {m : Nat} {vs : List V} {H : Hp} {Q : VK} {E : XK} {t : TS} {a : AZ} (hA : ∀ c : Cz K cm, c.ns0.length = 0 → c.lo = 0 → c.st = false → AbsZ c (fun _ _ _ _ => False) t a)
    (hd : ∀ ds Qd, f ds Qd → a { nx := fun _ => Qd .none, rt := rtP Qd } ⟨startX Nm.length (.tape :: ds.map Cl.d), List.replicate m .gone, []⟩) (h : spT K f vs H Q E) : t { nx := fun _ H' => Q .non H', rt := Q } (L2.start Nm vs) H := by
  obtain ⟨tt, l, xs, G, us, ds, rfl, e, gt, gl, T, r, Qd, hf, q⟩ := h
  have r0 := (tape_rl (cm := cm) e T gt gl r).extend (Nm := Nm) (m := m) rfl
  refine hA (Cz.tape K cm e T gt gl) rfl rfl rfl _ _ [] _ G H r0 _ _ (hd ds Qd hf) ⟨fun s ns hs σ G' H' r' _ z => q _ _ G' H' (tape_st r') .non z, fun v rv s ns hs σ G' H' Hs r' lt x z => ?_, fun _ _ _ _ _ _ _ _ z => z.elim, fun _ _ _ _ _ _ _ _ z => z.elim, fun _ _ _ _ _ _ _ _ _ z => z.elim⟩
  cases rv with
  | d y => exact q v y G' H' (tape_st r') x z
  | _ => exact z.elim
/-- the law's own def, with trees of its own -/
theorem law_startX {Nm : List Str} {k m : Nat} (hN : Nm.length = k + 2) {H : Hp} {sa : Addr} {xs : List Int} {Q : VK} {t : TS} {a : AZ} (hA : ∀ c : Cz K cm, c.ns0.length = 0 → c.lo = 0 → c.st = false → AbsZ c (fun _ _ _ _ => False) t a)
    (hv : a { nx := fun _ => False, rt := rtP fun d => d = .bool true } ⟨.un :: .tape :: List.replicate k .un, List.replicate m .gone, []⟩) (hS : SqL K H sa (xs.map V.int)) (q : ∀ H', Q (.bl true) H') :
    tSeq (tAsg (tLst (tCons (tCB (fun xs H Q => ∃ p ys, xs = [V.ref p] ∧ (SqL K H p ys ∨ SqT K H p ys) ∧ ∀ l, H l = none → Q (V.ref l) (upd H l (HO.lst ys))) (tCons (tVar 0) tNil)) (tCons (tC (.int 0)) (tCons (tC (.int 0)) tNil)))) (gName 1)) t { nx := fun _ H' => Q .non H', rt := Q } (L2.start Nm [.ref sa]) H := by
  have es : L2.start Nm [.ref sa] = some (V.ref sa) :: none :: List.replicate k none := by
    unfold L2.start
    rw [hN]
    show some (V.ref sa) :: List.replicate (k + 1) none = _
    rw [List.replicate_succ]
  rw [es]
  refine ⟨.ref sa, rfl, sa, xs.map V.int, rfl, .inl hS, fun l hl => ⟨by show 3 ≤ sizeLine; decide, fun p hp => ?_⟩⟩
  have npl : p ≠ l := fun e => by rw [e, upd_same] at hp; cases hp
  have T : TapeAt p l xs (upd (upd H l (.lst (xs.map V.int))) p (.lst [.ref l, .int 0, .int 0])) := ⟨npl, by rw [upd_ne npl.symm, upd_same], 0, 0, Int.le_refl 0, Int.le_refl 0, upd_same⟩
  have e0 : Ex (fun _ => none) (upd (upd H l (.lst (xs.map V.int))) p (.lst [.ref l, .int 0, .int 0])) := fun _ _ h => nomatch h
  have r0 := (tape_rl (K := K) (cm := cm) (G := fun _ => none) e0 T rfl rfl (vs := []) (ds := []) .nil).extend (Nm := List.replicate (k + 1) "") (m := m) rfl
  -- the script's slot ahead
  have r1 : Rl (Cz.tape K cm (G := fun _ => none) e0 T rfl rfl) ⟨.un :: .tape :: List.replicate k .un, List.replicate m .gone, []⟩ (List.replicate m (.gone .non)) [] (some (V.ref sa) :: some (V.ref p) :: List.replicate k none) (fun _ => none) (upd (upd H l (.lst (xs.map V.int))) p (.lst [.ref l, .int 0, .int 0])) := by
    have en : ([] : List N) ++ List.replicate m (.gone .non) = List.replicate m (.gone .non) := rfl
    refine ⟨by have := r0.er; rwa [en] at this, by have := r0.ok; rwa [en] at this, by have := r0.lv; rwa [en] at this, by have := r0.nd; rwa [en] at this, by have := r0.gn; rwa [en] at this, by have := r0.nt; rwa [en] at this, r0.ex, r0.gg, r0.fr, r0.hh, r0.tp, by have := r0.nw; rwa [en] at this, by have := r0.fx; rwa [en] at this, by have := r0.sb; rwa [en] at this, r0.th, r0.tt, by simp, fun j x e => ?_, rfl, fun j x e => by simp at e⟩
    match j, e with
    | 0, e => cases e; exact ⟨_, rfl, trivial⟩
    | 1, e => cases e; exact ⟨_, rfl, p, l, xs, rfl, rfl⟩
    | j + 2, e =>
      have e' : (List.replicate k Cl.un)[j]? = some x := e
      rw [List.getElem?_replicate] at e'
      split at e'
      · rename_i hlt
        cases e'
        refine ⟨none, ?_, trivial⟩
        show (List.replicate k none)[j]? = some none
        rw [List.getElem?_replicate, if_pos hlt]
      · cases e'
  refine hA _ rfl rfl rfl _ _ [] _ _ _ r1 _ _ hv ⟨fun _ _ _ _ _ _ _ _ z => z.elim, fun v rv s ns hs σ G' H' Hs r' lt x z => ?_, fun _ _ _ _ _ _ _ _ z => z.elim, fun _ _ _ _ _ _ _ _ z => z.elim, fun _ _ _ _ _ _ _ _ _ z => z.elim⟩
  cases rv with
  | d y =>
    obtain rfl : y = .bool true := z
    cases x
    exact q _
  | _ => exact z.elim
variable {c : Cz K cm} {W : WX} {s s' : Sx} {ns : List N} {hs : List V} {σ : St} {G H G' H' Hs G2 H2 : Hp}
/-! ### further expressions -/
abbrev AQO := XEx → Sx → (Option Int → Prop) → Prop
def AbsQO (c : Cz K cm) (W : WX) (t : TO) (a : AQO) : Prop := ∀ s ns hs σ G H, Rl c s ns hs σ G H → ∀ ex, XOk c W G ex → ∀ (Qd : Option Int → Prop) (Q : Option Int → Hp → Prop), a ex s Qd → (∀ o G' H', Qs c G H G' H' → Qd o → Q o H') → t σ H Q
def qoNo : AQO := fun _ _ Q => Q none
theorem qo_no : AbsQO c W tNoPart qoNo := fun s ns hs σ G H rl ex hx Qd Q h q => q none G H (.refl rl) h
def qoSome (a : AQ) : AQO := fun ex s Q => a ex s fun d => match d with | .d (.int i) => Q (some i) | _ => False
theorem qo_some {te : TE} {a : AQ} (ha : AbsQ c W te a) : AbsQO c W (tPart te) (qoSome a) := by
  intro s ns hs σ G H rl ex hx Qd Q h q
  refine ha s ns hs σ G H rl ex hx _ _ h fun v x G1 H1 q1 r1 h1 => ?_
  split at h1
  · rename_i i
    cases r1
    exact ⟨i, rfl, q _ G1 H1 q1 h1⟩
  · exact h1.elim
/-- x[a:b] of a datum -/
def qSl (a : AQ) (lo hi : AQO) : AQ := fun ex s Q => a ex s fun x => lo ex s fun l => hi ex s fun u => match x with | .d x => fSl x l u fun z => Q (.d z) | _ => False
theorem q_sl {te : TE} {tl th : TO} {a : AQ} {al ah : AQO} (ha : AbsQ c W te a) (hl : AbsQO c W tl al) (hh : AbsQO c W th ah) : AbsQ c W (tSl (rSlP K) te tl th) (qSl a al ah) := by
  intro s ns hs σ G H rl ex hx Qd Q h q
  refine ha s ns hs σ G H rl ex hx _ _ h fun v x G1 H1 q1 r1 h1 => ?_
  refine hl s ns hs σ G1 H1 (rl.quiet q1) ex (hx.mono q1.gg) _ _ h1 fun lo G2 H2 q2 h2 => ?_
  refine hh s ns hs σ G2 H2 ((rl.quiet q1).quiet q2) ex (hx.mono (q1.gg.trans q2.gg)) _ _ h2 fun hi G3 H3 q3 h3 => ?_
  have rl3 := ((rl.quiet q1).quiet q2).quiet q3
  have s' := (q1.tr q2).tr q3
  cases x with
  | d x =>
    have r3 : Rv K G3 v x := Rv.mono (q2.gg.trans q3.gg) r1
    have h3' : fSl x lo hi fun z => Qd (.d z) := h3
    unfold fSl at h3'
    split at h3'
    · cases r3 with
      | @tup p xs ds hp hA =>
        refine .inl ⟨p, xs, rfl, rl3.ex.sqt hp, fun e => ?_, fun _ t ht => ?_⟩
        · rw [hA.length] at e
          rw [cut_whole _ e] at h3'
          exact q _ (.d _) G3 H3 s' (.tup hp hA) h3'
        · have st := Step.new (o := .tup (cutV xs lo hi)) (Ok.zero (qCtx rl3)) ht
          exact q _ (.d _) _ _ (s'.tr (qStep rl3 st)) (.tup (SqT.of upd_same) ((cut_rv hA lo hi).mono st.gg)) h3'
    · cases r3 with
      | @lst p xs ds hp hA =>
        refine .inr (.inl ⟨p, xs, rfl, SqL.of (rl3.ex _ _ hp), fun t ht => ?_⟩)
        have st := Step.new (o := .lst (cutV xs lo hi)) (Ok.zero (qCtx rl3)) ht
        exact q _ (.d _) _ _ (s'.tr (qStep rl3 st)) (.lst upd_same ((cut_rv hA lo hi).mono st.gg)) h3'
    · cases r3
      exact .inr (.inr ⟨_, rfl, h3'.1, q _ (.d _) G3 H3 s' (.str _) h3'.2⟩)
    · exact h3'.elim
  | _ => exact h3.elim
/-- a def of the first layer, on data -/
def qCallP (f : Ds) (r : AQA) : AQ := fun ex s Q => r ex s fun xs => ∃ ds, asD xs = some ds ∧ f ds fun z => Q (.d z)
theorem q_callP {f : Ds} {E : XK} {tr : TA} {ar : AQA} (hr : AbsQA c W tr ar) : AbsQ c W (tCall (spP K f) [] E tr) (qCallP f ar) := by
  intro s ns hs σ G H rl ex hx Qd Q h q
  refine hr s ns hs σ G H rl ex hx _ _ h fun vs rvs G1 H1 q1 r1 h1 => ?_
  obtain ⟨ds, e, h1⟩ := h1
  have rl1 := rl.quiet q1
  rw [List.append_nil]
  exact ⟨G1, ds, rl1.ex, asD_rv r1 e, _, h1, fun v d G' H' st rv hq => q v (.d d) G' H' (q1.tr (PStep.qs st rl1.tp)) rv hq⟩
def qCallT (f : Ds) (i : Nat) (r : AQA) : AQ := fun ex s Q => match s.e[i]? with
  | some .tape => r ex s fun xs => ∃ ds, asD xs = some ds ∧ f ds fun z => Q (.d z)
  | _ => False
theorem q_callT {f : Ds} {E : XK} {i : Nat} {tr : TA} {ar : AQA} (hr : AbsQA c W tr ar) : AbsQ c W (tCall (spT K f) [] E (tCons (tVar i) tr)) (qCallT f i ar) := by
  intro s ns hs σ G H rl ex hx Qd Q h q
  unfold qCallT at h
  split at h
  · rename_i hi
    obtain ⟨o, ho, t, l, xs, htp, rfl⟩ := rl.cell i _ hi
    refine ⟨.ref t, ho, ?_⟩
    refine hr s ns hs σ G H rl ex hx _ _ h fun vs rvs G1 H1 q1 r1 h1 => ?_
    obtain ⟨ds, e, h1⟩ := h1
    have rl1 := rl.quiet q1
    show spT K f ((V.ref t :: vs) ++ []) H1 Q E
    rw [List.append_nil]
    refine ⟨t, l, xs, G1, vs, ds, rfl, rl1.ex, rl1.fr t (c.tp0 t l xs htp).2.1 (tape_ne (c.tp0 t l xs htp).1), rl1.fr l (c.tp0 t l xs htp).2.2 (tape_neL (c.tp0 t l xs htp).1), rl1.tp t l xs htp, asD_rv r1 e, _, h1, fun v d G' H' st rv hq => q v (.d d) G' H' (q1.tr ⟨st.gg, st.gh, fun b o m hb => st.hh b o (fun z => m l xs (by rw [z]; exact htp)) hb, st.fr, fun t' l' xs' e' => by rw [htp] at e'; cases e'; exact st.tape⟩) rv hq⟩
  · exact h.elim
/-- isinstance(x, T) -/
def qIsi (T : String) (a : AQ) : AQ := fun ex s Q => a ex s fun x => ∃ d, vw s x = some d ∧ ∃ b, kitB (tyD d) T = some b ∧ Q (.d (.bool b))
theorem q_isi {T : String} {ta : TE} {a : AQ} (ha : AbsQ c W ta a) : AbsQ c W (tCB (rIsi K) (tCons ta (tCons (tC (.ty T)) tNil))) (qIsi T a) := by
  intro s ns hs σ G H rl ex hx Qd Q h q
  refine ha s ns hs σ G H rl ex hx _ _ h fun v x G1 H1 q1 r1 h1 => ?_
  obtain ⟨d, e, b, hb, h1⟩ := h1
  exact ⟨v, .ty T, _, _, b, rfl, .ty T, ty_of (Ex.refl H1) (vw_rv (rl.quiet q1) r1 e), kit_ty hb, q _ (.d (.bool b)) G1 H1 q1 (Rv.bl b) h1⟩
/-- a < b < c -/
def qChain (f g : A2) (a b d : AQ) : AQ := fun ex s Q => a ex s fun x => b ex s fun y => (match x, y with
  | .d x, .d y => f x y fun z => (match z with
    | .bool k => (if k = true then d ex s fun w => (match w with | .d w => g y w fun z => Q (.d z) | _ => False) else Q (.d (.bool false)))
    | _ => False)
  | _, _ => False)
theorem q_chain {r r' : R2} {f g : A2} {ta tb tc : TE} {a b d : AQ} (ho : ∀ c : Ctx K, AbsR2 c r f) (ho' : ∀ c : Ctx K, AbsR2 c r' g) (ha : AbsQ c W ta a) (hb : AbsQ c W tb b) (hd : AbsQ c W tc d) : AbsQ c W (tChain r r' ta tb tc) (qChain f g a b d) := by
  intro s ns hs σ G H rl ex hx Qd Q h q
  refine ha s ns hs σ G H rl ex hx _ _ h fun v x G1 H1 q1 r1 h1 => ?_
  refine hb s ns hs σ G1 H1 (rl.quiet q1) ex (hx.mono q1.gg) _ _ h1 fun w y G2 H2 q2 r2 h2 => ?_
  have rl2 := (rl.quiet q1).quiet q2
  split at h2
  · rename_i x y
    refine ho (qCtx rl2) G2 H2 v w x y (Ok.zero (qCtx rl2)) (Rv.mono q2.gg r1) r2 _ _ h2 fun z dz G3 H3 st r3 h3 => ?_
    have q3 := qStep rl2 st
    have rl3 := rl2.quiet q3
    cases r3 with
    | bl k =>
      refine ⟨k, rfl, ?_⟩
      cases k with
      | false => exact iteF (q _ (.d (.bool false)) G3 H3 ((q1.tr q2).tr q3) (Rv.bl false) (by simpa using h3))
      | true =>
        refine iteT ?_
        have h3' : d ex s fun w => (match w with | .d w => g y w fun z => Qd (.d z) | _ => False) := by simpa using h3
        refine hd s ns hs σ G3 H3 rl3 ex (hx.mono ((q1.gg.trans q2.gg).trans q3.gg)) _ _ h3' fun u rv G4 H4 q4 r4 h4 => ?_
        have rl4 := rl3.quiet q4
        cases rv with
        | d dw => exact ho' (qCtx rl4) G4 H4 w u y dw (Ok.zero (qCtx rl4)) (Rv.mono (q3.gg.trans q4.gg) r2) r4 _ _ h4 fun v d G5 H5 st5 r5 h5 => q v (.d d) G5 H5 ((((q1.tr q2).tr q3).tr q4).tr (qStep rl4 st5)) r5 h5
        | _ => exact h4.elim
    | _ => exact h3.elim
  · exact h2.elim
end
end Fe

namespace Fe
open PySem L2 Fc
open scoped List
/-! ### readings, made easy -/
section
variable {Q : D → Prop}
theorem fAdd_int {i j : Int} : fAdd (.int i) (.int j) Q = Q (.int (i + j)) := rfl
theorem fAdd_str {a b : Str} : fAdd (.str a) (.str b) Q = (a.length + b.length ≤ sizeLine ∧ Q (.str (a ++ b))) := rfl
theorem fAdd_tup {a b : List D} : fAdd (.tuple a) (.tuple b) Q = (a.length + b.length ≤ sizeLine ∧ Q (.tuple (a ++ b))) := rfl
theorem fAdd_lst {a b : List D} : fAdd (.list a) (.list b) Q = (a.length + b.length ≤ sizeLine ∧ Q (.list (a ++ b))) := rfl
theorem fI0_int {g : Int → Int → D} {i j : Int} : fI0 g (.int i) (.int j) Q = Q (g i j) := rfl
theorem fI_int {C : Int → Int → Prop} {g : Int → Int → D} {i j : Int} : fI C g (.int i) (.int j) Q = (C i j ∧ Q (g i j)) := rfl
theorem fLen_str {x : Str} : fLen [.str x] Q = (x.length ≤ sizeLine ∧ Q (.int (x.length : Nat))) := rfl
theorem fLen_lst {xs : List D} : fLen [.list xs] Q = Q (.int (xs.length : Nat)) := rfl
theorem fLen_tup {xs : List D} : fLen [.tuple xs] Q = Q (.int (xs.length : Nat)) := rfl
theorem fTuple_lst {xs : List D} : fTuple [.list xs] Q = Q (.tuple xs) := rfl
theorem fTuple_tup {xs : List D} : fTuple [.tuple xs] Q = Q (.tuple xs) := rfl
theorem fList_lst {xs : List D} : fList [.list xs] Q = Q (.list xs) := rfl
theorem fList_tup {xs : List D} : fList [.tuple xs] Q = Q (.list xs) := rfl
theorem fSl_tup {xs : List D} {lo hi : Option Int} : fSl (.tuple xs) lo hi Q = Q (.tuple (cut xs lo hi)) := rfl
theorem fSl_lst {xs : List D} {lo hi : Option Int} : fSl (.list xs) lo hi Q = Q (.list (cut xs lo hi)) := rfl
theorem fSl_str {z : Str} {lo hi : Option Int} : fSl (.str z) lo hi Q = (z.length ≤ sizeLine ∧ Q (.str (cutS z lo hi))) := rfl
theorem fMax2_int {i j : Int} : fMax2 [.int i, .int j] Q = Q (.int (if j > i then j else i)) := rfl
theorem fMin2_int {i j : Int} : fMin2 [.int i, .int j] Q = Q (.int (if j < i then j else i)) := rfl
theorem fIsN_n {x : D} : fIsN x .none Q = Q (.bool (Fc.isN x)) := rfl
theorem fNotN_n {x : D} : fNotN x .none Q = Q (.bool (!Fc.isN x)) := rfl
theorem fInt_int {i : Int} : fInt [.int i] Q = Q (.int i) := rfl
theorem fInt_bool {b : Bool} : fInt [.bool b] Q = Q (.int (if b = true then 1 else 0)) := rfl
end
theorem killR_un {r : Nat} : killR r .un = .un := rfl
theorem killR_d {r : Nat} {x : D} : killR r (.d x) = .d x := rfl
theorem killR_tape {r : Nat} : killR r .tape = .tape := rfl
theorem killR_exc {r : Nat} {e : Xc} : killR r (.exc e) = .exc e := rfl
theorem killR_at {r r' : Nat} {p : Pt} : killR r (.at r' p) = if r' = r then .un else .at r' p := rfl
theorem proj_un : proj .un = .un := rfl
theorem proj_d {x : D} : proj (.d x) = .d x := rfl
theorem proj_tape : proj .tape = .tape := rfl
theorem proj_exc {e : Xc} : proj (.exc e) = .un := rfl
theorem proj_at {r' : Nat} {p : Pt} : proj (.at r' p) = .un := rfl
def lstM {α : Type} (f : α → D) (xs : List α) : M := .nd .lst (xs.map fun x => M.d (f x))
theorem lstM_nil {α : Type} (f : α → D) : M.nd .lst [] = lstM f [] := rfl
theorem lstM_snoc {α : Type} (f : α → D) (xs : List α) (y : α) : M.nd .lst ((xs.map fun x => M.d (f x)) ++ [M.d (f y)]) = lstM f (xs ++ [y]) := by simp [lstM]
theorem view_lstM {α : Type} (f : α → D) (xs : List α) : viewM (lstM f xs) = some (.list (xs.map f)) := by
  have e : (xs.map fun x => M.d (f x)) = (xs.map f).map M.d := by rw [List.map_map]; rfl
  simp only [lstM, e, viewM, viewL_d]
theorem lstM_eq {α : Type} {f : α → D} {xs : List α} {cs : List M} : (lstM f xs = M.nd .lst cs) = ((xs.map fun x => M.d (f x)) = cs) := by simp [lstM]
theorem lstM_lst {cs cs' : List M} : (M.nd .lst cs = M.nd .lst cs') = (cs = cs') := by simp
theorem ixN_nat {n i : Nat} (h : i < n) : ixN n (i : Int) = some i := by
  unfold ixN
  rw [if_pos (by omega), if_pos (by omega)]; simp
/-- xs[i] of a list in a tree -/
theorem ix_at {ms : List M} {r : Nat} {p : Pt} {cs : List M} {n : Nat} {i : Int} {Q : RV → Prop} (hs : subM ms r p = some (.nd .lst cs)) (hi : i = (n : Int)) (hn : n < cs.length) (q : child r p n Q cs[n]?) : ∃ cs, subM ms r p = some (.nd .lst cs) ∧ ∃ j, ixN cs.length i = some j ∧ child r p j Q cs[j]? := by
  subst hi
  exact ⟨cs, hs, n, ixN_nat hn, q⟩
theorem ix_lstM {α : Type} {f : α → D} {xs : List α} {ms : List M} {r : Nat} {p : Pt} {n : Nat} {i : Int} {x : α} {Q : RV → Prop} (hs : subM ms r p = some (lstM f xs)) (hi : i = (n : Int)) (hx : xs[n]? = some x) (q : Q (.d (f x))) : ∃ cs, subM ms r p = some (.nd .lst cs) ∧ ∃ j, ixN cs.length i = some j ∧ child r p j Q cs[j]? := by
  refine ix_at hs hi (by rw [List.length_map]; exact (List.getElem?_eq_some_iff.mp hx).1) ?_
  rw [List.getElem?_map, hx]
  exact q
/-- the least of a list of numbers -/
theorem min_nats {ws : List Nat} {Q : D → Prop} (h : ws ≠ []) (q : ∀ m : Nat, m ∈ ws → (∀ y ∈ ws, m ≤ y) → Q (.int (m : Int))) : fMinL [.list (ws.map fun (w : Nat) => PyData.int (w : Int))] Q := by
  refine ⟨ws.map fun (w : Nat) => (w : Int), by rw [List.map_map]; rfl, by rw [List.length_map]; exact List.length_pos_iff.mpr h, fun m hm hle => ?_⟩
  obtain ⟨w, hw, rfl⟩ := List.mem_map.mp hm
  exact q w hw fun y hy => by have := hle (y : Int) (List.mem_map.mpr ⟨y, hy, rfl⟩); omega
/-- for x in range(n, -1, -1) -/
theorem for_down {A : AE} {k : Nat} {b : AZ} {E : DX} {s : Sx} {n : Nat} (hn : n ≤ 1000000) (hA : ∀ Q : D → Prop, Q (.int (n : Int)) → A (s.e.map proj) Q) (I : Nat → Sx → Prop) (h0 : I 0 s)
    (hs : ∀ t s', t ≤ n → I t s' → b { E with nx := I (t + 1), ct := I (t + 1), bk := E.nx } { s' with e := s'.e.set k (.d (.int ((n - t : Nat) : Int))) }) (he : ∀ s', I (n + 1) s' → E.nx s') :
    zFor (xiRng3 (qCons (qLift A) (qCons (qLift (aUn fNeg (aC (.int 1)))) (qCons (qLift (aUn fNeg (aC (.int 1)))) qNil)))) (xgName k) b E s := by
  refine hA _ ?_
  have R : RgC (n : Int) (-1) (-1) (n + 1) := by
    have := RgC.neg (i := (n : Int)) (j := -1) (by omega) (by omega) (by omega) (by omega)
    rwa [show ((n : Int) - -1).toNat = n + 1 by omega] at this
  refine ⟨n + 1, R, I, h0, fun t d s' hd hI => ?_, fun s' h => he s' (by rwa [rngC_len] at h)⟩
  have ht : t < n + 1 := by have := (List.getElem?_eq_some_iff.mp hd).1; rwa [rngC_len] at this
  have ed : d = .int ((n - t : Nat) : Int) := by
    unfold rngC at hd
    rw [List.getElem?_map, List.getElem?_range ht] at hd
    have := Option.some.inj hd
    rw [← this]
    show PyData.int ((n : Int) + (t : Int) * -1) = _
    rw [show ((n : Int) + (t : Int) * -1) = ((n - t : Nat) : Int) by omega]
  subst ed
  exact hs t s' (by omega) hI
end Fe

namespace Fe
open PySem L2 Fc
section
variable {K : PySem.W.Frag} {c : Ctx K}
/-! is, of truths -/
def fIsB : A2 := fun x y Q => match x, y with | .bool a, .bool b => Q (.bool (decide (a = b))) | _, _ => False
def fNotB : A2 := fun x y Q => match x, y with | .bool a, .bool b => Q (.bool (!decide (a = b))) | _, _ => False
theorem fIsB_b {a b : Bool} {Q : D → Prop} : fIsB (.bool a) (.bool b) Q = Q (.bool (decide (a = b))) := rfl
theorem fNotB_b {a b : Bool} {Q : D → Prop} : fNotB (.bool a) (.bool b) Q = Q (.bool (!decide (a = b))) := rfl
theorem ar_isB : AbsR2 c (fun x y H Q => ∃ a b, x = V.bl a ∧ y = V.bl b ∧ Q (V.bl (decide (a = b))) H) fIsB := by
  intro G H x y dx dy k rx ry Qd Q h q
  cases rx with
  | bl a => cases ry with
    | bl b => exact ⟨a, b, rfl, rfl, q _ _ G H (.refl k) (.bl _) h⟩
    | _ => exact h.elim
  | _ => cases ry <;> exact h.elim
theorem ar_notB : AbsR2 c (fun x y H Q => ∃ a b, x = V.bl a ∧ y = V.bl b ∧ Q (V.bl (!decide (a = b))) H) fNotB := by
  intro G H x y dx dy k rx ry Qd Q h q
  cases rx with
  | bl a => cases ry with
    | bl b => exact ⟨a, b, rfl, rfl, q _ _ G H (.refl k) (.bl _) h⟩
    | _ => exact h.elim
  | _ => cases ry <;> exact h.elim
end
end Fe

namespace Fe
open PySem L2 Fc
section
variable {X : Cx} (K : PySem.W.Frag)
theorem kIndex (h : X.K = K := by rfl) : MtR X "list.index" (rIndex K) := h ▸ mt_index
theorem kiList {tg l : Expr} {tl : TE} (hl : PE X l tl) (h : X.K = K := by rfl) : PI X tg l (iList K tl) := h ▸ pi_list hl
theorem kiTup {tg l : Expr} {tl : TE} (hl : PE X l tl) (h : X.K = K := by rfl) : PI X tg l (iTup K tl) := h ▸ pi_tup hl
theorem kiAny {tg l : Expr} {tl : TE} (hl : PE X l tl) (h : X.K = K := by rfl) : PI X tg l (iAny K tl) := h ▸ pi_any hl
end
/-- for x in range(n, 0, -1) -/
theorem for_downA {A : AE} {k : Nat} {b : AS} {E : DE} {ε : En} {n : Nat} (hn : n ≤ 1000000) (hA : ∀ Q : D → Prop, Q (.int (n : Int)) → A ε Q) (I : Nat → En → Prop) (h0 : I 0 ε)
    (hs : ∀ t ε', t < n → I t ε' → b { nx := I (t + 1), ct := I (t + 1), bk := E.nx, rt := E.rt } (ε'.set k (.d (.int ((n - t : Nat) : Int))))) (he : ∀ ε', I n ε' → E.nx ε') :
    aFor (aiRng3 (aCons A (aCons (aC (.int 0)) (aCons (aUn fNeg (aC (.int 1))) aNil)))) (agName k) b E ε := by
  refine hA _ ?_
  have R : RgC (n : Int) 0 (-1) n := by
    have := RgC.neg (i := (n : Int)) (j := 0) (by omega) (by omega) (by omega) (by omega)
    rwa [show ((n : Int) - 0).toNat = n by omega] at this
  refine ⟨n, R, I, h0, fun t d ε' hd hI => ?_, fun ε' h => he ε' (by rwa [rngC_len] at h)⟩
  have ht : t < n := by have := (List.getElem?_eq_some_iff.mp hd).1; rwa [rngC_len] at this
  have ed : d = .int ((n - t : Nat) : Int) := by
    unfold rngC at hd
    rw [List.getElem?_map, List.getElem?_range ht] at hd
    have := Option.some.inj hd
    rw [← this]
    show PyData.int ((n : Int) + (t : Int) * -1) = _
    rw [show ((n : Int) + (t : Int) * -1) = ((n - t : Nat) : Int) by omega]
  subst ed
  exact hs t ε' ht hI
end Fe

namespace Fe
open PySem L2 Fc PySem.Spec PyProof.Rows
open scoped List
/-! ### sorted: of lists of pairs of ints, of dicts -/
def rSortedPT (K : PySem.W.Frag) : List V → Hp → VK → Prop := fun vs H Q => ∃ (a : Addr) (ps : List (V × Int × Int)), vs = [V.ref a] ∧ SqL K H a (ps.map (·.1)) ∧ (∀ x ∈ ps, ∃ t, x.1 = V.ref t ∧ SqT K H t [.int x.2.1, .int x.2.2]) ∧
  ∀ (qs : List (V × Int × Int)) p, qs.Perm ps → (qs.map (·.2)).Pairwise (fun x y => SrtO.lexB y x = false) → H p = none → Q (.ref p) (upd H p (.lst (qs.map (·.1))))
open Classical in
noncomputable def keyP (ps : List (V × Int × Int)) (v : V) : Int × Int := if h : ∃ k, (v, k) ∈ ps then h.choose else (0, 0)
section
variable {X : Cx}
theorem cr_sortedPT : CallR X (.builtin "sorted") (rSortedPT X.K) := by
  intro pins s σ H vs us Q I r h
  obtain ⟨a, ps, rfl, hs, hx, q⟩ := h
  have uniq : ∀ v k k', (v, k) ∈ ps → (v, k') ∈ ps → k = k' := fun v k k' h1 h2 => by
    obtain ⟨t, e, ht⟩ := hx _ h1
    obtain ⟨t', e', ht'⟩ := hx _ h2
    simp only at e e'
    subst e
    cases e'
    have := I.tuple_inj ht ht'
    simp only [List.cons.injEq, V.int.injEq, and_true] at this
    exact Prod.ext this.1 this.2
  have key : ∀ v k, (v, k) ∈ ps → keyP ps v = k := fun v k h => by
    have hex : ∃ k, (v, k) ∈ ps := ⟨k, h⟩
    unfold keyP
    rw [dif_pos hex]
    exact uniq v _ _ hex.choose_spec h
  have back : (ps.map (·.1)).map (fun v => (v, keyP ps v)) = ps := by
    rw [List.map_map]
    have : ∀ x ∈ ps, ((fun v => (v, keyP ps v)) ∘ fun x : V × Int × Int => x.1) x = id x := fun x hm => by
      show (x.1, keyP ps x.1) = x
      rw [key x.1 x.2 hm]
    rw [List.map_congr_left this, List.map_id]
  obtain ⟨its, rv, hl, hz⟩ := I.list hs
  obtain ⟨u, rfl, ru⟩ := vals1 r
  obtain rfl : u = Value.ref a := ru
  obtain ⟨e1, e2⟩ := refs_back rv fun x m => by
    obtain ⟨y, hy, rfl⟩ := List.mem_map.mp m
    obtain ⟨t, e, _⟩ := hx y hy
    exact ⟨t, e⟩
  refine SrtO.sorted_pairsO (k := fun u => keyP ps (backV u)) hl.isList (by rw [← rv.length]; exact hz) (fun v hv => ?_) fun h' d out h1 h2 kp hd hn => ?_
  · obtain ⟨t, rfl⟩ := e2 v hv
    have hm : V.ref t ∈ ps.map (·.1) := by rw [e1]; exact List.mem_map.mpr ⟨_, hv, rfl⟩
    obtain ⟨y, hy, ey⟩ := List.mem_map.mp hm
    obtain ⟨t', e, ht⟩ := hx y hy
    rw [ey] at e
    cases e
    have ek : keyP ps (V.ref t) = y.2 := by rw [← ey]; exact key y.1 y.2 hy
    obtain ⟨its2, r2, ⟨o, ho, hc, n, hd⟩, _⟩ := I.tuple ht
    obtain ⟨u1, u2, rfl, ri, rj⟩ := vals2 r2
    obtain ⟨t1, rfl⟩ := ri
    obtain ⟨t2, rfl⟩ := rj
    refine ⟨t, o, t1, t2, n, rfl, ho, hc, ?_⟩
    show o.data = .seq #[Value.int (keyP ps (V.ref t)).1 t1, Value.int (keyP ps (V.ref t)).2 t2] n
    rw [ek]; exact hd
  · have h3 : ∀ u ∈ out, ∃ a, u = Value.ref a := fun u hu => e2 u (h2.perm.mem_iff.mp hu)
    obtain ⟨n, hn⟩ := hn
    have hb : SrtO.Stb (ltP (keyP ps)) (out.map backV) (ps.map (·.1)) := by
      rw [e1]
      exact SrtO.Stb.map (ltP_swo (keyP ps)) backV h2
    have hsd : SrtO.Srtd (ltP (keyP ps)) (out.map backV) := SrtO.srtd_map h1
    have hq : ((out.map backV).map fun v => (v, keyP ps v)).Perm ps := by
      have := hb.perm.map (fun v => (v, keyP ps v))
      rwa [back] at this
    have hf : ((out.map backV).map fun v => (v, keyP ps v)).map (·.1) = out.map backV := by
      rw [List.map_map]
      exact List.map_id _
    refine ⟨.ref d, upd H d (.lst (out.map backV)), I.laid (t' := s.toks) kp hd ⟨?_, out, n, vals_back h3, hn⟩, rfl, ?_⟩
    · rw [hb.len]
      exact hz
    · have := q ((out.map backV).map fun v => (v, keyP ps v)) d hq (by
        rw [List.map_map, List.pairwise_map]
        exact hsd.imp (fun h => h)) (I.hok.fresh hd)
      rwa [hf] at this
theorem kSortedPT (K : PySem.W.Frag) (h : X.K = K := by rfl) : CallR X (.builtin "sorted") (rSortedPT K) := h ▸ cr_sortedPT
end
def pairI (p : Int × Int) : D := .tuple [.int p.1, .int p.2]
section
variable {K : PySem.W.Frag} {cm : Nat → Addr} {c : Cz K cm} {W : WX} {s s' : Sx} {ns : List N} {hs : List V} {σ : L2.St} {G H G' H' Hs G2 H2 : Hp}
/-- the items of a list of data -/
def listOf (s : Sx) : RV → List D → Prop
  | .d (.list xs), ys => ys = xs
  | .at r p, ys => subM s.r r p = some (.nd .lst (ys.map M.d))
  | .new m, ys => m = .nd .lst (ys.map M.d)
  | _, _ => False
theorem listOf_d {s : Sx} {xs ys : List D} : listOf s (.d (.list xs)) ys = (ys = xs) := rfl
theorem listOf_at {s : Sx} {r : Nat} {p : Pt} {ys : List D} : listOf s (.at r p) ys = (subM s.r r p = some (.nd .lst (ys.map M.d))) := rfl
theorem listOf_new {s : Sx} {m : M} {ys : List D} : listOf s (.new m) ys = (m = .nd .lst (ys.map M.d)) := rfl
theorem list_rv (rl : Rl c s ns hs σ G H) {v : V} {rv : RV} {ys : List D} (h : RvX c ns Hs G H v rv) (e : listOf s rv ys) : ∃ p vs, v = .ref p ∧ SqL K H p vs ∧ RvA K G vs ys := by
  cases rv with
  | d x =>
    cases x with
    | list xs =>
      cases e
      cases h with
      | @lst p vs _ hp hA => exact ⟨p, vs, rfl, SqL.of (rl.ex _ _ hp), hA⟩
    | _ => exact e.elim
  | «at» r p =>
    obtain ⟨n, h1, h2, rfl⟩ := h
    obtain ⟨a, da, cs, e3, e4⟩ := rl.at (show subM s.r r p = some (.nd .lst (ys.map M.d)) from e)
    rw [h1] at e3
    cases e3
    exact ⟨a, cs.map N.val, rfl, SqL.of (cell_head rl h1 (a, _) (by simp [hdO])), leafs_of cs ys (fun l hl => (rl.sub h1).2 l (by simpa [N.leaves] using hl)) e4⟩
  | new m =>
    obtain ⟨n, h1, rfl, h3, h4, h5, h6⟩ := h
    obtain rfl : m = _ := e
    cases n with
    | nd a da k cs =>
      simp only [N.erase, M.nd.injEq] at h1
      obtain ⟨rfl, h1⟩ := h1
      exact ⟨a, cs.map N.val, rfl, SqL.of (h4 (a, _) (by simp [N.cells, hdO])).1, leafs_of cs ys (fun l hl => h5 l (by simpa [N.leaves] using hl)) h1⟩
    | _ => exact h3.elim
  | exc e' => exact e.elim
  | tape => exact e.elim
theorem pairs_of : ∀ {vs : List V} {ps : List (Int × Int)}, RvA K G vs (ps.map pairI) → ∃ xs : List (V × Int × Int), xs.map (·.1) = vs ∧ xs.map (·.2) = ps ∧ (∀ x ∈ xs, ∃ t, x.1 = V.ref t ∧ SqT K G t [.int x.2.1, .int x.2.2]) ∧ ∀ x ∈ xs, Rv K G x.1 (pairI x.2)
  | _, [], .nil => ⟨[], rfl, rfl, fun _ h => by simp at h, fun _ h => by simp at h⟩
  | v :: vs, p :: ps, .cons hv hr => by
    obtain ⟨xs, h1, h2, h3, h4⟩ := pairs_of (ps := ps) hr
    refine ⟨(v, p) :: xs, by simp [h1], by simp [h2], fun x hx => ?_, fun x hx => ?_⟩
    · rcases List.mem_cons.mp hx with rfl | hx
      · unfold pairI at hv
        cases hv with
        | @tup t us _ ht hA =>
          have e := RvA.ints (xs := [p.1, p.2]) hA
          subst e
          exact ⟨t, rfl, ht⟩
      · exact h3 x hx
    · rcases List.mem_cons.mp hx with rfl | hx
      · exact hv
      · exact h4 x hx
theorem rvA_of : ∀ (qs : List (V × Int × Int)), (∀ x ∈ qs, Rv K G x.1 (pairI x.2)) → RvA K G (qs.map (·.1)) ((qs.map (·.2)).map pairI)
  | [], _ => .nil
  | q :: qs, h => .cons (h q List.mem_cons_self) (rvA_of qs fun x hx => h x (List.mem_cons_of_mem _ hx))
/-- sorted(x) of pairs of ints, one's own -/
def qSortP (a : AQ) : AQ := fun ex s Q => a ex s fun x => ∃ ps : List (Int × Int), listOf s x (ps.map pairI) ∧ ∀ qs : List (Int × Int), qs.Perm ps → qs.Pairwise (fun x y => SrtO.lexB y x = false) → Q (.new (.nd .lst ((qs.map pairI).map M.d)))
theorem q_sortP {ta : TE} {a : AQ} (ha : AbsQ c W ta a) : AbsQ c W (tCB (rSortedPT K) (tCons ta tNil)) (qSortP a) := by
  intro s ns hs σ G H rl ex hx Qd Q h q
  refine ha s ns hs σ G H rl ex hx _ _ h fun v rv G1 H1 q1 r1 h1 => ?_
  obtain ⟨ps, e, h1⟩ := h1
  have rl1 := rl.quiet q1
  obtain ⟨p, vs, rfl, hS, hA⟩ := list_rv rl1 r1 e
  obtain ⟨xs, e1, e2, e3, e4⟩ := pairs_of hA
  refine ⟨p, xs, rfl, by rw [e1]; exact hS, fun x hx => ?_, fun qs l hp hsd hl => ?_⟩
  · obtain ⟨t, g1, g2⟩ := e3 x hx
    exact ⟨t, g1, rl1.ex.sqt g2⟩
  · have hB := rvA_of qs fun x hx => e4 x (hp.mem_iff.mp hx)
    obtain ⟨q2, x2⟩ := new_lst rl1 hB hl
    exact q _ _ G1 _ (q1.tr q2) (x2.early fun b hb => q1.th rl.tp b hb) (h1 (qs.map (·.2)) (by rw [← e2]; exact hp.map _) hsd)
/-- the keys of a dict -/
def keysOf (s : Sx) : RV → List Key → Prop
  | .d (.dict m), ks => m.map (·.1) = ks.map kD
  | .at r p, ks => ∃ cs, subM s.r r p = some (.nd (.dic ks) cs) ∧ ks.length = cs.length
  | .new m, ks => ∃ cs, m = .nd (.dic ks) cs ∧ ks.length = cs.length
  | _, _ => False
theorem kD_inj : ∀ {a b : List Key}, a.map kD = b.map kD → a = b
  | [], [], _ => rfl
  | [], _ :: _, h => by simp at h
  | _ :: _, [], h => by simp at h
  | x :: a, y :: b, h => by
    simp only [List.map_cons, List.cons.injEq] at h
    rw [kD_inj h.2]
    congr 1
    cases x <;> cases y <;> simp [kD] at h <;> simp [h.1]
theorem keys_rv (rl : Rl c s ns hs σ G H) {v : V} {rv : RV} {ks : List Key} (h : RvX c ns Hs G H v rv) (e : keysOf s rv ks) : ∃ p kvs, v = .ref p ∧ H p = some (.dK kvs) ∧ kvs.map (·.1) = ks := by
  cases rv with
  | d x =>
    cases x with
    | dict m =>
      obtain ⟨p, kvs, rfl, e1, e2⟩ : ∃ p kvs, v = .ref p ∧ G p = some (.dK kvs) ∧ (kvs.map (·.1)).map kD = m.map (·.1) := by
        generalize hd : PyData.dict m = d at h
        cases h with
        | @dic p kvs kds hp hk hA =>
          cases hd
          exact ⟨p, kvs, rfl, hp, by rw [hk, List.map_map, List.map_map]; rfl⟩
        | pl _ _ _ =>
          cases hd
          cases ks with
          | nil => cases e
          | cons a r => cases a <;> cases e
        | _ => cases hd
      exact ⟨p, kvs, rfl, rl.ex _ _ e1, kD_inj (e2.trans e)⟩
    | _ => exact e.elim
  | «at» r p =>
    obtain ⟨n, h1, h2, rfl⟩ := h
    obtain ⟨ms, e, hl⟩ := e
    obtain ⟨a, da, cs, e3, rfl⟩ := rl.at e
    rw [h1] at e3
    cases e3
    rw [eraseL_map, List.length_map] at hl
    exact ⟨a, ks.zip (cs.map N.val), rfl, cell_head rl h1 (a, .dK (ks.zip (cs.map N.val))) (by simp only [hdO, List.mem_singleton]), List.map_fst_zip (by rw [List.length_map]; omega)⟩
  | new m =>
    obtain ⟨n, h1, rfl, h3, h4, h5, h6⟩ := h
    obtain ⟨ms, rfl, hl⟩ := e
    cases n with
    | nd a da k cs =>
      simp only [N.erase, M.nd.injEq] at h1
      obtain ⟨rfl, rfl⟩ := h1
      rw [eraseL_map, List.length_map] at hl
      exact ⟨a, ks.zip (cs.map N.val), rfl, (h4 (a, .dK (ks.zip (cs.map N.val))) (by simp only [N.cells, hdO, List.mem_append, List.mem_singleton, true_or])).1, List.map_fst_zip (by rw [List.length_map]; omega)⟩
    | _ => exact h3.elim
  | exc e' => exact e.elim
  | tape => exact e.elim
/-- sorted(d) of a dict with int keys, with text keys -/
def qSortDI (a : AQ) : AQ := fun ex s Q => a ex s fun x => ∃ ks : List Int, keysOf s x (ks.map Sum.inl) ∧ ks.length < 64 ∧ ∀ ys : List Int, ys.Perm ks → ys.Pairwise (· ≤ ·) → Q (.new (.nd .lst ((ys.map PyData.int).map M.d)))
theorem q_sortDI {ta : TE} {a : AQ} (ha : AbsQ c W ta a) : AbsQ c W (tCB (fun xs H Q => ∃ (a : Addr) (kvs : List (Key × V)) (ks : List Int), xs = [.ref a] ∧ Rd H a (.dK kvs) ∧ kvs.map (·.1) = ks.map Sum.inl ∧ ks.length < 64 ∧
    ∀ (ys : List Int) (p : Addr), ys.Perm ks → ys.Pairwise (· ≤ ·) → H p = none → Q (.ref p) (upd H p (.lst (ys.map V.int)))) (tCons ta tNil)) (qSortDI a) := by
  intro s ns hs σ G H rl ex hx Qd Q h q
  refine ha s ns hs σ G H rl ex hx _ _ h fun v rv G1 H1 q1 r1 h1 => ?_
  obtain ⟨ks, e, hl, h1⟩ := h1
  have rl1 := rl.quiet q1
  obtain ⟨p, kvs, rfl, hk, ek⟩ := keys_rv rl1 r1 e
  refine ⟨p, kvs, ks, rfl, .inl hk, ek, hl, fun ys l hp hsd hl => ?_⟩
  obtain ⟨q2, x2⟩ := new_lst rl1 (RvA.ofInts ys) hl
  exact q _ _ G1 _ (q1.tr q2) (x2.early fun b hb => q1.th rl.tp b hb) (h1 ys hp hsd)
def qSortDS (a : AQ) : AQ := fun ex s Q => a ex s fun x => ∃ ks : List Str, keysOf s x (ks.map Sum.inr) ∧ ks.length < 64 ∧ ∀ ys : List Str, ys.Perm ks → sortedS ys = true → Q (.new (.nd .lst ((ys.map PyData.str).map M.d)))
theorem q_sortDS {ta : TE} {a : AQ} (ha : AbsQ c W ta a) : AbsQ c W (tCB (fun xs H Q => ∃ (a : Addr) (kvs : List (Key × V)) (ks : List Str), xs = [.ref a] ∧ Rd H a (.dK kvs) ∧ kvs.map (·.1) = ks.map Sum.inr ∧ ks.length < 64 ∧
    ∀ ys p, ys.Perm ks → sortedS ys = true → H p = none → Q (.ref p) (upd H p (.lst (ys.map V.str)))) (tCons ta tNil)) (qSortDS a) := by
  intro s ns hs σ G H rl ex hx Qd Q h q
  refine ha s ns hs σ G H rl ex hx _ _ h fun v rv G1 H1 q1 r1 h1 => ?_
  obtain ⟨ks, e, hl, h1⟩ := h1
  have rl1 := rl.quiet q1
  obtain ⟨p, kvs, rfl, hk, ek⟩ := keys_rv rl1 r1 e
  refine ⟨p, kvs, ks, rfl, .inl hk, ek, hl, fun ys l hp hsd hl => ?_⟩
  obtain ⟨q2, x2⟩ := new_lst rl1 (RvA.ofStrs ys) hl
  exact q _ _ G1 _ (q1.tr q2) (x2.early fun b hb => q1.th rl.tp b hb) (h1 ys hp hsd)
/-- a.extend(b), b a datum -/
def extV (E : DX) (s : Sx) (r : Nat) (p : Pt) (cs : List M) : RV → Prop
  | .d (.list zs) => cs.length + zs.length ≤ sizeLine ∧ E.nx { s with r := putM s.r r p (.nd .lst (cs ++ zs.map M.d)) }
  | _ => False
theorem extV_d {E : DX} {s : Sx} {r : Nat} {p : Pt} {cs : List M} {zs : List D} : extV E s r p cs (.d (.list zs)) = (cs.length + zs.length ≤ sizeLine ∧ E.nx { s with r := putM s.r r p (.nd .lst (cs ++ zs.map M.d)) }) := rfl
def zExtend (lo : Nat) (a : AQ) (b : AQ) : AZ := fun E s => a E.ex s fun x => (match x with
  | .at r p => lo ≤ r ∧ ∃ cs, subM s.r r p = some (.nd .lst cs) ∧ b E.ex s fun y => extV E s r p cs y
  | _ => False)
theorem z_extend {lo : Nat} {ta tb : TE} {a b : AQ} (hlo : c.lo = lo) (ha : AbsQ c W ta a) (hb : AbsQ c W tb b) : AbsZ c W (tDrop (tBM K "list" rExtend ta (tCons tb tNil))) (zExtend lo a b) := by
  intro s ns hs σ G H rl E D' h k
  refine ha s ns hs σ G H rl E.ex k.ex _ _ h fun v x G1 H1 q1 r1 h1 => ?_
  have rl1 := rl.quiet q1
  cases x with
  | «at» r p =>
    obtain ⟨l1, ms, hm, h1⟩ := h1
    obtain ⟨n, e1, e2, rfl⟩ := r1
    obtain ⟨a1, da1, cs1, e3, rfl⟩ := rl1.at hm
    rw [e1] at e3
    cases e3
    refine ⟨.inl ⟨rfl, cs1.map N.val, SqL.of (cell_head rl1 e1 (a1, _) (by simp [hdO]))⟩, ?_⟩
    refine hb s ns hs σ G1 H1 rl1 E.ex (k.ex.mono q1.gg) _ _ h1 fun v y G2 H2 q2 r2 h2 => ?_
    have rl2 := rl1.quiet q2
    unfold extV at h2
    split at h2
    · rename_i zs
      obtain ⟨hlen, h2⟩ := h2
      cases r2 with
      | @lst b vs _ hp hA =>
        refine ⟨a1, b, cs1.map N.val, vs, rfl, rfl, cell_head rl2 e1 (a1, _) (by simp [hdO]), rl2.ex _ _ hp, by rw [eraseL_map, List.length_map] at hlen; rw [List.length_map, hA.length]; exact hlen, ?_⟩
        obtain ⟨d1, d2, d3, d4⟩ := dN_ok (cm := cm) hA
        have lv1 : ∀ l ∈ leavesL cs1, Rv K G2 l.1 l.2 := fun l hl => (rl2.sub e1).2 l (by simpa [N.leaves] using hl)
        have ev : (cs1 ++ dN vs zs).map N.val = cs1.map N.val ++ vs := by rw [List.map_append, d3]
        have r3 := rl2.nodeS (nw := []) (cs' := cs1 ++ dN vs zs) (k' := .lst) (H' := upd H2 a1 (.lst (cs1.map N.val ++ vs))) e1 (by omega) (by simp [hdO]) ⟨[], by simp [cellsL_append, cellsL, d2]⟩ (fun x hx => by simp [cellsL] at hx) (by simp [cellsL])
          (fun l hl => by
            rw [leavesL_append, List.mem_append] at hl
            rcases hl with hl | hl
            · exact lv1 l hl
            · exact d4 l hl) (fun b hb => upd_ne fun z => hb (by simp [hdO, z])) (fun x hx => by rw [ev] at hx; simp only [hdO, List.mem_singleton] at hx; subst hx; exact upd_same)
          (fun j n hj _ => by rw [List.getElem?_append_left (List.getElem?_eq_some_iff.mp hj).1]; exact hj)
        have e5 : eraseL (cs1 ++ dN vs zs) = eraseL cs1 ++ zs.map M.d := by rw [← d1]; simp [eraseL_map]
        rw [e5] at r3
        exact k.nx _ _ hs σ G2 _ r3 (q1.gg.trans q2.gg) h2
    · exact h2.elim
  | _ => exact h1.elim
end
end Fe

namespace L2
open PySem PySem.Spec PyProof.Rows Fe
/-! ### an exception that was caught is kept -/
section
variable {X : Cx} {pins : List (Addr × Obj)} {σ : L2.St} {H : Hp} {s : Shared}
/-- an object that came behind the entry is tracked from now on -/
theorem Inv.track {a : Addr} {φ : Heap → Prop} (I : Inv X pins σ H s) (n0 : X.s_0.heap.get? a = none) (na : H a = none) (nL : a ≠ X.env.locals) (nc : ∀ x c, X.env.cells.lookup x = some c → c ≠ a) (np : ∀ p ∈ X.pn ++ pins, p.1 ≠ a)
    (new : ObjOk X.prog X.w (upd H a (.ext φ)) s.heap a (.ext φ)) : Inv X pins σ (upd H a (.ext φ)) s where
  ok := I.ok
  os := I.os
  bare := I.bare
  base := ⟨I.base.keep, I.base.slot, fun b o q n hx => by
      rw [upd_ne (fun z => by rw [z, n0] at q; cases q)]; exact I.base.free b o q n hx, I.base.there, fun b xs q => by
      have h := I.base.tups b xs q
      rw [upd_ne (ne_of_none h na)]; exact h, fun b o u q => by
      have h := I.base.frzs b o u q
      rw [upd_ne (ne_of_none h na)]; exact h, fun b ps q => by
      obtain ⟨m, h⟩ := I.base.tbls b ps q
      exact ⟨m, by rw [upd_ne (ne_of_none h na)]; exact h⟩⟩
  loc := I.loc
  cell := I.cell
  free := by rw [upd_ne (Ne.symm nL)]; exact I.free
  freeC := fun x c e => by rw [upd_ne (nc x c e)]; exact I.freeC x c e
  pin := fun p hp => by
    obtain ⟨h1, h2, h3, h4, h5⟩ := I.pin p hp
    exact ⟨h1, by rw [upd_ne (np p hp)]; exact h2, h3, h4, h5⟩
  hok := fun b u e => by
    by_cases hb : b = a
    · subst hb
      rw [upd_same] at e
      cases e
      exact new
    · rw [upd_ne hb] at e
      exact (I.hok b u e).stay (fun c v _ q => q) (fun c q => by rw [upd_ne (ne_of_none q na)]; exact q) fun c xs q => by rw [upd_ne (ne_of_none q na)]; exact q
  len := I.len
theorem exH_ok {P : Program} {w : World} {H : Hp} {h : Heap} {a : Addr} {cls : Value} {d : Option Addr} {oe : Obj} {vs : Array Value} (e : h.get? a = some oe) (z : Zc cls d oe) (hd : oe.data = .fields vs) : ObjOk P w H h a (ExH cls d a) :=
  ⟨⟨oe, vs, e, z, hd⟩, ⟨oe, e⟩, fun _ _ ⟨o, v, q, r⟩ k => ⟨o, v, k o q, r⟩⟩
/-- isinstance(e, c), e an exception that was kept -/
def rIsX (K : PySem.W.Frag) : List V → Hp → VK → Prop := fun xs H Q => ∃ (a D : Addr) (c : V) (cv : Value) (b : Bool), xs = [.ref a, c] ∧ H a = some (ExH (.ref D) none a) ∧ ExcC K D ∧ (∀ u, RelV c u → u = cv) ∧ PySem.W.kitOne K (.ref D) cv = some b ∧ Q (.bl b) H
theorem call_isX : CallR X (.builtin "isinstance") (rIsX X.K) := by
  intro pins s σ H xs us Q I r h
  obtain ⟨a, D, c, cv, b, rfl, ha, C, hcv, e, q⟩ := h
  cases r with
  | cons rx rr =>
    cases rr with
    | cons rt rr =>
      cases rr
      cases rx
      have ec := hcv _ rt
      subst ec
      obtain ⟨⟨oe, vs, hget, hz, hv⟩, _, _⟩ := I.hok a _ ha
      have J : PySem.W.InstAt s.heap a oe D none := by
        obtain ⟨oc, od, oda, osl⟩ := oe
        obtain ⟨h1, h2⟩ := hz
        dsimp only at h1 h2 hv
        subst h1 h2 hv
        exact ⟨hget, rfl, rfl, trivial⟩
      exact PySem.W.kia_one (PySem.W.handS_kitx_exc C.hg C.hk C.hs C.hd C.ha C.hn C.ht C.hm) I.kIn J e (fun z => nomatch z) fun tk => ⟨.bl b, H, I.kept (t' := tk) fun _ _ z => z, rfl, q⟩
theorem kIsX (K : PySem.W.Frag) (h : X.K = K := by rfl) : CallR X (.builtin "isinstance") (rIsX K) := h ▸ call_isX
end
/-- as wAs, and the exception is kept -/
def wKeep (K : PySem.W.Frag) (c : Value) (i : Nat) (ts : Addr → Value → Option Addr → TS) (Wout : WX) (D : Ends) : WX := fun cls d σ H =>
  ∃ b, PySem.W.exmOne K cls c = some b ∧ (b = true → ∀ a, H a = none → ts a cls d { nx := fun σ' H' => D.nx (σ'.set i none) (upd H' a (ExH cls d a)), rt := fun v H' => D.rt v (upd H' a (ExH cls d a)), bk := fun σ' H' => D.bk (σ'.set i none) (upd H' a (ExH cls d a)), ct := fun σ' H' => D.ct (σ'.set i none) (upd H' a (ExH cls d a)) } (σ.set i (some (.ref a))) H) ∧
    (b = false → Wout cls d σ H)
section
variable {X : Cx} {pins : List (Addr × Obj)} {σ : L2.St} {H : Hp}
/-- what is known of an exception that comes out of a try's body -/
structure Flew (X : Cx) (pins : List (Addr × Obj)) (σ : L2.St) (H : Hp) (a : Addr) (cls : Value) (d : Option Addr) (B : Heap) (s0 s1 : Shared) : Prop where
  inv : Inv X pins σ H s0
  old : ∀ b o, s0.heap.get? b = some o → b ∉ frs X.stack → B.get? b = some o
  sl : s0.heap.UpToSlots s1.heap
  fl : Sky B X.stack a (Zc cls d) X.env.locals s1.heap
  na : H a = none
  os : s1.os = s0.os
  ag : AllBare s1.gens
variable {a : Addr} {cls : Value} {d : Option Addr} {B : Heap} {s0 s1 : Shared}
/-- it landed: the heap g has it at a -/
structure Landed (X : Cx) (pins : List (Addr × Obj)) (σ : L2.St) (H : Hp) (a : Addr) (cls : Value) (d : Option Addr) (s : Shared) : Prop where
  inv : Inv X pins σ H s
  ob : ∃ oe vs, s.heap.get? a = some oe ∧ Zc cls d oe ∧ oe.data = .fields vs
  nL : a ≠ X.env.locals
  nF : a ∉ X.fs
  n0 : X.s_0.heap.get? a = none
  np : ∀ p ∈ X.pn ++ pins, p.1 ≠ a
  nc : ∀ x c, X.env.cells.lookup x = some c → c ≠ a
theorem Flew.landed (F : Flew X pins σ H a cls d B s0 s1) (stk : X.stack = X.env :: X.outer) (fra : X.env.frame = some X.env.locals) (hex : X.ex = []) {g : Heap} (fz : HandSPX.FlyingZ B (X.env :: X.outer) a (Zc cls d) g) (u : s1.heap.UpToSlots g) : Landed X pins σ H a cls d { s1 with heap := g } := by
  obtain ⟨oe, vs, at1, zc1, fd1⟩ := fz.there
  have noframe : a ∉ frs (X.env :: X.outer) := fun inF => by
    obtain ⟨_, other, at2, notRec⟩ := fz.2.2.1.mem inF
    cases at1.symm.trans at2
    exact notRec _ fd1
  have unborn : s0.heap.get? a = none := Option.eq_none_iff_forall_ne_some.mpr fun o q => by
    have z := F.old a o q (by rw [stk]; exact noframe)
    rw [fz.2.1] at z
    cases z
  refine ⟨F.inv.landed F.old fz.1 (F.sl.trans u) F.os F.ag, ⟨oe, vs, at1, zc1, fd1⟩, fun z => ?_, fun inF => ?_, ?_, fun p hp z => ?_, fun y c e z => ?_⟩
  · exact noframe (List.mem_filterMap.mpr ⟨X.env, .head _, fra.trans (congrArg some z.symm)⟩)
  · obtain ⟨v, hv, q⟩ := List.mem_filterMap.mp inF
    exact noframe (List.mem_filterMap.mpr ⟨v, .tail _ hv, q⟩)
  · refine Option.eq_none_iff_forall_ne_some.mpr fun o q => ?_
    obtain ⟨o2, z⟩ := F.inv.base.there a o q (by rw [hex]; exact List.not_mem_nil)
    rw [unborn] at z
    cases z
  · have q := (F.inv.pin p hp).1
    rw [z, unborn] at q
    cases q
  · obtain ⟨_, o, q, _⟩ := F.inv.cell y c e
    rw [z, unborn] at q
    cases q
end
section
variable {X : Cx} {x n : Str} {c : Value} {i : Nat} {body suite : List Stmt} {st₀ : Stmt} {np pos pos' : Pos} {tb : WX → TS} {ts : Addr → Value → Option Addr → TS} {Wout : WX}
/-- try: body, except x as n: suite; what was caught is kept in the heap -/
theorem ps_try_keep (stk : X.stack = X.env :: X.outer) (fra : X.env.frame = some X.env.locals) (hex : X.ex = []) (nod : X.N.Nodup) (ni : X.N[i]? = some n) (loc : X.env.kindOf n = some .local) (nam : Names X x c) (out : Takes X Wout)
    (bod : ∀ (W : WX) (pn : List (Addr × Obj)) (xe : Value → Shared → Prop), Takes (X.tr pn xe) W → PassesOwn (model X.prog X.w) X.A X.env xe → PSs (X.tr pn xe) body (tb W))
    (sui : ∀ (a : Addr) (oe : Obj) (cls : Value) (d : Option Addr) (pn : List (Addr × Obj)), Zc cls d oe → (∃ vs, oe.data = .fields vs) → PSs (X.suite a ((a, oe) :: pn)) (st₀ :: suite) (ts a cls d)) :
    PS X (.Try body [.ExceptHandler (some (.Name x np)) (some n) (st₀ :: suite) pos'] [] [] pos) (fun D σ H => tb (wKeep X.K c i ts Wout D) D σ H) := by
  refine ⟨fun pins s σ H D inv0 wish => ?_⟩
  have fr1 : X.A.frames = some (X.env :: X.outer) := inv0.ok.frames.trans (congrArg some stk)
  refine wpAny_Try_except (wpAny_mono ((bod (wKeep X.K c i ts Wout D) (X.pn ++ pins) _ (fun v s1 hit => ?_) PassesOwn.looking).run [] s σ H D (inv0.toTry _) wish) (fun f s1 q => ?_) (fun _ _ q => q))
  case refine_2 =>
    cases f with
    | ret u =>
      obtain ⟨r, σ2, H2, j, q1, q2⟩ := q
      exact ⟨r, σ2, H2, j.ofTry inv0.ok, q1, q2⟩
    | next => exact (fun ⟨σ2, H2, j, q2⟩ => wpAny_execs_nil ⟨σ2, H2, j.ofTry inv0.ok, q2⟩) q
    | brk => exact (fun ⟨σ2, H2, j, q2⟩ => ⟨σ2, H2, j.ofTry inv0.ok, q2⟩) q
    | cont => exact (fun ⟨σ2, H2, j, q2⟩ => ⟨σ2, H2, j.ofTry inv0.ok, q2⟩) q
  case refine_1 =>
    obtain ⟨a, B, s0, pins2, σ2, H2, cls, d, rfl, j0, old, sl, sky, na, os, ag, b, isb, yes, nope⟩ := hit
    have F : Flew X pins σ2 H2 a cls d B s0 s1 := ⟨j0.ofTry inv0.ok, old, sl, sky, na, os, ag⟩
    refine Sky.land Zc.steady fr1 fra (by rw [← stk]; exact sky) fun g1 fz1 u1 => ?_
    have L1 := F.landed stk fra hex fz1 u1
    obtain ⟨oe1, vs1, at1, zc1, fd1⟩ := L1.ob
    have inS := L1.inv.suite at1 fd1 na L1.nL L1.nF
    have looks : PySem.W.Looks (model X.prog X.w) g1 (typeOf (.ref a)) cls := fun _ _ _ _ k q => wpAny_typeOf_ref (k _ _ at1) (zc1.1.symm ▸ q)
    refine wpAny_handleBy_cons (codeAny_handlers_test ?_) (fun z => nomatch z)
    have named : ∀ {R : Value → Shared → Prop} {T : Value → Shared → Prop}, R c { s1 with heap := g1 } → wpAny (model X.prog X.w) (X.A.mark (some (.ref a))) (eval (.Name x np) X.env) R T { s1 with heap := g1 } := fun q => by
      rcases nam with ⟨gl, db, own | ⟨no, bt, nn⟩⟩
      · exact ld_glob (X := X.suite a ((a, oe1) :: (X.pn ++ pins))) inS gl own q db
      · exact ld_blt (X := X.suite a ((a, oe1) :: (X.pn ++ pins))) inS gl no bt q nn db
    refine named ((PySem.W.exm_one (M := model X.prog X.w) L1.inv.kIn looks isb).here ?_)
    cases b with
    | false =>
      refine wpAny_handleBy_nil ?_
      obtain ⟨_, _, _, oe, vs, tb1, _, _, at2, _, fd2, tr2, _⟩ := id fz1
      unfold PySem.passOn
      refine wpAny_bind (wpAny_field at2 fd2 tr2 ?_)
      rw [if_neg (by simp : ¬ ((Value.ref tb1 == Value.none) = true))]
      have on : wpAny (model X.prog X.w) X.A (setFlight (.ref a) X.env.frame) (fun _ s4 => wpAny (model X.prog X.w) X.A (throw (.ref a) : Sem Flow) (SP X pins D) X.xe s4) X.xe { s1 with heap := g1 } := by
        rw [fra]
        exact HandSPX.setFlight_upZ fz1 fun g4 held u4 => wpAny_throw (out _ _ ⟨a, B, s0, pins, σ2, H2, cls, d, rfl, F.inv, old, (sl.trans u1).trans u4, .inr (.inr (by rw [stk]; exact held)), na, os, ag, nope rfl⟩)
      first | exact wpAny_bind on | exact wpAny_bind (wpAny_pure (wpAny_bind on))
    | true =>
      refine codeAny_handlers_suite_as (HandSPX.lands_againZ fz1 fun g2 fz2 u2 => ?_)
      have L2' := F.landed stk fra hex fz2 (u1.trans u2)
      obtain ⟨oe2, vs2, at2, zc2, fd2⟩ := L2'.ob
      refine store_ok (X := X.suite a ((a, oe2) :: (X.pn ++ pins))) (v := .ref a) (L2'.inv.suite at2 fd2 na L2'.nL L2'.nF) nod ni (.inl loc) rfl (fun s5 j5 => ?_) (.inr loc)
      refine wpAny_mono ((sui a oe2 cls d (X.pn ++ pins) zc2 ⟨_, fd2⟩).run [] s5 _ H2 _ j5 (yes rfl a na)) (fun f s6 q => ?_) (fun _ _ z => z.elim)
      have fin : ∀ {σ6 : L2.St} {H6 : Hp} {R : Shared → Prop}, Inv (X.suite a ((a, oe2) :: (X.pn ++ pins))) [] σ6 H6 s6 → (∀ s7, Inv X pins (σ6.set i none) (upd H6 a (ExH cls d a)) s7 → R s7) →
          wpAny (model X.prog X.w) X.A (do bindName X.env n .none; unbindBehindTheSuite X.env n pos') (fun _ s7 => R s7) X.xe s6 := fun j6 r => by
        obtain ⟨g1, g2, _⟩ := j6.pin (a, oe2) (List.mem_append.mpr (.inl (.head _)))
        exact gone_ok ((j6.unsuite inv0.ok).track L2'.n0 g2 L2'.nL L2'.nc L2'.np (exH_ok g1 zc2 fd2)) nod ni loc r
      cases f with
      | ret u => exact (fun ⟨_, _, _, j6, r6, q6⟩ => fin j6 fun s7 j7 => ⟨_, _, _, j7, r6, q6⟩) q
      | next => exact (fun ⟨_, _, j6, q6⟩ => fin j6 fun s7 j7 => ⟨_, _, j7, q6⟩) q
      | brk => exact (fun ⟨_, _, j6, q6⟩ => fin j6 fun s7 j7 => ⟨_, _, j7, q6⟩) q
      | cont => exact (fun ⟨_, _, j6, q6⟩ => fin j6 fun s7 j7 => ⟨_, _, j7, q6⟩) q
end
end L2

namespace Fe
open PySem L2 Fc
open scoped List
/-! ### exceptions: raised, caught, kept, asked for their class -/
theorem takesF {X : Cx} : Takes X (fun _ _ _ _ => False) := fun _ _ ⟨_, _, _, _, _, _, _, _, _, _, _, _, _, _, _, _, z⟩ => z.elim
theorem Df.okX {P : Program} {w : World} {K : PySem.W.Frag} {mg : Str → Option Value} {base : Heap} {x : Str} {st : Stmt} {f : Addr} {fd : FuncData} {N ps : List Str} {k : Nat} {sp : Sp} {CX : CXT} (d : Df K mg x st ps f fd) (S : FnScope N ps (defScope st)) (len : ∀ vs H Q E, sp vs H Q E → vs.length = ps.length)
    (body : ∀ (cdv : Value) (A : Around) (outer : List Env) (s : Shared) (H : Hp) (vs : List V) (Q : VK) (E : XK), Room k (A.deeper (PyProof.Rows.envOfC x (defScope st) s.heap.objs.size f cdv)) → sp vs H Q E →
      ∃ t, PSs (cxOf CX P w K mg base N x (defScope st) f cdv A outer s H E) (defBody st) t ∧ t { nx := fun _ H' => Q .non H', rt := Q } (L2.start N vs) H) : FnOk P w K mg base CX (k + 1) f fd ps sp := by
  obtain ⟨dvs, F⟩ := d.F
  exact F.ok S len body
abbrev veB : List Value := [.type "ValueError", .type "Exception", .type "BaseException", .type "object"]
def excOne (K : PySem.W.Frag) (F D : Addr) : Bool :=
  (PySem.W.findIn K (.ref D) "__getattribute__" == some (some (.builtin "BaseException.__getattribute__"))) && (PySem.W.findIn K (.ref D) "__getattr__" == some none) &&
  (PySem.W.subIn K (.ref D) (.type "BaseException") == some true) && PySem.W.hasDictIn K D && (PySem.W.findIn K (.ref D) "__class__" == some (some (.builtin "object.__class__"))) &&
  (PySem.W.mroIn K D (.type "object") == some true) && (PySem.W.exmOne K (.ref D) (.ref F) == some true) && (PySem.W.kitOne K (.ref D) (.type "ValueError") == some true)
/-- the classes cs, each by each -/
def excTab (K : PySem.W.Frag) (F : Addr) (cs : List Addr) : Bool :=
  (PySem.W.specialIn K (.builtin "object.__class__") "__get__" == some (some (.builtin "getset_descriptor.__get__"))) && (PySem.W.takesIn K (.builtin "object.__class__") == some true) &&
  decide cs.Nodup && cs.all fun D => excOne K F D && cs.all fun C => PySem.W.kitOne K (.ref D) (.ref C) == some (decide (D = C))
/-- what is raised with a text alone -/
def excRaise (K : PySem.W.Frag) (D : Addr) : Bool := PySem.W.excIn K D veB "ValueError.__new__" && PySem.W.keepIn K (.ref D) && (PySem.W.subIn K (.ref D) (.type "BaseException") == some true) && (PySem.W.typeIn K (.ref D) == some (.type "type"))
structure ExcFacts (K : PySem.W.Frag) (F D : Addr) : Prop where
  c : ExcC K D
  m : PySem.W.exmOne K (.ref D) (.ref F) = some true
  v : PySem.W.kitOne K (.ref D) (.type "ValueError") = some true
theorem excTab_at {K : PySem.W.Frag} {F D : Addr} {cs : List Addr} (h : excTab K F cs = true) (hD : D ∈ cs) : ExcFacts K F D ∧ ∀ C ∈ cs, PySem.W.kitOne K (.ref D) (.ref C) = some (decide (D = C)) := by
  unfold excTab at h
  simp only [Bool.and_eq_true, List.all_eq_true] at h
  obtain ⟨⟨⟨h1, h2⟩, _⟩, h4⟩ := h
  obtain ⟨h5, h6⟩ := h4 D hD
  unfold excOne at h5
  simp only [Bool.and_eq_true] at h5
  obtain ⟨⟨⟨⟨⟨⟨⟨a1, a2⟩, a3⟩, a4⟩, a5⟩, a6⟩, a7⟩, a8⟩ := h5
  exact ⟨⟨⟨eq_of_beq a1, eq_of_beq a2, eq_of_beq a3, a4, eq_of_beq a5, eq_of_beq h1, eq_of_beq h2, eq_of_beq a6⟩, eq_of_beq a7, eq_of_beq a8⟩, fun C hC => eq_of_beq (h6 C hC)⟩
theorem excTab_nd {K : PySem.W.Frag} {F : Addr} {cs : List Addr} (h : excTab K F cs = true) : cs.Nodup := by
  unfold excTab at h
  simp only [Bool.and_eq_true, decide_eq_true_eq] at h
  exact h.1.2
section
variable {X : Cx} {C : Addr} {x m : Str} {j : Nat} {p p2 pos pos' : Pos} {W : WX}
theorem ps_raiseOwn (hr : excRaise X.K C = true) (gC : X.mg x = some (.ref C)) (tk : Takes X W) (hc : X.calm = true := by rfl) (hg : Gl X x := by rfl) (hdb : (x == ("__debug__" : Str)) = false := by decide) :
    PS X (.Raise (some (.Call (.Name x p) [.Constant (.str m) j p2] [] pos)) none pos') (fun _ σ H => W (.ref C) none σ H) := by
  unfold excRaise at hr
  simp only [Bool.and_eq_true] at hr
  obtain ⟨⟨⟨h1, h2⟩, h3⟩, h4⟩ := hr
  exact ps_raise hc tk (pmk_own PySem.F.excBase_ValueError h1 gC h2 (raises_own (eq_of_beq h3) (eq_of_beq h4)) hg hdb)
end
section
variable {K : PySem.W.Frag} {cm : Nat → Addr} {c : Cz K cm} {W : WX} {s s' : Sx} {ns : List N} {hs : List V} {σ : L2.St} {G H G' H' Hs G2 H2 : Hp}
def zRaise (n : Nat) : AZ := fun E s => E.ex ⟨n, []⟩ s
theorem z_raise (n : Nat) : AbsZ c W (fun _ σ H => W (.ref (cm n)) none σ H) (zRaise n) := fun s ns hs σ G H rl E D' h k =>
  k.ex ⟨n, []⟩ s ns hs σ G H rl (Ex.refl G) h none (.inl ⟨rfl, rfl⟩)
/-- what is never reached -/
def zNever : AZ := fun _ _ => False
theorem z_never : AbsZ c W (fun _ _ _ => False) zNever := fun _ _ _ _ _ _ _ _ _ h _ => h.elim
theorem Qs.fresh (rl : Rl c s ns hs σ G H) {p : Addr} {o : HO} (hp : H p = none) : Qs c G H G (upd H p o) := by
  refine ⟨Ex.refl _, fun b o hb => ?_, fun b o _ hb => ?_, fun _ h _ => h, fun t l xs e => ?_⟩
  · rw [upd_ne (ne_of_none (rl.ex b o hb) hp)]; exact rl.ex b o hb
  · rw [upd_ne (ne_of_none hb hp)]; exact hb
  · obtain ⟨ne, hl, i, j, h0, h1, ht⟩ := rl.tp t l xs e
    exact ⟨ne, by rw [upd_ne (ne_of_none hl hp)]; exact hl, i, j, h0, h1, by rw [upd_ne (ne_of_none ht hp)]; exact ht⟩
/-- try: b, except F as the name i: the name j is that -/
def zTry (i j n : Nat) (b : AZ) : AZ := fun E s => b { E with ex := fun e s' => e.cls < n ∧ i < s'.e.length ∧ E.nx { s' with e := (s'.e.set j (.exc e)).set i .un } } s
theorem z_try {i j n : Nat} {F : Addr} {tb : WX → TS} {b : AZ} (hx : ∀ k, k < n → PySem.W.exmOne K (.ref (cm k)) (.ref F) = some true) (hij : i ≠ j) (hb : ∀ W', AbsZ c W' (tb W') b) (hn : n ≤ wkT := by decide) :
    AbsZ c W (fun D σ H => tb (wKeep K (.ref F) i (fun _ _ _ => tAsg (tVar i) (gName j)) W D) D σ H) (zTry i j n b) := by
  intro s ns hs σ G H rl E D' h k
  refine hb _ s ns hs σ G H rl _ D' h ⟨k.nx, k.rt, k.bk, k.ct, fun e s1 ns1 hs1 σ1 G1 H1 rl1 hg hq dd hd => ?_⟩
  obtain ⟨h1, h2, h3⟩ := hq
  refine ⟨true, hx _ h1, fun _ a ha => ?_, fun z => nomatch z⟩
  have hl : i < σ1.length := by rw [rl1.len]; exact h2
  refine ⟨.ref a, by rw [List.getElem?_set, if_pos rfl, if_pos hl], ?_⟩
  have q := Qs.fresh rl1 (o := ExH (.ref (cm e.cls)) dd a) ha
  have r2 := rl1.quiet q
  have r3 := (r2.setC (i := j) (v := .ref a) (x := .exc e) ⟨a, rfl, .inl ⟨fun z => by omega, dd, upd_same, exF_step (Ex.refl _) (fun b fs hb => by rw [upd_ne (ne_of_none hb ha)]; exact hb) hd⟩⟩).drop (i := i) (o := none)
  have es : (((σ1.set i (some (V.ref a))).set j (some (V.ref a))).set i none) = ((σ1.set j (some (V.ref a))).set i none) := by
    rw [List.set_comm _ _ hij, List.set_set]
  show D'.nx (((σ1.set i (some (V.ref a))).set j (some (V.ref a))).set i none) _
  rw [es]
  exact k.nx _ ns1 hs1 _ G1 _ r3 hg h3
/-- x is None, x is not None, whatever x is -/
def isNV (neg : Bool) (Q : RV → Prop) : RV → Prop
  | .d x => Q (.d (.bool (neg ^^ Fc.isN x)))
  | _ => Q (.d (.bool neg))
theorem isNV_d {neg : Bool} {Q : RV → Prop} {x : D} : isNV neg Q (.d x) = Q (.d (.bool (neg ^^ Fc.isN x))) := rfl
theorem isNV_at {neg : Bool} {Q : RV → Prop} {r : Nat} {p : Pt} : isNV neg Q (.at r p) = Q (.d (.bool neg)) := rfl
theorem isNV_new {neg : Bool} {Q : RV → Prop} {m : M} : isNV neg Q (.new m) = Q (.d (.bool neg)) := rfl
theorem isNV_exc {neg : Bool} {Q : RV → Prop} {e : Xc} : isNV neg Q (.exc e) = Q (.d (.bool neg)) := rfl
theorem isNV_ok {neg : Bool} {Q : RV → Prop} {v : V} {rv : RV} (r : RvX c ns Hs G H v rv) (h : isNV neg Q rv) : Q (.d (.bool (neg ^^ decide (v = .non)))) := by
  cases rv with
  | d x => cases r <;> exact h
  | «at» i p =>
    obtain ⟨n, h1, h2, rfl⟩ := r
    obtain ⟨a, da, k, cs, rfl⟩ := isNd_ex h2
    cases neg <;> exact h
  | new m =>
    obtain ⟨n, h1, rfl, h2, _⟩ := r
    obtain ⟨a, da, k, cs, rfl⟩ := isNd_ex h2
    cases neg <;> exact h
  | exc e => obtain ⟨a, rfl, _⟩ := r; cases neg <;> exact h
  | tape => obtain ⟨t, l, xs, _, rfl⟩ := r; cases neg <;> exact h
def qIsN (neg : Bool) (a : AQ) : AQ := fun ex s Q => a ex s (isNV neg Q)
theorem q_isN {ta : TE} {a : AQ} (ha : AbsQ c W ta a) : AbsQ c W (tOp (fun x y H Q => y = .non ∧ Q (.bl (decide (x = .non))) H) ta (tC .non)) (qIsN false a) := by
  intro s ns hs σ G H rl ex hx Qd Q h q
  refine ha s ns hs σ G H rl ex hx _ _ h fun v rv G1 H1 q1 r1 h1 => ⟨rfl, ?_⟩
  have := isNV_ok r1 h1
  rw [Bool.false_xor] at this
  exact q _ (.d (.bool _)) G1 H1 q1 (Rv.bl _) this
theorem q_notN {ta : TE} {a : AQ} (ha : AbsQ c W ta a) : AbsQ c W (tOp (fun x y H Q => y = .non ∧ Q (.bl (!decide (x = .non))) H) ta (tC .non)) (qIsN true a) := by
  intro s ns hs σ G H rl ex hx Qd Q h q
  refine ha s ns hs σ G H rl ex hx _ _ h fun v rv G1 H1 q1 r1 h1 => ⟨rfl, ?_⟩
  have := isNV_ok r1 h1
  rw [Bool.true_xor] at this
  exact q _ (.d (.bool _)) G1 H1 q1 (Rv.bl _) this
/-- isinstance(e, C), C the class k; e an exception without values -/
def isXV (n : Nat) (b : Nat → Bool) (Q : RV → Prop) : RV → Prop
  | .exc e => e.cls < n ∧ e.fs = [] ∧ Q (.d (.bool (b e.cls)))
  | _ => False
theorem isXV_exc {n : Nat} {b : Nat → Bool} {Q : RV → Prop} {e : Xc} : isXV n b Q (.exc e) = (e.cls < n ∧ e.fs = [] ∧ Q (.d (.bool (b e.cls)))) := rfl
def qIsX (n : Nat) (b : Nat → Bool) (a : AQ) : AQ := fun ex s Q => a ex s (isXV n b Q)
theorem q_isX {n : Nat} {b : Nat → Bool} {cv : V} {u : Value} {ta : TE} {a : AQ} (hu : ∀ z, RelV cv z → z = u) (hc : ∀ k, k < n → ExcC K (cm k) ∧ PySem.W.kitOne K (.ref (cm k)) u = some (b k)) (ha : AbsQ c W ta a) (hn : n ≤ wkT := by decide) :
    AbsQ c W (tCB (rIsX K) (tCons ta (tCons (tC cv) tNil))) (qIsX n b a) := by
  intro s ns hs σ G H rl ex hx Qd Q h q
  refine ha s ns hs σ G H rl ex hx _ _ h fun v rv G1 H1 q1 r1 h1 => ?_
  cases rv with
  | exc e =>
    obtain ⟨h2, h3, h4⟩ := h1
    obtain ⟨a, rfl, ⟨_, dd, h5, h6⟩ | ⟨z, _⟩⟩ := r1
    rotate_left
    · omega
    obtain ⟨g1, g2⟩ := hc _ h2
    have ed : dd = none := by
      rcases h6 with h6 | ⟨h6, _⟩
      · exact h6.1
      · exact absurd h3 h6
    subst ed
    exact ⟨a, cm e.cls, cv, u, b e.cls, rfl, h5, g1, hu, g2, q _ (.d (.bool _)) G1 H1 q1 (Rv.bl _) h4⟩
  | _ => exact h1.elim
end
end Fe

namespace Fe
open PySem L2 Fc
open scoped List
/-! ### dicts in trees -/
section
variable {κ : Type} [DecidableEq κ]
theorem ixK_none : ∀ {ks : List κ} {k : κ}, ixK ks k = none ↔ k ∉ ks
  | [], k => by simp [ixK]
  | g :: ks, k => by
    unfold ixK
    rw [List.findIdx?_cons]
    by_cases q : g = k
    · subst q; simp
    · simp only [q, decide_false, Bool.false_eq_true, if_false, Option.map_eq_none_iff, List.mem_cons, not_or]
      have := ixK_none (ks := ks) (k := k)
      unfold ixK at this
      rw [this]
      exact ⟨fun h => ⟨fun z => q z.symm, h⟩, fun h => h.2⟩
theorem putK_old : ∀ (ks : List κ) (vs : List V) (k : κ) (j : Nat) (v : V), ks.length = vs.length → ks.Nodup → ixK ks k = some j → putK (ks.zip vs) k v = ks.zip (vs.set j v) := by
  intro ks vs k j v hl hn hj
  have hm : k ∈ ks := by
    refine Classical.byContradiction fun z => ?_
    rw [ixK_none.mpr z] at hj; cases hj
  have ha : ((ks.zip vs).any fun kv => decide (kv.1 = k)) = true := by
    rw [List.any_eq_true]
    have : k ∈ (ks.zip vs).map (·.1) := by rw [List.map_fst_zip (by omega)]; exact hm
    obtain ⟨x, h1, h2⟩ := List.mem_map.mp this
    exact ⟨x, h1, by simpa using h2⟩
  unfold putK
  rw [if_pos ha]
  clear ha hm
  induction ks generalizing vs j with
  | nil => simp [ixK] at hj
  | cons g ks ih =>
    cases vs with
    | nil => simp at hl
    | cons w vs =>
      rw [List.nodup_cons] at hn
      unfold ixK at hj
      rw [List.findIdx?_cons] at hj
      by_cases q : g = k
      · subst q
        simp at hj
        subst hj
        simp only [List.zip_cons_cons, List.map_cons, if_true, List.set_cons_zero]
        congr 1
        have : ∀ x ∈ ks.zip vs, (if x.1 = g then (x.1, v) else x) = id x := fun x hx => by
          rw [if_neg]; rfl
          intro e
          have := List.of_mem_zip (a := x.1) (b := x.2) hx
          rw [e] at this
          exact hn.1 this.1
        rw [List.map_congr_left this, List.map_id]
      · simp only [q, decide_false, Bool.false_eq_true, if_false] at hj
        cases hk : List.findIdx? (fun x => decide (x = k)) ks with
        | none => rw [hk] at hj; simp at hj
        | some j' =>
          rw [hk] at hj
          simp at hj
          subst hj
          simp only [List.zip_cons_cons, List.map_cons, q, if_false, List.set_cons_succ]
          rw [ih vs j' (by simpa using hl) hn.2 hk]
theorem putK_new {ks : List κ} {vs : List V} {k : κ} {v : V} (hl : ks.length = vs.length) (hj : ixK ks k = none) : putK (ks.zip vs) k v = (ks ++ [k]).zip (vs ++ [v]) := by
  have ha : ¬ ((ks.zip vs).any fun kv => decide (kv.1 = k)) = true := fun z => by
    obtain ⟨x, h1, h2⟩ := List.any_eq_true.mp z
    have e : x.1 = k := by simpa using h2
    have := (List.of_mem_zip (a := x.1) (b := x.2) h1).1
    rw [e] at this
    exact ixK_none.mp hj this
  unfold putK
  rw [if_neg ha, List.zip_append hl]; rfl
end
section
variable {K : PySem.W.Frag} {cm : Nat → Addr} {c : Cz K cm} {W : WX} {s s' : Sx} {ns : List N} {hs : List V} {σ : L2.St} {G H G' H' Hs G2 H2 : Hp}
/-- {}, one's own -/
def qNewD : AQ := fun _ s Q => Q (.new (.nd (.dic []) []))
theorem q_newD : AbsQ c W (fun _ H Q => ∀ p, H p = none → Q (.ref p) (upd H p (.dK []))) qNewD := by
  intro s ns hs σ G H rl ex hx Qd Q h q p hp
  refine q _ (.new (.nd (.dic []) [])) G _ (Qs.fresh rl hp) ⟨.nd p p (.dic []) [], rfl, rfl, trivial, fun x hx => ?_, fun l hl => by simp [N.leaves, leavesL] at hl, by simp [N.cells, hdO, cellsL]⟩ h
  simp only [N.cells, hdO, cellsL, List.append_nil, List.map_nil, List.zip_nil_left, List.mem_singleton] at hx
  subst hx
  exact ⟨upd_same, rl.ex.none hp, hp⟩
/-- a[k] = b in a dict, a datum in the place of a datum, or new -/
def putKV (lo : Nat) (E : DX) (s : Sx) : RV → RV → RV → Prop
  | .d y, .at r p, .d kd => lo ≤ r ∧ ∃ ks cs key, subM s.r r p = some (.nd (.dic ks) cs) ∧ ks.length = cs.length ∧ ks.Nodup ∧ cs.length < sizeLine ∧ keyOf kd = some key ∧
      ((∃ j x0, ixK ks key = some j ∧ cs[j]? = some (.d x0) ∧ E.nx { s with r := putM s.r r p (.nd (.dic ks) (cs.set j (.d y))) }) ∨ (ixK ks key = none ∧ E.nx { s with r := putM s.r r p (.nd (.dic (ks ++ [key])) (cs ++ [.d y])) }))
  | _, _, _ => False
theorem putKV_at {lo : Nat} {E : DX} {s : Sx} {y kd : D} {r : Nat} {p : Pt} : putKV lo E s (.d y) (.at r p) (.d kd) = (lo ≤ r ∧ ∃ ks cs key, subM s.r r p = some (.nd (.dic ks) cs) ∧ ks.length = cs.length ∧ ks.Nodup ∧ cs.length < sizeLine ∧ keyOf kd = some key ∧
      ((∃ j x0, ixK ks key = some j ∧ cs[j]? = some (.d x0) ∧ E.nx { s with r := putM s.r r p (.nd (.dic ks) (cs.set j (.d y))) }) ∨ (ixK ks key = none ∧ E.nx { s with r := putM s.r r p (.nd (.dic (ks ++ [key])) (cs ++ [.d y])) }))) := rfl
def zPutKey (lo : Nat) (b a i : AQ) : AZ := fun E s => b E.ex s fun y => a E.ex s fun x => i E.ex s fun z => putKV lo E s y x z
theorem z_putKey {lo : Nat} {ta tb ti : TE} {a b i : AQ} (hlo : c.lo = lo) (hb : AbsQ c W tb b) (ha : AbsQ c W ta a) (hi : AbsQ c W ti i) : AbsZ c W (sDPut ta ti tb) (zPutKey lo b a i) := by
  intro s ns hs σ G H rl E D' h k
  refine hb s ns hs σ G H rl E.ex k.ex _ _ h fun v y G1 H1 q1 r1 h1 => ?_
  have rl1 := rl.quiet q1
  refine ha s ns hs σ G1 H1 rl1 E.ex (k.ex.mono q1.gg) _ _ h1 fun w x G2 H2 q2 r2 h2 => ?_
  have rl2 := rl1.quiet q2
  refine hi s ns hs σ G2 H2 rl2 E.ex (k.ex.mono (q1.gg.trans q2.gg)) _ _ h2 fun u z G3 H3 q3 r3 h3 => ?_
  have rl3 := rl2.quiet q3
  unfold putKV at h3
  split at h3
  · rename_i y r p kd
    obtain ⟨l1, ks, ms, key, hm, hln, hnd, hsz, hk, h3⟩ := h3
    obtain ⟨n, e1, e2, rfl⟩ := r2
    obtain ⟨a1, da1, cs1, e3, rfl⟩ := rl3.at hm
    rw [e1] at e3
    cases e3
    have eq := key_v r3 hk
    subst eq
    have hcs : (eraseL cs1).length = cs1.length := by rw [eraseL_map, List.length_map]
    rw [hcs] at hln hsz
    have hH : H3 a1 = some (.dK (ks.zip (cs1.map N.val))) := cell_head rl3 e1 (a1, _) (by simp only [hdO, List.mem_singleton])
    have r1' : Rv K G3 v y := Rv.mono (q2.gg.trans q3.gg) r1
    refine ⟨a1, _, rfl, .inl ⟨ks.zip (cs1.map N.val), key, hH, rfl, by rw [List.length_zip, List.length_map]; omega, rfl⟩, ?_⟩
    rcases h3 with ⟨j, x0, hj, hx0, h3⟩ | ⟨hj, h3⟩
    · obtain ⟨v0, hv0⟩ := leaf_at hx0
      rw [putK_old ks _ key j v (by rw [List.length_map]; exact hln) hnd hj]
      have r4 := rl3.leafS (H' := upd H3 a1 (.dK (ks.zip ((cs1.map N.val).set j v)))) e1 (by omega) hv0 r1' (fun b hb => upd_ne hb) (fun x hx => by simp only [hdO, List.mem_singleton] at hx; subst hx; exact upd_same)
      exact k.nx _ _ hs σ G3 _ r4 ((q1.gg.trans q2.gg).trans q3.gg) h3
    · rw [putK_new (by rw [List.length_map]; exact hln) hj]
      have lv1 : ∀ l ∈ leavesL cs1, Rv K G3 l.1 l.2 := fun l hl => (rl3.sub e1).2 l (by simpa [N.leaves] using hl)
      have r4 := rl3.nodeS (nw := []) (cs' := cs1 ++ [.d v y]) (k' := .dic (ks ++ [key])) (H' := upd H3 a1 (.dK ((ks ++ [key]).zip (cs1.map N.val ++ [v])))) e1 (by omega) (by simp [hdO]) ⟨[], by simp [cellsL_append, cellsL, N.cells]⟩ (fun x hx => by simp [cellsL] at hx) (by simp [cellsL])
        (fun l hl => by
          rw [leavesL_append, List.mem_append] at hl
          rcases hl with hl | hl
          · exact lv1 l hl
          · simp only [leavesL, N.leaves, List.append_nil, List.mem_singleton] at hl
            subst hl; exact r1') (fun b hb => upd_ne fun z => hb (by simp [hdO, z])) (fun x hx => by simp only [hdO, List.map_append, List.map_cons, List.map_nil, List.mem_singleton, N.val] at hx; subst hx; exact upd_same)
        (fun j n hj _ => by rw [List.getElem?_append_left (List.getElem?_eq_some_iff.mp hj).1]; exact hj)
      have e5 : eraseL (cs1 ++ [.d v y]) = eraseL cs1 ++ [.d y] := by simp [eraseL_map, N.erase]
      rw [e5] at r4
      exact k.nx _ _ hs σ G3 _ r4 ((q1.gg.trans q2.gg).trans q3.gg) h3
  · exact h3.elim
/-- d.get(k, x) -/
def getV (ks : List Key) (cs : List M) (r : Nat) (p : Pt) (Q : RV → Prop) (z : RV) : RV → Prop
  | .d y => ∃ k, keyOf y = some k ∧ ((∃ j, ixK ks k = some j ∧ child r p j Q cs[j]?) ∨ (ixK ks k = none ∧ Q z))
  | _ => False
theorem getV_d {ks : List Key} {cs : List M} {r : Nat} {p : Pt} {Q : RV → Prop} {z : RV} {y : D} : getV ks cs r p Q z (.d y) = ∃ k, keyOf y = some k ∧ ((∃ j, ixK ks k = some j ∧ child r p j Q cs[j]?) ∨ (ixK ks k = none ∧ Q z)) := rfl
def get2V (ex : XEx) (b d : AQ) (s : Sx) (Q : RV → Prop) : RV → Prop
  | .at r p => ∃ ks cs, subM s.r r p = some (.nd (.dic ks) cs) ∧ ks.length = cs.length ∧ b ex s fun y => d ex s fun z => getV ks cs r p Q z y
  | _ => False
theorem get2V_at {ex : XEx} {b d : AQ} {s : Sx} {Q : RV → Prop} {r : Nat} {p : Pt} : get2V ex b d s Q (.at r p) = ∃ ks cs, subM s.r r p = some (.nd (.dic ks) cs) ∧ ks.length = cs.length ∧ b ex s fun y => d ex s fun z => getV ks cs r p Q z y := rfl
def qGet2 (a b d : AQ) : AQ := fun ex s Q => a ex s (get2V ex b d s Q)
theorem valV_none {κ : Type} [DecidableEq κ] {ks : List κ} {vs : List V} {k : κ} (hl : ks.length = vs.length) (h : ixK ks k = none) : valV (ks.zip vs) k = none := by
  have := isSome_zip ks vs k hl
  rw [h] at this
  simpa using this
theorem q_get2 {ta tb td : TE} {a b d : AQ} (ha : AbsQ c W ta a) (hb : AbsQ c W tb b) (hd : AbsQ c W td d) : AbsQ c W (tDGet2 ta tb td) (qGet2 a b d) := by
  intro s ns hs σ G H rl ex hx Qd Q h q
  refine ha s ns hs σ G H rl ex hx _ _ h fun v x G1 H1 q1 r1 h1 => ?_
  have rl1 := rl.quiet q1
  cases x with
  | «at» r p =>
    obtain ⟨ks, ms, hm, hln, h1⟩ := h1
    obtain ⟨n, e1, e2, rfl⟩ := r1
    obtain ⟨a1, da1, cs1, e3, rfl⟩ := rl1.at hm
    rw [e1] at e3
    cases e3
    have hcs : (eraseL cs1).length = cs1.length := by rw [eraseL_map, List.length_map]
    rw [hcs] at hln
    refine ⟨a1, rfl, .inl ⟨_, .inl (cell_head rl1 e1 (a1, .dK (ks.zip (cs1.map N.val))) (by simp only [hdO, List.mem_singleton]))⟩, ?_⟩
    refine hb s ns hs σ G1 H1 rl1 ex (hx.mono q1.gg) _ _ h1 fun w y G2 H2 q2 r2 h2 => ?_
    have rl2 := rl1.quiet q2
    refine hd s ns hs σ G2 H2 rl2 ex (hx.mono (q1.gg.trans q2.gg)) _ _ h2 fun u z G3 H3 q3 r3 h3 => ?_
    have rl3 := rl2.quiet q3
    have q13 := (q1.tr q2).tr q3
    cases y with
    | d y =>
      obtain ⟨key, hk, h3⟩ := h3
      have eq := key_v r2 hk
      subst eq
      refine ⟨valV (ks.zip (cs1.map N.val)) key, DGet.k (cell_head rl3 e1 (a1, .dK (ks.zip (cs1.map N.val))) (by simp only [hdO, List.mem_singleton])), ?_⟩
      rcases h3 with ⟨j, hj, h3⟩ | ⟨hj, h3⟩
      · obtain ⟨m, rv', g1, g2, g3⟩ := child_ok rl3 e1 h3
        rw [valV_zip ks (cs1.map N.val) key j m.val hj (by rw [List.getElem?_map, g1]; rfl)]
        exact q _ rv' G3 H3 q13 (g2.early fun b hb => q13.th rl.tp b hb) g3
      · rw [valV_none (by rw [List.length_map]; exact hln) hj]
        exact q _ z G3 H3 q13 (r3.early fun b hb => (q1.tr q2).th rl.tp b hb) h3
    | _ => exact h3.elim
  | _ => exact h1.elim
end
end Fe

namespace Fe
open PySem L2 Fc PySem.Spec PyProof.Rows
/-! ### a.extend(t), t a tuple -/
section
open PySem.AutoSeq1
theorem meets_extT {l b : Addr} {xs ys : Array Value} {n m : Nat} {dd : Option Addr} {sl : Array (Option Value)} (fits : ¬(!xs.isEmpty && Builtin.List.listTooLong (xs.size + ys.size)) = true) (h1 : xs.size ≤ sizeLine) (h2 : xs.size + ys.size ≤ sizeLine + 1) :
    Meets (Builtin.«list.extend» ⟨[.ref l, .ref b], []⟩) (fun _ R s => s.heap.get? l = some { cls := .type "list", dict := none, data := .seq xs n, slots := #[] } ∧ s.heap.get? b = some ⟨.type "tuple", dd, .seq ys m, sl⟩ ∧ R (.ok (.ret Value.none)) { s with heap := s.heap.update l (Obj.mapSeq fun z => z ++ ys), toks := s.toks }) := by
  refine .of_wp fun prog w A R s hyp => ?_
  obtain ⟨hp, g, d, tk, os⟩ := s
  obtain ⟨atl, atb, hyp⟩ := hyp
  have k1 := idx_int
  have k2 := AutoSeq1.sub_tuple_tuple
  have k3 := AutoSeq1.sub_list_list
  have k4 := AutoSeq1.sub_tuple_list
  have k5 := AutoSeq1.sub_list_tuple
  have both : (xs ++ ys).size ≤ sizeLine + 1 := by simpa using h2
  wp_walk using (wpAny_updateSeq atl rfl (hz := h1) (_hz' := both)), wpAny_loadPart' atl, wpAny_loadPart' atb
  exact ⟨_, rfl, hyp⟩
end
def rExtendT (K : PySem.W.Frag) : V → List V → Hp → VK → Prop := fun x vs H Q => ∃ l b xs zs, x = .ref l ∧ vs = [.ref b] ∧ H l = some (.lst xs) ∧ SqT K H b zs ∧ xs.length + zs.length ≤ sizeLine ∧ Q .non (upd H l (.lst (xs ++ zs)))
section
variable {X : Cx}
theorem mt_extendT : MtM X "list.extend" (rExtendT X.K) := by
  intro pins s σ H x vs v us Q I rx rv hyp
  obtain ⟨l, b, xs, zs, rfl, rfl, atl, atb, fits, q⟩ := hyp
  obtain ⟨u, rfl, ru⟩ := rv.one
  cases rx
  cases ru
  obtain ⟨_, its, n, r, len1, e⟩ := I.lstM atl
  obtain ⟨its2, r2, ⟨⟨c2, d2, t2, s2⟩, e2, rfl, m, rfl⟩, _⟩ := I.tuple atb
  have len2 := r2.length
  have size : its.toArray.size + its2.toArray.size ≤ sizeLine := by simp only [List.size_toArray]; omega
  refine call_meets F.slot_list_extend ⟨_, e, rfl⟩ F.entry_list_extend (F.args_list_extend_2 _ _) (meets_extT (by rw [notLongL size]; simp) (by omega) (by omega)) ⟨e, e2, .non, _, I.lset (its' := its ++ its2) atl e (by simp) (r.append r2) ?_, rfl, q⟩
  simpa using fits
theorem kExtendT (K : PySem.W.Frag) (h : X.K = K := by rfl) : MtM X "list.extend" (rExtendT K) := h ▸ mt_extendT
end
section
variable {K : PySem.W.Frag} {c : Ctx K}
def aExtendT (i : Nat) (a : AE) : AS := fun E ε => match ε[i]? with
  | some (.own xs) => a ε fun d => (match d with | .tuple zs => xs.length + zs.length ≤ sizeLine ∧ E.nx (ε.set i (.own (xs ++ zs))) | _ => False)
  | _ => False
theorem as_extendT (i : Nat) {te : TE} {a : AE} (ha : AbsE c te a) : AbsS c (tDrop (tBM K "list" (rExtendT K) (tVar i) (tCons te tNil))) (aExtendT i a) := by
  intro ε σ G H rl E D' h k
  unfold aExtendT at h
  split at h
  · rename_i xs hx
    obtain ⟨p, vs, h1, h2, h3, h4, h5⟩ := rl.ownAt hx
    refine ⟨.ref p, h1, .inl ⟨rfl, vs, SqL.of h2⟩, ?_⟩
    refine ha ε σ G H rl _ _ h fun v d G1 H1 s1 r1 q1 => ?_
    obtain ⟨p', vs', g1, g2, g3, g4, g5⟩ := (rl.step s1).ownAt hx
    have e := g1.symm.trans h1
    cases e
    cases r1 with
    | @tup b us ds hb hA =>
      refine ⟨p, b, vs', us, rfl, rfl, g2, (rl.step s1).ok.ex.sqt hb, by rw [g3.length, hA.length]; exact q1.1, ?_⟩
      exact k.nx _ _ G1 _ ((rl.step s1).ownSet hx g1 g4 g5 (g3.append hA)) s1.gg q1.2
    | _ => exact q1.elim
  · exact h.elim
end
end Fe

namespace Fe
open PySem L2 Fc PySem.Spec PyProof.Rows
open scoped List
/-! ### dicts with keys that are tuples: setdefault, items, sorted -/
section
variable {X : Cx} {pins : List (Addr × Obj)} {σ : L2.St} {H : Hp} {s : Shared} {A : Around} {E : Value → Shared → Prop}
theorem tupD_default {m b : Addr} {kk : List Key} {rows : List (List Key × V)} {y : V} {u : Value} {Q : Value → Shared → Prop} (hu : A.units + 1 < cLine) (J : Inv X pins σ H s) (hm : H m = some (.dT rows)) (hb : H b = some (.tup (kk.map kV))) (ry : RelV y u) (hz : rows.length < sizeLine)
    (old : ∀ v, valV rows kk = some v → ∀ (z : Value) (s1 : Shared), Inv X pins σ H s1 → RelV v z → Q z s1)
    (new : valV rows kk = none → ∀ (z : Value) (s1 : Shared), Inv X pins σ (upd H m (.dT (putK rows kk y))) s1 → RelV y z → Q z s1) :
    wpAny (model X.prog X.w) A (call (.builtin "dict.setdefault") [.ref m, .ref b, u]) Q E s := by
  obtain ⟨z1, nsys, xs, pr, dd⟩ := dt_of J.hok hm
  have lx : xs.length ≤ sizeLine := by have := Paired.length pr; omega
  have at' := pr.val kk
  refine PySem.call_setdefault_heap (hsz := lx) (tupleKind_room_in1 hu) (key_of J.hok hb) nsys dd (fun q hq => ?_) fun hn h2 dd2 sb => ?_
  · rw [hq] at at'
    match hv : valV rows kk, at' with
    | some v, at' => exact old v hv _ _ (J.tok _) at'
    | none, at' => exact (show False from at').elim
  · rw [hn] at at'
    match hv : valV rows kk, at' with
    | some v, at' => exact (show False from at').elim
    | none, _ =>
      have l2 : (putK rows kk y).length ≤ sizeLine := Nat.le_trans (length_putK rows kk y) hz
      obtain ⟨ob, en, ep, o1, o2, o3, o4, _, o5⟩ := dd2
      refine new hv u _ (d_write (t' := s.toks + (tupleKind (mixKind X.prog X.w)).draws kk) J (by rw [hm]; exact True.intro) sb ⟨ob, o1⟩ ⟨l2, nsys, _, (pr.put kk hb ry).keeps fun c ys ec => ?_, ob, en, ep, o1, o2, o3, o4, o5⟩) ry
      rw [upd_ne (ne_of ec hm fun z => nomatch z)]; exact ec
end
/-- d.setdefault(y, z), the keys tuples -/
def tDefT (td ty tz : TE) : TE := fun σ H Q => td σ H fun x H1 => ∃ m, x = .ref m ∧ IsD H1 m ∧ ty σ H1 fun y H2 => tz σ H2 fun z H3 => ∃ (rows : List (List Key × V)) (kk : List Key) (b : Addr), H3 m = some (.dT rows) ∧ y = .ref b ∧ H3 b = some (.tup (kk.map kV)) ∧ rows.length < sizeLine ∧
  (∀ v, valV rows kk = some v → Q v H3) ∧ (valV rows kk = none → Q z (upd H3 m (.dT (putK rows kk z))))
section
variable {X : Cx} {o e f : Expr} {td ty tz : TE} {apos cpos : Pos}
theorem pe_defT (hu : X.A.units + 1 < cLine) (ho : PE X o td) (he : PE X e ty) (hf : PE X f tz) (mm : M2 X o "setdefault" apos e f cpos) : PE X (.Call (.Attribute o "setdefault" apos) [e, f] [] cpos) (tDefT td ty tz) := by
  refine ⟨fun pins s σ H Q J wish => ?_⟩
  refine wpAny_Call_method mm.base mm.few mm.line PySem.F.plainAttrs_dict PySem.F.slot_dict_setdefault PySem.F.type_dict_setdefault (thn (ho.run pins s σ H _ J wish) fun ou s1 got => ?_)
  obtain ⟨x, H1, J1, rx, m, rfl, isd, wish1⟩ := got
  obtain rfl : ou = Value.ref m := rx
  obtain ⟨ty1, nod, _⟩ := isD_at J1 isd
  refine ⟨ty1, nod, ?_⟩
  rw [mm.trees]
  refine Calls.callWith_builtin rfl (Calls.evalArgs_plain (Calls.spliced_cons (thn (he.run pins s1 σ H1 _ J1 wish1) fun iv s2 got2 => ?_)))
  obtain ⟨y, H2, J2, ry, wish2⟩ := got2
  refine Calls.spliced_cons (thn (hf.run pins s2 σ H2 _ J2 wish2) fun fv s3 got3 => Calls.spliced_nil ?_)
  obtain ⟨z, H3, J3, rz, rows, kk, b, e1, rfl, e3, e4, old, new⟩ := got3
  obtain rfl : iv = Value.ref b := ry
  exact tupD_default hu J3 e1 e3 rz e4 (fun v hv w' s4 J4 r4 => ⟨v, _, J4, r4, old v hv⟩) fun hn w' s4 J4 r4 => ⟨z, _, J4, r4, new hn⟩
end
/-- d[y], the keys tuples, y any tuple of keys -/
def tGetT (K : PySem.W.Frag) (td ty : TE) : TE := fun σ H Q => td σ H fun x H1 => ty σ H1 fun y H2 => ∃ m rows kk b v, x = .ref m ∧ H2 m = some (.dT rows) ∧ y = .ref b ∧ SqT K H2 b (kk.map kV) ∧ valV rows kk = some v ∧ Q v H2
section
variable {X : Cx} {o i : Expr} {td ty : TE} {pos : Pos}
theorem tup_is {pins : List (Addr × Obj)} {σ : L2.St} {H : Hp} {s : Shared} {b : Addr} {kk : List Key} (J : Inv X pins σ H s) (h : SqT X.K H b (kk.map kV)) : (tupleKind (mixKind X.prog X.w)).is s.heap kk b := by
  obtain ⟨its, r, ⟨ob, h1, h2, n, h3⟩, _⟩ := J.tuple h
  exact ⟨ob, its.toArray, n, h1, h2, h3, by simpa using items_are r⟩
theorem pe_getT (hu : X.A.units + 1 < cLine) (ho : PE X o td) (hi : PE X i ty) (hs : NoSl i) : PE X (.Subscript o i pos) (tGetT X.K td ty) := by
  refine ⟨fun pins s σ H Q J wish => ?_⟩
  refine subD_of PySem.F.slot_dict_getitem.lookup hs (thn (ho.run pins s σ H _ J wish) fun ou s1 got => ?_)
  obtain ⟨x, H1, J1, rx, wish1⟩ := got
  refine thn (hi.run pins s1 σ H1 _ J1 wish1) fun iv s2 got2 => ?_
  obtain ⟨y, H2, J2, ry, m, rows, kk, b, v, rfl, e1, rfl, e2, e3, wish2⟩ := got2
  obtain rfl : ou = Value.ref m := rx
  obtain rfl : iv = Value.ref b := ry
  obtain ⟨z1, nsys, xs, pr, dd⟩ := dt_of J2.hok e1
  obtain ⟨w', hw, rw'⟩ := RelO.some_of (v := v) (o := (atKey xs kk).map (·.2)) (by rw [← e3]; exact pr.val kk)
  obtain ⟨p, hp, rfl⟩ := Option.map_eq_some_iff.mp hw
  exact ⟨dd.typeIs, wpAny_getItem_heap (tupleKind_room_in1 hu) (tup_is J2 e2) dd hp ⟨v, H2, J2.tok _, rw', wish2⟩⟩
theorem kGetT (K : PySem.W.Frag) (hk : X.K = K := by rfl) (hu : X.A.units + 1 < cLine) (ho : PE X o td) (hi : PE X i ty) (hs : NoSl i) : PE X (.Subscript o i pos) (tGetT K td ty) := hk ▸ pe_getT hu ho hi hs
end
/-- sorted(d), the keys pairs of ints -/
def pairK (p : Int × Int) : List Key := [.inl p.1, .inl p.2]
def rSortDT : List V → Hp → VK → Prop := fun vs H Q => ∃ (m : Addr) (rows : List (List Key × V)) (ps : List (Int × Int)), vs = [V.ref m] ∧ H m = some (.dT rows) ∧ rows.map (·.1) = ps.map pairK ∧
  ∀ (qs : List (Addr × Int × Int)) p, (qs.map (·.2)).Perm ps → (qs.map (·.2)).Pairwise (fun x y => SrtO.lexB y x = false) → (∀ x ∈ qs, H x.1 = some (.tup [.int x.2.1, .int x.2.2])) → H p = none → Q (.ref p) (upd H p (.lst (qs.map fun x => V.ref x.1)))
def pairAt (H : Hp) : Value → Int × Int
  | .ref b => (match H b with | some (.tup [.int i, .int j]) => (i, j) | _ => (0, 0))
  | _ => (0, 0)
theorem pairAt_tup {H : Hp} {b : Addr} {i j : Int} (h : H b = some (.tup [.int i, .int j])) : pairAt H (.ref b) = (i, j) := by
  simp only [pairAt, h]
def adrOf : Value → Addr | .ref b => b | _ => 0
section
variable {X : Cx}
theorem cr_sortDT (calm : X.calm = true) : CallR X (.builtin "sorted") rSortDT := by
  intro pins s σ H vs us Q J r wish
  obtain ⟨m, rows, ps, rfl, hm, hk, q⟩ := wish
  obtain ⟨u, rfl, rx⟩ := vals1 r
  obtain rfl : u = Value.ref m := rx
  obtain ⟨z, nsys, xs, pr, ob, en, ep, o1, o2, o3, o4, nd⟩ := (show ObjOk X.prog X.w H s.heap m (.dT rows) from J.hok m _ hm)
  have s1 : en.size = xs.length := size_of_entries o4
  have s2 : rows.length = xs.length := Paired.length pr
  have keyAt : ∀ x ∈ xs, ∃ p ∈ ps, x.1 = pairK p ∧ H x.2.1 = some (.tup [.int p.1, .int p.2]) := by
    have go : ∀ {l : List (List Key × V)} {n : List (List Key × Addr × Value)}, Paired (fun (p : List Key × V) (q : List Key × Addr × Value) => p.1 = q.1 ∧ H q.2.1 = some (.tup (p.1.map kV)) ∧ RelV p.2 q.2.2) l n → (∀ p ∈ l, ∃ t ∈ ps, p.1 = pairK t) → ∀ x ∈ n, ∃ t ∈ ps, x.1 = pairK t ∧ H x.2.1 = some (.tup [.int t.1, .int t.2]) := by
      intro l n pr'
      induction pr' with
      | nil => intro _ x hx; cases hx
      | @cons p y l' n' hpy _ ih =>
        intro hl x hx
        rcases List.mem_cons.mp hx with rfl | hx
        · obtain ⟨t, ht, e⟩ := hl p (List.mem_cons_self ..)
          refine ⟨t, ht, hpy.1.symm.trans e, ?_⟩
          have := hpy.2.1
          rw [e] at this
          exact this
        · exact ih (fun p hp => hl p (List.mem_cons_of_mem _ hp)) x hx
    refine go pr fun p hp => ?_
    have : p.1 ∈ ps.map pairK := by rw [← hk]; exact List.mem_map_of_mem hp
    obtain ⟨t, ht, e⟩ := List.mem_map.mp this
    exact ⟨t, ht, e.symm⟩
  have keys : (xs.map fun x => pairAt H (.ref x.2.1)) = ps := by
    have inj : ∀ {a b : Int × Int}, pairK a = pairK b → a = b := fun {a b} e => by
      unfold pairK at e
      simp only [List.cons.injEq, Sum.inl.injEq, and_true] at e
      exact Prod.ext e.1 e.2
    have e1 : xs.map (·.1) = ps.map pairK := by
      rw [← hk]
      have go : ∀ {l : List (List Key × V)} {n : List (List Key × Addr × Value)}, Paired (fun (p : List Key × V) (q : List Key × Addr × Value) => p.1 = q.1 ∧ H q.2.1 = some (.tup (p.1.map kV)) ∧ RelV p.2 q.2.2) l n → n.map (·.1) = l.map (·.1) := by
        intro l n pr'
        induction pr' with
        | nil => rfl
        | cons h _ ih => rw [List.map_cons, List.map_cons, ih, h.1]
      exact go pr
    apply List.ext_getElem?
    intro j
    rw [List.getElem?_map]
    have e2 := congrArg (·[j]?) e1
    simp only [List.getElem?_map] at e2
    cases hx : xs[j]? with
    | none =>
      rw [hx] at e2
      cases hp : ps[j]? with
      | none => rfl
      | some _ => rw [hp] at e2; cases e2
    | some x =>
      rw [hx] at e2
      cases hp : ps[j]? with
      | none => rw [hp] at e2; cases e2
      | some p =>
        rw [hp] at e2
        obtain ⟨t, _, e3, e4⟩ := keyAt x (List.mem_of_getElem? hx)
        have e5 : x.1 = pairK p := Option.some.inj e2
        have : t = p := inj (e3.symm.trans e5)
        subst this
        exact congrArg some (pairAt_tup e4)
  refine Calls.call_function_entry PyProof.Rows.kind_sorted PyProof.Rows.plain_sorted PyProof.Rows.entry_sorted (PyProof.Rows.args_sorted1 _) ?_
  unfold Builtin.«sorted»
  refine wpAny_bind (m := checkCount "sorted" 1 1 _) (wpAny_pure ?_)
  refine wpAny_bind (PySem.W.kdu_collect (A := X.A.in1) (kdl_raw nsys o2 o3) (J.ok.hd calm) o1 (by omega) fun h1 tk acc kp it => ?_)
  have ea : acc.toList = (xs.map fun x => x.2.1).map Value.ref := by
    have la : acc.toList.length = xs.length := by rw [Array.length_toList, it.1]; exact s1
    apply List.ext_getElem?
    intro j
    rw [List.map_map, List.getElem?_map]
    match hj : acc.toList[j]? with
    | none => rw [List.getElem?_eq_none (by have := List.getElem?_eq_none_iff.mp hj; omega)]; rfl
    | some v =>
      obtain ⟨d, hd, hv⟩ := it.2 j v (by rw [← Array.getElem?_toList]; exact hj)
      have qe := entry_at o4 j
      rw [hd] at qe
      match hb : xs[j]? with
      | none => rw [hb] at qe; exact nomatch (show some d = none from qe)
      | some b =>
        rw [hb] at qe
        have e2 : d = entryOfKey (tupleKind (mixKind X.prog X.w)) b := Option.some.inj qe
        rw [hv, e2]; rfl
  have J1 : Inv X pins σ H { s with heap := h1, toks := tk } := J.kept kp
  have la : acc.toList.length ≤ sizeLine := by rw [ea, List.length_map, List.length_map]; omega
  have isP : ∀ v ∈ acc.toList, ∃ b p, v = Value.ref b ∧ p ∈ ps ∧ H b = some (.tup [.int p.1, .int p.2]) ∧ pairAt H v = p := fun v hv => by
    rw [ea, List.map_map] at hv
    obtain ⟨x, hx, rfl⟩ := List.mem_map.mp hv
    obtain ⟨t, ht, _, e4⟩ := keyAt x hx
    refine ⟨x.2.1, t, rfl, ht, e4, ?_⟩
    exact pairAt_tup e4
  refine wpAny_bind (wpAny_newList ?_ la)
  have hoL : (h1.push (seqObj "list" acc.toList.toArray 0)).get? h1.objs.size = some (seqObj "list" acc.toList.toArray 0) := Heap.get?_push_size _ rfl
  show wpAny _ _ _ _ _ { s with heap := h1.push (seqObj "list" acc.toList.toArray 0), toks := tk }
  refine wpAny_bind (wpAny_holding (wpAny_call_entry PyProof.Rows.slot_list_sort ⟨_, hoL, rfl⟩ PyProof.Rows.entry_list_sort
    (SrtO.list_sort_ord (s := { s with heap := h1.push (seqObj "list" acc.toList.toArray 0), toks := tk }) (SrtO.swo_lex (pairAt H)) hoL la (fun n2 => ?_) fun out so st => ⟨_, rfl, ?_⟩) (PyProof.Rows.args_list_sort _)))
  · refine SrtO.pairs_sortableO (by omega) (fun v hv => ?_) fun o e => ?_
    · obtain ⟨b, p, rfl, _, hb, ep⟩ := isP v hv
      rw [ep]
      obtain ⟨_, its, rv, ⟨o, ho, hc, n, hd⟩⟩ := (show ObjOk X.prog X.w H h1 b (.tup [.int p.1, .int p.2]) from J1.hok b _ hb)
      obtain ⟨w1, w2, rfl, ⟨t1, rfl⟩, ⟨t2, rfl⟩⟩ := vals2 rv
      exact ⟨b, o, t1, t2, n, rfl, Heap.get?_push_of_some _ ho, hc, hd⟩
    · have e' : some o = some (seqObj "list" acc.toList.toArray 0) := e.symm.trans hoL
      cases e'
      intro c
      exact absurd (Value.type.inj c) (by decide)
  · obtain ⟨e', he'⟩ := PyProof.Rows.sortedHeap_at (vs := acc.toList) (out := out.toArray) hoL
    have outP : ∀ v ∈ out, ∃ b p, v = Value.ref b ∧ p ∈ ps ∧ H b = some (.tup [.int p.1, .int p.2]) ∧ pairAt H v = p := fun v hv => isP v (st.perm.mem_iff.mp hv)
    have back : ∀ l : List Value, (∀ v ∈ l, ∃ b, v = Value.ref b) → Vals (l.map fun v => V.ref (adrOf v)) l := by
      intro l
      induction l with
      | nil => intro _; exact .nil
      | cons v l ih =>
        intro h
        obtain ⟨b, rfl⟩ := h v (List.mem_cons_self ..)
        exact .cons rfl (ih fun x hx => h x (List.mem_cons_of_mem _ hx))
    have qq := q (out.map fun v => (adrOf v, pairAt H v)) h1.objs.size
    rw [List.map_map, List.map_map] at qq
    refine wpAny_pure ⟨_, rfl, .ref h1.objs.size, upd H h1.objs.size (.lst (out.map fun v => V.ref (adrOf v))), J1.laid (t' := tk) (fun b o e => ?_) (Nat.le_refl _)
      (show ObjOk X.prog X.w _ _ _ (.lst (out.map fun v => V.ref (adrOf v))) from ⟨by rw [List.length_map, st.len]; exact la, out, e', back out fun v hv => let ⟨b, _, e, _⟩ := outP v hv; ⟨b, e⟩, he'⟩), rfl, qq ?_ ?_ ?_ (J1.hok.fresh (Nat.le_refl _))⟩
    · have hb : b < h1.objs.size := Heap.lt_size e
      rw [PyProof.Rows.sortedHeap_old (Nat.ne_of_lt hb) (by rw [size_push']; exact Nat.lt_succ_of_lt hb)]
      exact Heap.get?_push_of_some _ e
    · have := st.perm.map (pairAt H)
      rw [ea, List.map_map, List.map_map] at this
      rw [← keys]
      exact this
    · rw [List.pairwise_map]
      exact so
    · intro x hx
      obtain ⟨v, hv, rfl⟩ := List.mem_map.mp hx
      obtain ⟨b, p, rfl, _, hb, ep⟩ := outP v hv
      show H b = some (.tup [.int (pairAt H (.ref b)).1, .int (pairAt H (.ref b)).2])
      rw [ep]; exact hb
end
end Fe

namespace Fe
open PySem L2 Fc PySem.Spec PyProof.Rows
open scoped List
/-! ### sorted of texts, any number of them -/
def rSortLS (K : PySem.W.Frag) : List V → Hp → VK → Prop := fun vs H Q => ∃ (l : Addr) (zs : List Str), vs = [V.ref l] ∧ SqL K H l (zs.map V.str) ∧ ∀ (ys : List Str) (p : Addr), ys.Perm zs → sortedS ys = true → H p = none → Q (.ref p) (upd H p (.lst (ys.map V.str)))
def rSortDSA : List V → Hp → VK → Prop := fun vs H Q => ∃ (m : Addr) (rows : List (Key × V)) (zs : List Str), vs = [V.ref m] ∧ Rd H m (.dK rows) ∧ rows.map (·.1) = zs.map Sum.inr ∧ ∀ (ys : List Str) (p : Addr), ys.Perm zs → sortedS ys = true → H p = none → Q (.ref p) (upd H p (.lst (ys.map V.str)))
section
variable {X : Cx}
theorem cr_sortLS : CallR X (.builtin "sorted") (rSortLS X.K) := by
  intro pins s σ H vs us Q J r wish
  obtain ⟨l, zs, rfl, hs, q⟩ := wish
  obtain ⟨its, rv, hl, hz⟩ := J.list hs
  rw [Vals.ref1 r]
  have ln := rv.length
  rw [List.length_map] at ln hz
  refine PyProof.Rows.sorted_strsAny hl.isList rv.strs (by omega) fun out ys g1 g2 g3 => ?_
  obtain ⟨ep, at'⟩ := PyProof.Rows.sortedAll_at s.heap its out
  refine ⟨.ref _, upd H (s.heap.objs.size + 1) (.lst (ys.map V.str)), J.laid (t' := s.toks) (fun _ _ => PyProof.Rows.sortedAll_old) (Nat.le_succ _) ⟨?_, out.toList, ep, vals_of_strs g1, at'⟩, rfl, q ys _ g2 g3 (J.hok.fresh (Nat.le_succ _))⟩
  rw [List.length_map, g2.length_eq]; exact hz
theorem kSortLS (K : PySem.W.Frag) (h : X.K = K := by rfl) : CallR X (.builtin "sorted") (rSortLS K) := h ▸ cr_sortLS
theorem cr_sortDSA (calm : X.calm = true) : CallR X (.builtin "sorted") rSortDSA := by
  intro pins s σ H vs us Q J r wish
  obtain ⟨m, rows, zs, rfl, hm, hk, q⟩ := wish
  obtain ⟨u, rfl, rx⟩ := vals1 r
  obtain rfl : u = Value.ref m := rx
  obtain ⟨z, nsys, kv, pr, dd⟩ := dk_rd J.hok hm
  obtain ⟨ep, da⟩ := dd.dictAt
  have ek : kv.map (·.1) = zs.map Sum.inr := pr.keys.symm.trans hk
  have lk : kv.length = zs.length := by have := congrArg List.length ek; simpa using this
  have lr : kv.length ≤ sizeLine := by rw [← pr.length]; exact z
  refine Calls.call_function_entry PyProof.Rows.kind_sorted PyProof.Rows.plain_sorted PyProof.Rows.entry_sorted (PyProof.Rows.args_sorted1 _) ?_
  unfold Builtin.«sorted»
  refine wpAny_bind (m := checkCount "sorted" 1 1 _) (wpAny_pure ?_)
  refine wpAny_bind (PySem.W.kdu_collect (A := X.A.in1) (PySem.W.kdl_dict (knd := mixKind X.prog X.w) (kvs := kv) (ep := ep) nsys) (J.ok.hd calm) da lr fun h1 tk acc kp it => ?_)
  have la : acc.toList.length = zs.length := by rw [Array.length_toList, it.1, lk]
  have hS : StrsAre acc.toList zs := strs_at la fun j v e => by
    obtain ⟨k, x, e1, e2⟩ := it.2 j v (by rw [← Array.getElem?_toList]; exact e)
    have e3 : (kv.map (·.1))[j]? = some k := by rw [List.getElem?_map, e1]; rfl
    rw [ek, List.getElem?_map] at e3
    match e4 : zs[j]?, e3 with
    | none, e3 => cases e3
    | some y, e3 =>
      obtain rfl : Sum.inr y = k := Option.some.inj e3
      obtain ⟨t, ev⟩ := Value.isStrOf_shape (x := y) (v := v) e2
      exact ⟨y, t, rfl, ev⟩
  have J1 : Inv X pins σ H { s with heap := h1, toks := tk } := J.kept kp
  refine wpAny_bind (wpAny_newList ?_ (by omega))
  have hoL : (h1.push (seqObj "list" acc.toList.toArray 0)).get? h1.objs.size = some (seqObj "list" acc.toList.toArray 0) := Heap.get?_push_size _ rfl
  show wpAny _ _ _ _ _ { s with heap := h1.push (seqObj "list" acc.toList.toArray 0), toks := tk }
  refine wpAny_bind (wpAny_holding (wpAny_call_entry PyProof.Rows.slot_list_sort ⟨_, hoL, rfl⟩ PyProof.Rows.entry_list_sort
    (PyProof.Rows.list_sort_treeKAny strKind_oneLt (s := { s with heap := h1.push (seqObj "list" acc.toList.toArray 0), toks := tk }) hoL hS.keysOf (fun v₁ v₂ rest e => keyKind_strs (by rw [← e]; exact hS)) (by omega) fun st hp hs => ⟨_, rfl, ?_⟩) (PyProof.Rows.args_list_sort _)))
  obtain ⟨ys, g1, g2, g3⟩ := sorted_out_str hS hp hs
  obtain ⟨e', he'⟩ := PyProof.Rows.sortedHeap_at (vs := acc.toList) (out := (arrOf st).map (·.2)) hoL
  refine wpAny_pure ⟨_, rfl, .ref h1.objs.size, upd H h1.objs.size (.lst (ys.map V.str)), J1.laid (t' := tk) (fun b o e => ?_) (Nat.le_refl _)
    (show ObjOk X.prog X.w _ _ _ (.lst (ys.map V.str)) from ⟨by rw [List.length_map, g2.length_eq]; omega, ((arrOf st).map (·.2)).toList, e', vals_of_strs g1, by rw [Array.toArray_toList]; exact he'⟩), rfl, q ys _ g2 g3 (J1.hok.fresh (Nat.le_refl _))⟩
  have hb : b < h1.objs.size := Heap.lt_size e
  rw [PyProof.Rows.sortedHeap_old (Nat.ne_of_lt hb) (by rw [size_push']; exact Nat.lt_succ_of_lt hb)]
  exact Heap.get?_push_of_some _ e
end
section
variable {K : PySem.W.Frag} {cm : Nat → Addr} {c : Cz K cm} {W : WX} {s s' : Sx} {ns : List N} {hs : List V} {σ : L2.St} {G H G' H' Hs G2 H2 : Hp}
theorem RvA.strs_v : ∀ {vs : List V} {zs : List Str}, RvA K G vs (zs.map PyData.str) → vs = zs.map V.str
  | _, [], .nil => rfl
  | v :: vs, z :: zs, .cons hv hr => by
    rw [RvA.strs_v hr]
    cases hv; rfl
theorem RvA.of_strs : ∀ zs : List Str, RvA K G (zs.map V.str) (zs.map PyData.str)
  | [] => .nil
  | z :: zs => .cons (.str z) (RvA.of_strs zs)
def qSortLS (a : AQ) : AQ := fun ex s Q => a ex s fun x => ∃ zs : List Str, listOf s x (zs.map PyData.str) ∧ ∀ ys : List Str, ys.Perm zs → sortedS ys = true → Q (.new (.nd .lst ((ys.map PyData.str).map M.d)))
theorem q_sortLS {ta : TE} {a : AQ} (ha : AbsQ c W ta a) : AbsQ c W (tCB (rSortLS K) (tCons ta tNil)) (qSortLS a) := by
  intro s ns hs σ G H rl ex hx Qd Q h q
  refine ha s ns hs σ G H rl ex hx _ _ h fun v rv G1 H1 q1 r1 h1 => ?_
  obtain ⟨zs, e, h1⟩ := h1
  have rl1 := rl.quiet q1
  obtain ⟨p, vs, rfl, hS, hA⟩ := list_rv rl1 r1 e
  have ev := RvA.strs_v hA
  subst ev
  refine ⟨p, zs, rfl, hS, fun ys l hp hsd hl => ?_⟩
  obtain ⟨q2, x2⟩ := new_lst rl1 (RvA.of_strs ys) hl
  exact q _ _ G1 _ (q1.tr q2) (x2.early fun b hb => q1.th rl.tp b hb) (h1 ys hp hsd)
def qSortDSA (a : AQ) : AQ := fun ex s Q => a ex s fun x => ∃ zs : List Str, keysOf s x (zs.map Sum.inr) ∧ ∀ ys : List Str, ys.Perm zs → sortedS ys = true → Q (.new (.nd .lst ((ys.map PyData.str).map M.d)))
theorem q_sortDSA {ta : TE} {a : AQ} (ha : AbsQ c W ta a) : AbsQ c W (tCB rSortDSA (tCons ta tNil)) (qSortDSA a) := by
  intro s ns hs σ G H rl ex hx Qd Q h q
  refine ha s ns hs σ G H rl ex hx _ _ h fun v rv G1 H1 q1 r1 h1 => ?_
  obtain ⟨zs, e, h1⟩ := h1
  have rl1 := rl.quiet q1
  obtain ⟨p, rows, rfl, hk, ek⟩ := keys_rv rl1 r1 e
  refine ⟨p, rows, zs, rfl, .inl hk, ek, fun ys l hp hsd hl => ?_⟩
  obtain ⟨q2, x2⟩ := new_lst rl1 (RvA.of_strs ys) hl
  exact q _ _ G1 _ (q1.tr q2) (x2.early fun b hb => q1.th rl.tp b hb) (h1 ys hp hsd)
/-! ### y in d, y perhaps None -/
def keyInNV (neg : Bool) (s : Sx) (Q : RV → Prop) : RV → RV → Prop
  | .at r p, .d y => ∃ ks cs, subM s.r r p = some (.nd (.dic ks) cs) ∧ ks.length = cs.length ∧ ((∃ k, keyOf y = some k ∧ Q (.d (.bool (neg ^^ (ixK ks k).isSome)))) ∨ (y = .none ∧ Q (.d (.bool neg))))
  | _, _ => False
theorem keyInNV_at {neg : Bool} {s : Sx} {Q : RV → Prop} {r : Nat} {p : Pt} {y : D} : keyInNV neg s Q (.at r p) (.d y) = ∃ ks cs, subM s.r r p = some (.nd (.dic ks) cs) ∧ ks.length = cs.length ∧ ((∃ k, keyOf y = some k ∧ Q (.d (.bool (neg ^^ (ixK ks k).isSome)))) ∨ (y = .none ∧ Q (.d (.bool neg)))) := rfl
def qKeyInN (neg : Bool) (b a : AQ) : AQ := fun ex s Q => b ex s fun y => a ex s fun x => keyInNV neg s Q x y
theorem q_keyInN' {neg : Bool} {ta tb : TE} {a b : AQ} (hb : AbsQ c W tb b) (ha : AbsQ c W ta a) : AbsQ c W (fun σ H Q => tb σ H fun y H1 => ta σ H1 fun x H2 => (∃ a o, x = .ref a ∧ DGet H2 a y o ∧ Q (.bl (neg ^^ o.isSome)) H2) ∨ ∃ a kvs, x = .ref a ∧ y = .non ∧ Rd H2 a (.dK kvs) ∧ Q (.bl neg) H2) (qKeyInN neg b a) := by
  intro s ns hs σ G H rl ex hx Qd Q h q
  refine hb s ns hs σ G H rl ex hx _ _ h fun w y G1 H1 q1 r1 h1 => ?_
  have rl1 := rl.quiet q1
  refine ha s ns hs σ G1 H1 rl1 ex (hx.mono q1.gg) _ _ h1 fun v x G2 H2 q2 r2 h2 => ?_
  have rl2 := rl1.quiet q2
  have r1' := r1.step rl1.tp (tpn rl) q2
  unfold keyInNV at h2
  split at h2
  · rename_i i p dy
    obtain ⟨ks, ms, hm, hl, h2⟩ := h2
    obtain ⟨n', e1, e2, rfl⟩ := r2
    obtain ⟨a', da, cs, e3, rfl⟩ := rl2.at hm
    rw [e1] at e3
    cases e3
    have hH : H2 a' = some (.dK (ks.zip (cs.map N.val))) := cell_head rl2 e1 (a', _) (by simp [hdO])
    rcases h2 with ⟨key, hk, h2⟩ | ⟨rfl, h2⟩
    · have eq := key_v r1' hk
      subst eq
      refine .inl ⟨a', _, rfl, DGet.k hH, ?_⟩
      rw [isSome_zip _ _ _ (by rw [eraseL_map, List.length_map] at hl; rw [List.length_map]; exact hl)]
      exact q _ (.d _) G2 H2 (q1.tr q2) (Rv.bl _) h2
    · cases r1'
      exact .inr ⟨a', _, rfl, rfl, .inl hH, q _ (.d _) G2 H2 (q1.tr q2) (Rv.bl _) h2⟩
  · exact h2.elim
theorem q_keyInN {ta tb : TE} {a b : AQ} (hb : AbsQ c W tb b) (ha : AbsQ c W ta a) : AbsQ c W (tDInN tb ta) (qKeyInN false b a) := by
  have := q_keyInN' (neg := false) hb ha
  simp only [Bool.false_xor] at this
  exact this
theorem q_keyNotInN {ta tb : TE} {a b : AQ} (hb : AbsQ c W tb b) (ha : AbsQ c W ta a) : AbsQ c W (tDNotInN tb ta) (qKeyInN true b a) := by
  have := q_keyInN' (neg := true) hb ha
  simp only [Bool.true_xor] at this
  exact this
/-! ### a.insert(i, x) of a list of data -/
theorem leafs_dN : ∀ (cs : List N) (ys : List D), eraseL cs = ys.map M.d → ∃ vs, vs.length = ys.length ∧ cs = dN vs ys
  | [], [], _ => ⟨[], rfl, rfl⟩
  | [], _ :: _, h => by simp [eraseL] at h
  | _ :: _, [], h => by simp [eraseL] at h
  | n :: cs, y :: ys, h => by
    simp only [eraseL, List.map_cons, List.cons.injEq] at h
    obtain ⟨vs, h1, h2⟩ := leafs_dN cs ys h.2
    cases n with
    | d v x =>
      have : x = y := by simpa [N.erase] using h.1
      subst this
      exact ⟨v :: vs, by simp [h1], by rw [h2]; rfl⟩
    | nd a da k cs => simp [N.erase] at h
    | gone v => simp [N.erase] at h
def insV (lo : Nat) (E : DX) (s : Sx) (r : Nat) (p : Pt) (ys : List D) : RV → RV → Prop
  | .d (.int z), .d y => 0 ≤ z ∧ z < 2 ^ 63 ∧ E.nx { s with r := putM s.r r p (.nd .lst ((ys.take z.toNat ++ [y] ++ ys.drop z.toNat).map M.d)) }
  | _, _ => False
theorem insV_d {lo : Nat} {E : DX} {s : Sx} {r : Nat} {p : Pt} {ys : List D} {z : Int} {y : D} : insV lo E s r p ys (.d (.int z)) (.d y) = (0 ≤ z ∧ z < 2 ^ 63 ∧ E.nx { s with r := putM s.r r p (.nd .lst ((ys.take z.toNat ++ [y] ++ ys.drop z.toNat).map M.d)) }) := rfl
def zInsert (lo : Nat) (a i b : AQ) : AZ := fun E s => a E.ex s fun x => (match x with
  | .at r p => lo ≤ r ∧ ∃ ys, subM s.r r p = some (.nd .lst (ys.map M.d)) ∧ ys.length < sizeLine ∧ i E.ex s fun z => b E.ex s fun y => insV lo E s r p ys z y
  | _ => False)
theorem z_insert {lo : Nat} {ta ti tb : TE} {a i b : AQ} (hlo : c.lo = lo) (ha : AbsQ c W ta a) (hi : AbsQ c W ti i) (hb : AbsQ c W tb b) : AbsZ c W (tDrop (tBM K "list" (fun x vs H Q => ∃ (l : Addr) (xs : List V) (i : Int) (y : V), x = .ref l ∧ vs = [.int i, y] ∧ H l = some (.lst xs) ∧ xs.length < sizeLine ∧ 0 ≤ i ∧ i < 2 ^ 63 ∧ Q .non (upd H l (.lst (xs.take i.toNat ++ [y] ++ xs.drop i.toNat)))) ta (tCons ti (tCons tb tNil)))) (zInsert lo a i b) := by
  intro s ns hs σ G H rl E D' h k
  refine ha s ns hs σ G H rl E.ex k.ex _ _ h fun v x G1 H1 q1 r1 h1 => ?_
  have rl1 := rl.quiet q1
  cases x with
  | «at» r p =>
    obtain ⟨l1, ys, hm, hlen, h1⟩ := h1
    obtain ⟨n, e1, e2, rfl⟩ := r1
    obtain ⟨a1, da1, cs1, e3, e4⟩ := rl1.at hm
    rw [e1] at e3
    cases e3
    refine ⟨.inl ⟨rfl, cs1.map N.val, SqL.of (cell_head rl1 e1 (a1, _) (by simp [hdO]))⟩, ?_⟩
    refine hi s ns hs σ G1 H1 rl1 E.ex (k.ex.mono q1.gg) _ _ h1 fun w z G2 H2 q2 r2 h2 => ?_
    have rl2 := rl1.quiet q2
    refine hb s ns hs σ G2 H2 rl2 E.ex (k.ex.mono (q1.gg.trans q2.gg)) _ _ h2 fun u y G3 H3 q3 r3 h3 => ?_
    have rl3 := rl2.quiet q3
    unfold insV at h3
    split at h3
    · rename_i z y
      cases r2
      obtain ⟨z0, z1, h3⟩ := h3
      have hA : RvA K G3 (cs1.map N.val) ys := leafs_of cs1 ys (fun l hl => (rl3.sub e1).2 l (by simpa [N.leaves] using hl)) e4
      have hB : RvA K G3 ((cs1.map N.val).take z.toNat ++ [u] ++ (cs1.map N.val).drop z.toNat) (ys.take z.toNat ++ [y] ++ ys.drop z.toNat) := ((hA.take _).append (.one r3)).append (hA.drop _)
      obtain ⟨d1, d2, d3, d4⟩ := dN_ok (cm := cm) hB
      obtain ⟨vs0, l0, hcs⟩ := leafs_dN cs1 ys e4
      have hno : ∀ (j : Nat) (n : N), cs1[j]? = some n → n.isNd → False := fun j n hj hn => by
        have : (eraseL cs1)[j]? = some n.erase := by rw [eraseL_map, List.getElem?_map, hj]; rfl
        rw [e4, List.getElem?_map] at this
        cases n with
        | nd a da k cs =>
          match hy : ys[j]?, this with
          | none, this => cases this
          | some y, this => cases this
        | _ => exact hn
      have hc0 : cellsL cm cs1 = [] := by
        have := (dN_ok (cm := cm) hA).2.1
        have e : cs1 = dN (cs1.map N.val) ys := by
          have dv : ∀ (vs : List V) (ys : List D), vs.length = ys.length → (dN vs ys).map N.val = vs := by
            intro vs
            induction vs with
            | nil => intro ys _; cases ys <;> rfl
            | cons v vs ih =>
              intro ys hl
              cases ys with
              | nil => simp at hl
              | cons y ys => simp only [dN, List.map_cons, N.val]; rw [ih ys (by simpa using hl)]
          rw [hcs, dv vs0 ys l0]
        rw [e]; exact this
      refine ⟨a1, cs1.map N.val, z, u, rfl, rfl, cell_head rl3 e1 (a1, _) (by simp [hdO]), by rw [hA.length]; exact hlen, z0, z1, ?_⟩
      have r4 := rl3.nodeS (nw := []) (cs' := dN ((cs1.map N.val).take z.toNat ++ [u] ++ (cs1.map N.val).drop z.toNat) (ys.take z.toNat ++ [y] ++ ys.drop z.toNat)) (k' := .lst) (H' := upd H3 a1 (.lst ((cs1.map N.val).take z.toNat ++ [u] ++ (cs1.map N.val).drop z.toNat))) e1 (by omega) (by simp [hdO]) ⟨[], by rw [hc0, d2]; simp [cellsL]⟩ (fun x hx => by simp [cellsL] at hx) (by simp [cellsL])
        d4 (fun b hb => upd_ne fun z => hb (by simp [hdO, z])) (fun x hx => by rw [d3] at hx; simp only [hdO, List.mem_singleton] at hx; subst hx; exact upd_same) (fun j n hj hn => (hno j n hj hn).elim)
      rw [d1] at r4
      exact k.nx _ _ hs σ G3 _ r4 ((q1.gg.trans q2.gg).trans q3.gg) h3
    · exact h3.elim
  | _ => exact h1.elim
/-! ### [a, b] of two new things -/
def twoV (Q : RV → Prop) : RV → RV → Prop
  | .new m1, .new m2 => Q (.new (.nd .lst [m1, m2]))
  | _, _ => False
theorem twoV_new {Q : RV → Prop} {m1 m2 : M} : twoV Q (.new m1) (.new m2) = Q (.new (.nd .lst [m1, m2])) := rfl
def qNewL2 (a b : AQ) : AQ := fun ex s Q => a ex s fun x => b ex s fun y => twoV Q x y
theorem q_newL2 {ta tb : TE} {a b : AQ} (ha : AbsQ c W ta a) (hb : AbsQ c W tb b) : AbsQ c W (tLst (tCons ta (tCons tb tNil))) (qNewL2 a b) := by
  intro s ns hs σ G H rl ex hx Qd Q h q
  refine ha s ns hs σ G H rl ex hx _ _ h fun v x G1 H1 q1 r1 h1 => ?_
  have rl1 := rl.quiet q1
  refine hb s ns hs σ G1 H1 rl1 ex (hx.mono q1.gg) _ _ h1 fun u y G2 H2 q2 r2 h2 => ?_
  have rl2 := rl1.quiet q2
  have r1' := r1.step rl1.tp (tpn rl) q2
  unfold twoV at h2
  split at h2
  · rename_i m1 m2
    obtain ⟨n1, a1, rfl, a3, a4, a5, a6⟩ := r1
    obtain ⟨n1', b1, b2, b3, b4, b5, b6⟩ := r1'
    obtain ⟨n2, g1, rfl, g3, g4, g5, g6⟩ := r2
    have old1 : ∀ x ∈ n1.cells cm, H2 x.1 = some x.2 ∧ G2 x.1 = none := fun x hx => by
      obtain ⟨z1, z2, z3⟩ := a4 x hx
      refine ⟨q2.hh _ _ (fun l xs e => tpn rl _ l xs e z3) z1, q2.fr _ z2 (by rw [z1]; exact fun z => nomatch z)⟩
    refine ⟨by show 2 ≤ sizeLine; decide, fun p hp => ?_⟩
    have early1 : ∀ b, H b ≠ none → H1 b ≠ none := fun b hb => q1.th rl.tp b hb
    refine q _ (.new (.nd .lst [m1, m2])) G2 _ ((q1.tr q2).tr (Qs.fresh rl2 hp)) ⟨.nd p p .lst [n1, n2], by simp [N.erase, eraseL, a1, g1], rfl, trivial, fun x hx => ?_, fun l hl => ?_, ?_⟩ h2
    · simp only [N.cells, hdO, cellsL, List.append_nil, List.mem_append, List.mem_singleton, List.map_cons, List.map_nil] at hx
      rcases hx with rfl | hx | hx
      · exact ⟨upd_same, rl2.ex.none hp, Classical.byContradiction fun z => (q1.tr q2).th rl.tp _ z hp⟩
      · obtain ⟨z1, z2⟩ := old1 x hx
        exact ⟨by rw [upd_ne (ne_of_none z1 hp)]; exact z1, z2, (a4 x hx).2.2⟩
      · obtain ⟨z1, z2, z3⟩ := g4 x hx
        exact ⟨by rw [upd_ne (ne_of_none z1 hp)]; exact z1, z2, Classical.byContradiction fun z => early1 _ z z3⟩
    · simp only [N.leaves, leavesL, List.append_nil, List.mem_append] at hl
      rcases hl with hl | hl
      · exact (a5 l hl).mono q2.gg
      · exact g5 l hl
    · simp only [N.cells, hdO, cellsL, List.append_nil, List.map_append, List.map_cons, List.map_nil]
      rw [List.nodup_append, List.nodup_append]
      refine ⟨by simp, ⟨a6, g6, fun a ha b hb e => ?_⟩, fun a ha b hb e => ?_⟩
      · subst e
        obtain ⟨x, hx, rfl⟩ := List.mem_map.mp ha
        obtain ⟨y, hy, ey⟩ := List.mem_map.mp hb
        have z3 := (g4 y hy).2.2
        rw [ey, (a4 x hx).1] at z3
        cases z3
      · simp only [List.mem_singleton] at ha
        subst ha
        subst e
        rcases List.mem_append.mp hb with hb | hb
        · obtain ⟨x, hx, ex⟩ := List.mem_map.mp hb
          have := (old1 x hx).1
          rw [ex, hp] at this
          cases this
        · obtain ⟨x, hx, ex⟩ := List.mem_map.mp hb
          have := (g4 x hx).1
          rw [ex, hp] at this
          cases this
  · exact h2.elim
end
end Fe

namespace Fe
open PySem L2 Fc PySem.Spec PyProof.Rows
open scoped List
/-! ### C.m(x, ..): a function of an own class, asked of the class -/
def ofClass (K : PySem.W.Frag) (C f : Addr) (m : Str) : Bool :=
  (PySem.W.specialIn K (.ref C) "__getattribute__" == some (some (.builtin "type.__getattribute__"))) && PySem.W.readsIn K C (.type "type") &&
  (match PySem.W.findCls K (.ref C) (.type "type") m with | some (.val v) => v == .ref f | _ => false) && PySem.W.handedIn (.ref f) && PySem.W.keepIn K (.ref f)
section
variable {X : Cx} {CX : CXT} {k : Nat} {f C : Addr} {fd : FuncData} {ps : List Str} {sp : Sp} {E : XK} {x m : Str} {np apos pos : Pos} {e : Expr} {es : List Expr} {t : TA} {dvs : List V} {ds : List Value}
theorem pe_ofClass {pl : Sem Bool} (o : ofClass X.K C f m = true) (F : FnOk X.prog X.w X.K X.mg X.base CX k f fd ps sp) (room : Room k X.A) (gl : Gl X x) (cm : X.mg x = some (.ref C)) (bi : Binds X.K fd ps ds) (dv : Vals dvs ds) (pas : Passes CX X E) (ha : PA X (e :: es) t) (hdb : (x == ("__debug__" : Str)) = false := by decide)
    (st : starEach (e :: es) X.env = (false, eval e X.env) :: starEach es X.env := by rfl) (pln : (backTo pos (starEach es X.env)).any (·.1) = false := by rfl)
    (how : eval (.Call (.Attribute (.Name x np) m apos) (e :: es) [] pos) X.env = (do
      let recv ← eval (.Name x np) X.env
      standAt apos.atName
      let (fn, fst) ← holding [recv] (getMethod recv m pl)
      callWith pos fn fst (backTo pos (starEach (e :: es) X.env)) (backToKw pos (keywordEach [] X.env))) := by rfl) :
    PE X (.Call (.Attribute (.Name x np) m apos) (e :: es) [] pos) (tCall sp dvs E t) := by
  unfold ofClass at o
  simp only [Bool.and_eq_true] at o
  obtain ⟨⟨⟨⟨o1, o2⟩, o3⟩, o4⟩, o5⟩ := o
  have fc : PySem.W.findCls X.K (.ref C) (.type "type") m = some (.val (.ref f)) := by
    split at o3
    · rename_i v hv
      rw [hv, eq_of_beq o3]
    · cases o3
  refine ⟨fun pins s σ H Q J wish => ?_⟩
  refine PySem.W.methodCall_KW (pl := pl) (ld_glob J gl cm ?_ hdb) how
  refine PySem.W.method_cls J.kIn (eq_of_beq o1) (PySem.W.cls_value J.kIn o2 fc o4 ?_)
  have J2 : Inv X pins σ H { s with toks := s.toks + 1 } := J.tok _
  refine PySem.W.callWith_K (first := []) (h₀ := X.base) J.ok.mod.kin o5 (thn (ha.run pos pins _ σ H _ J2 wish) fun us s1 got => ?_) st pln
  obtain ⟨vs, H1, J1, r1, q1⟩ := got
  exact ⟨J1.kIn, run_fn F room bi dv pas J1 r1 q1⟩
end
/-! ### C(a, ..): a new thing, made by its __init__ from data -/
section
variable {K : PySem.W.Frag} {cm : Nat → Addr} {c : Cz K cm} {W : WX} {s s' : Sx} {ns : List N} {hs : List V} {σ : L2.St} {G H G' H' Hs G2 H2 : Hp}
def qMake (n : Nat) (f : DsX) (r : AQA) : AQ := fun ex s Q => r ex s fun rvs => ∃ ds, asD rvs = some ds ∧ f (.at 0 [] :: ds.map Cl.d) [.nd (.obj n []) []] (fun rv ρ => rv = .d .none ∧ ∃ m, ρ = [m] ∧ Q (.new m)) (fun _ _ => False)
theorem q_make {n : Nat} {st : Bool} {f : DsX} {E : XK} {tr : TA} {ar : AQA} (hr : AbsQA c W tr ar) : AbsQ c W (tMake (cm n) (spX K cm false st f) [] E tr) (qMake n f ar) := by
  intro s ns hs σ G H rl ex hx Qd Q h q
  refine hr s ns hs σ G H rl ex hx _ _ h fun vs rvs G1 H1 q1 r1 h1 => ?_
  obtain ⟨ds, e, hf⟩ := h1
  have rl1 := rl.quiet q1
  have A := asD_rv r1 e
  intro x dx hx0 hdx hne
  have e1 : upd (upd H1 dx (.own x)) x (.ins (cm n) dx []) x = some (.ins (cm n) dx []) := upd_same
  have e2 : upd (upd H1 dx (.own x)) x (.ins (cm n) dx []) dx = some (.own x) := by rw [upd_ne hne, upd_same]
  have e3 : ∀ b o, H1 b = some o → upd (upd H1 dx (.own x)) x (.ins (cm n) dx []) b = some o := fun b o hb => by
    rw [upd_ne (ne_of_none hb hx0), upd_ne (ne_of_none hb hdx)]; exact hb
  have e4 : ∀ b, b ≠ x → b ≠ dx → upd (upd H1 dx (.own x)) x (.ins (cm n) dx []) b = H1 b := fun b h1 h2 => by rw [upd_ne h1, upd_ne h2]
  generalize upd (upd H1 dx (.own x)) x (.ins (cm n) dx []) = H2 at e1 e2 e3 e4
  have exg : Ex G1 H2 := fun b o hb => e3 b o (rl1.ex b o hb)
  have tp2 : ∀ t l xs, c.tp = some (t, l, xs) → TapeAt t l xs H2 := fun t l xs ht => by
    obtain ⟨ne, hl, i, j, h0, h1, ht⟩ := rl1.tp t l xs ht
    exact ⟨ne, e3 _ _ hl, i, j, h0, h1, e3 _ _ ht⟩
  have tpn : ∀ t l xs, c.tp = some (t, l, xs) → H1 t ≠ none ∧ H1 l ≠ none := fun t l xs ht => ⟨tape_ne (rl1.tp t l xs ht), tape_neL (rl1.tp t l xs ht)⟩
  let c' : Cz K cm := ⟨c.tp, G1, H2, [.nd x dx (.obj n []) []], 0, st, fun _ _ => False, exg, fun t l xs ht => ⟨tp2 t l xs ht, rl1.fr t (c.tp0 t l xs ht).2.1 (tape_ne (c.tp0 t l xs ht).1), rl1.fr l (c.tp0 t l xs ht).2.2 (tape_neL (c.tp0 t l xs ht).1)⟩⟩
  have cl : cellsL cm [N.nd x dx (.obj n []) []] = [(x, .ins (cm n) dx []), (dx, .own x)] := by simp [cellsL, N.cells, hdO]
  refine ⟨c', .at 0 [] :: ds.map Cl.d, _, _, rfl, rfl, rfl, ⟨rfl, ?_, ?_, ?_, ?_, ?_, exg, Ex.refl _, fun b g _ => g, fun b o _ h => h, tp2, ?_, ?_, ?_, fun b h => h, fun b xs h => h.elim id False.elim, ?_, ?_, rfl, ?_⟩, hf, ?_, ?_⟩
  · intro y hy
    have hy : y ∈ cellsL cm [N.nd x dx (.obj n []) []] := hy
    rw [cl] at hy
    simp only [List.mem_cons, List.not_mem_nil, or_false] at hy
    rcases hy with rfl | rfl
    · exact e1
    · exact e2
  · intro y hy
    exact absurd hy (show y ∉ leavesL [N.nd x dx (.obj n []) []] by simp [leavesL, N.leaves])
  · show ((cellsL cm [N.nd x dx (.obj n []) []]).map (·.1)).Nodup
    rw [cl]; simp only [List.map_cons, List.map_nil, List.nodup_cons, List.mem_singleton, List.not_mem_nil, not_false_eq_true, List.nodup_nil, and_true]; exact fun z => hne z.symm
  · intro y hy
    have hy : y ∈ cellsL cm [N.nd x dx (.obj n []) []] := hy
    rw [cl] at hy
    simp only [List.mem_cons, List.not_mem_nil, or_false] at hy
    rcases hy with rfl | rfl
    · exact rl1.ex.none hx0
    · exact rl1.ex.none hdx
  · intro y hy t l xs ht
    have hy : y ∈ cellsL cm [N.nd x dx (.obj n []) []] := hy
    rw [cl] at hy
    obtain ⟨z1, z2⟩ := tpn t l xs ht
    simp only [List.mem_cons, List.not_mem_nil, or_false] at hy
    rcases hy with rfl | rfl
    · exact ⟨fun z => z1 (by rw [← z]; exact hx0), fun z => z2 (by rw [← z]; exact hx0)⟩
    · exact ⟨fun z => z1 (by rw [← z]; exact hdx), fun z => z2 (by rw [← z]; exact hdx)⟩
  · intro i m hi y hy
    exact .inr ⟨m, hi, List.mem_map.mpr ⟨y, hy, rfl⟩⟩
  · intro i hi; exact absurd hi (Nat.not_lt_zero _)
  · intro i m hi; exact ⟨m, hi, rfl, fun z => z, fun _ => Stab.refl m⟩
  · simp [A.length]
  · intro i y hy
    cases i with
    | zero =>
      simp only [List.getElem?_cons_zero, Option.some.injEq] at hy
      subst hy
      exact ⟨some (.ref x), by simp, N.nd x dx (.obj n []) [], rfl, trivial, rfl⟩
    | succ i =>
      simp only [List.getElem?_cons_succ, List.getElem?_map] at hy
      cases hd : ds[i]? with
      | none => rw [hd] at hy; cases hy
      | some d =>
        rw [hd] at hy
        cases hy
        have hil := (List.getElem?_eq_some_iff.mp hd).1
        obtain ⟨v, hv⟩ : ∃ v, vs[i]? = some v := ⟨vs[i]'(by rw [A.length]; exact hil), List.getElem?_eq_getElem _⟩
        obtain ⟨d', h1, h2⟩ := A.getV hv
        rw [hd] at h1
        cases h1
        exact ⟨some v, by simp [hv], v, rfl, h2⟩
  · intro i y hy; cases hy
  · rintro v rv ns' G' H' Hs' r' el lt' x' ⟨rfl, m, em, hq⟩
    have el' : ns'.length = 1 := el
    match ns', el' with
    | [n'], _ =>
      obtain ⟨n1, h1, h2, h3, _⟩ := r'.sb 0 _ (show c'.ns0[0]? = some (N.nd x dx (.obj n []) []) from rfl)
      simp only [List.getElem?_cons_zero, Option.some.injEq] at h1
      subst h1
      have hv : v = .non := by cases x'; rfl
      refine ⟨hv, ?_⟩
      have em' : n'.erase = m := by
        have : eraseL [n'] = [m] := em
        simpa [eraseL] using this
      have mu : ∀ b o, (∀ l xs, c.tp ≠ some (b, l, xs)) → H1 b = some o → H' b = some o := fun b o mt hb => r'.hh b o (fun z => by
        rcases z with ⟨l, xs, e⟩ | ⟨i, n0, _, hi, hm⟩
        · exact mt l xs e
        · have hi : [N.nd x dx (.obj n []) []][i]? = some n0 := hi
          have : n0 = N.nd x dx (.obj n []) [] := by simpa using List.mem_of_getElem? hi
          subst this
          have hm : b ∈ (cellsL cm [N.nd x dx (.obj n []) []]).map (·.1) := by simpa [cellsL] using hm
          rw [cl] at hm
          simp only [List.map_cons, List.map_nil, List.mem_cons, List.not_mem_nil, or_false] at hm
          rcases hm with rfl | rfl
          · rw [hx0] at hb; cases hb
          · rw [hdx] at hb; cases hb) (e3 b o hb)
      have qq : Qs c G1 H1 G' H' := ⟨r'.gg, r'.ex, mu, fun b g hb => r'.fr b g (by
        cases hq : H1 b with
        | none => exact absurd hq hb
        | some o => rw [show c'.H0 b = H2 b from rfl, e3 b o hq]; exact fun z => nomatch z), r'.tp⟩
      have early : ∀ b, H1 b = none → H b = none := fun b hb => Classical.byContradiction fun z => q1.th rl.tp b z hb
      have old : ∀ y ∈ n'.cells cm, H1 y.1 = none := fun y hy => by
        rcases r'.nw 0 n' rfl y hy with z | ⟨m0, hm0, hm1⟩
        · have z : H2 y.1 = none := z
          cases hq : H1 y.1 with
          | none => rfl
          | some o => rw [e3 _ o hq] at z; cases z
        · obtain rfl : N.nd x dx (.obj n []) [] = m0 := Option.some.inj hm0
          have hm1 : y.1 ∈ (cellsL cm [N.nd x dx (.obj n []) []]).map (·.1) := by simpa [cellsL] using hm1
          rw [cl] at hm1
          simp only [List.map_cons, List.map_nil, List.mem_cons, List.not_mem_nil, or_false] at hm1
          rcases hm1 with e | e
          · rw [e]; exact hx0
          · rw [e]; exact hdx
      have nl : cellsL cm [n'] = n'.cells cm := by simp [cellsL]
      refine q _ (.new m) G' H' (q1.tr qq) ⟨n', em', h2, h3 trivial, fun y hy => ⟨r'.ok y (by rw [nl]; exact hy), r'.gn y (by rw [nl]; exact hy), early _ (old y hy)⟩, fun l hl => r'.lv l (by simpa [leavesL] using hl), by have := r'.nd; rw [nl] at this; exact this⟩ hq
  · rintro e dd ns' G' H' r' el hd hq
    exact hq.elim
end
end Fe

namespace Fe
open PySem L2 Fc
open scoped List
/-! ### o.f = v: a new field, or a datum for a datum -/
theorem putF_new {f : Str} {v : V} : ∀ {fs : List Str} {vs : List V}, f ∉ fs → fs.length = vs.length → putF f v (fs.zip vs) = (fs ++ [f]).zip (vs ++ [v])
  | [], [], _, _ => rfl
  | [], _ :: _, _, h => by simp at h
  | _ :: _, [], _, h => by simp at h
  | g :: fs, w :: vs, hf, hl => by
    simp only [List.mem_cons, not_or] at hf
    simp only [List.zip_cons_cons, putF, List.cons_append]
    rw [if_neg (fun e => hf.1 e.symm), putF_new hf.2 (by simpa using hl)]
theorem putF_old {f : Str} {v : V} : ∀ {fs : List Str} {vs : List V} {j : Nat}, fs.idxOf? f = some j → fs.length = vs.length → putF f v (fs.zip vs) = fs.zip (vs.set j v)
  | [], _, _, h, _ => by simp at h
  | _ :: _, [], _, _, h => by simp at h
  | g :: fs, w :: vs, j, hj, hl => by
    rw [List.idxOf?_cons] at hj
    simp only [List.zip_cons_cons, putF]
    by_cases e : g = f
    · subst e
      simp only [beq_self_eq_true, if_true, Option.some.injEq] at hj
      subst hj
      rw [if_pos rfl]; rfl
    · rw [if_neg (by simpa using e)] at hj
      rw [if_neg e]
      cases hk : fs.idxOf? f with
      | none => rw [hk] at hj; cases hj
      | some i =>
        rw [hk] at hj
        cases hj
        rw [putF_old hk (by simpa using hl)]; rfl
section
variable {K : PySem.W.Frag} {cm : Nat → Addr} {c : Cz K cm} {W : WX} {s s' : Sx} {ns : List N} {hs : List V} {σ : L2.St} {G H G' H' Hs G2 H2 : Hp}
def fldNew (n : Nat) (f : Str) (E : DX) (s : Sx) (r : Nat) (p : Pt) (fs : List Str) (cs : List M) : RV → Prop
  | .d y => E.nx { s with r := putM s.r r p (.nd (.obj n (fs ++ [f])) (cs ++ [.d y])) }
  | .new m => E.nx { s with r := putM s.r r p (.nd (.obj n (fs ++ [f])) (cs ++ [m])) }
  | _ => False
theorem fldNew_d {n : Nat} {f : Str} {E : DX} {s : Sx} {r : Nat} {p : Pt} {fs : List Str} {cs : List M} {y : D} : fldNew n f E s r p fs cs (.d y) = E.nx { s with r := putM s.r r p (.nd (.obj n (fs ++ [f])) (cs ++ [.d y])) } := rfl
theorem fldNew_new {n : Nat} {f : Str} {E : DX} {s : Sx} {r : Nat} {p : Pt} {fs : List Str} {cs : List M} {m : M} : fldNew n f E s r p fs cs (.new m) = E.nx { s with r := putM s.r r p (.nd (.obj n (fs ++ [f])) (cs ++ [m])) } := rfl
def fldOld (n j : Nat) (E : DX) (s : Sx) (r : Nat) (p : Pt) (fs : List Str) (cs : List M) : RV → Prop
  | .d y => (∃ x0, cs[j]? = some (.d x0)) ∧ E.nx { s with r := putM s.r r p (.nd (.obj n fs) (cs.set j (.d y))) }
  | _ => False
theorem fldOld_d {n j : Nat} {E : DX} {s : Sx} {r : Nat} {p : Pt} {fs : List Str} {cs : List M} {y : D} : fldOld n j E s r p fs cs (.d y) = ((∃ x0, cs[j]? = some (.d x0)) ∧ E.nx { s with r := putM s.r r p (.nd (.obj n fs) (cs.set j (.d y))) }) := rfl
def setFldV (n : Nat) (f : Str) (lo : Nat) (E : DX) (s : Sx) (y : RV) : RV → Prop
  | .at r p => lo ≤ r ∧ ∃ fs cs, subM s.r r p = some (.nd (.obj n fs) cs) ∧ fs.length = cs.length ∧ fs.length < 1000 ∧ ((f ∉ fs ∧ fldNew n f E s r p fs cs y) ∨ ∃ j, fs.idxOf? f = some j ∧ fldOld n j E s r p fs cs y)
  | _ => False
theorem setFldV_at {n : Nat} {f : Str} {lo : Nat} {E : DX} {s : Sx} {y : RV} {r : Nat} {p : Pt} : setFldV n f lo E s y (.at r p) = (lo ≤ r ∧ ∃ fs cs, subM s.r r p = some (.nd (.obj n fs) cs) ∧ fs.length = cs.length ∧ fs.length < 1000 ∧ ((f ∉ fs ∧ fldNew n f E s r p fs cs y) ∨ ∃ j, fs.idxOf? f = some j ∧ fldOld n j E s r p fs cs y)) := rfl
def zSetFld (n : Nat) (f : Str) (lo : Nat) (b a : AQ) : AZ := fun E s => b E.ex s fun y => a E.ex s fun x => setFldV n f lo E s y x
theorem z_setFld {n : Nat} {f : Str} {lo : Nat} {ta tb : TE} {a b : AQ} (hcls : Cls K (cm n)) (hna : NoAttr K (cm n) f) (hlo : c.lo = lo) (hb : AbsQ c W tb b) (ha : AbsQ c W ta a) : AbsZ c W (sFld K ta tb f) (zSetFld n f lo b a) := by
  intro s ns hs σ G H rl E D' h k
  refine hb s ns hs σ G H rl E.ex k.ex _ _ h fun v y G1 H1 q1 r1 h1 => ?_
  have rl1 := rl.quiet q1
  refine ha s ns hs σ G1 H1 rl1 E.ex (k.ex.mono q1.gg) _ _ h1 fun w x G2 H2 q2 r2 h2 => ?_
  have rl2 := rl1.quiet q2
  have r1' := r1.step rl1.tp (tpn rl) q2
  cases x with
  | «at» r p =>
    obtain ⟨l1, fs, ms, hm, hln, h1000, h2⟩ := h2
    obtain ⟨n0, e1, e2, rfl⟩ := r2
    obtain ⟨a1, da1, cs1, e3, rfl⟩ := rl2.at hm
    rw [e1] at e3
    cases e3
    have hcs : (eraseL cs1).length = cs1.length := by rw [eraseL_map, List.length_map]
    rw [hcs] at hln
    have hH : H2 a1 = some (.ins (cm n) da1 (fs.zip (cs1.map N.val))) := cell_head rl2 e1 (a1, _) (by simp [hdO])
    have hD : H2 da1 = some (.own a1) := cell_head rl2 e1 (da1, _) (by simp [hdO])
    have hne : da1 ≠ a1 := fun z => by rw [z, hH] at hD; cases hD
    refine ⟨a1, cm n, da1, _, rfl, hH, hcls, hna, by rw [List.length_zip, List.length_map]; omega, ?_⟩
    have gg2 := q1.gg.trans q2.gg
    have lv1 : ∀ l ∈ leavesL cs1, Rv K G2 l.1 l.2 := fun l hl => (rl2.sub e1).2 l (by simpa [N.leaves] using hl)
    rcases h2 with ⟨hf, h2⟩ | ⟨j, hj, h2⟩
    · rw [putF_new hf (by rw [List.length_map]; exact hln)]
      have other : ∀ b, b ∉ (hdO cm a1 da1 (cs1.map N.val) (.obj n fs)).map (·.1) → upd H2 a1 (.ins (cm n) da1 ((fs ++ [f]).zip (cs1.map N.val ++ [v]))) b = H2 b := fun b hb => upd_ne fun z => hb (by simp [hdO, z])
      have here : ∀ nw : N, nw.val = v → ∀ x ∈ hdO cm a1 da1 ((cs1 ++ [nw]).map N.val) (.obj n (fs ++ [f])), upd H2 a1 (.ins (cm n) da1 ((fs ++ [f]).zip (cs1.map N.val ++ [v]))) x.1 = some x.2 := fun nw hv x hx => by
        rw [List.map_append, List.map_cons, List.map_nil, hv] at hx
        simp only [hdO, List.mem_cons, List.not_mem_nil, or_false] at hx
        rcases hx with rfl | rfl
        · exact upd_same
        · show upd H2 a1 _ da1 = _
          rw [upd_ne hne]; exact hD
      have keep : ∀ (n' : N) (j : Nat) (n : N), cs1[j]? = some n → n.isNd → (cs1 ++ [n'])[j]? = some n := fun n' j n hj _ => by
        rw [List.getElem?_append_left (List.getElem?_eq_some_iff.mp hj).1]; exact hj
      cases y with
      | d y =>
        have r3 := rl2.nodeS (nw := []) (cs' := cs1 ++ [.d v y]) (k' := .obj n (fs ++ [f])) e1 (by omega) (by simp [hdO]) ⟨[], by simp [cellsL_append, cellsL, N.cells]⟩ (fun x hx => by simp [cellsL] at hx) (by simp [cellsL])
          (fun l hl => by
            rw [leavesL_append, List.mem_append] at hl
            rcases hl with hl | hl
            · exact lv1 l hl
            · simp only [leavesL, N.leaves, List.append_nil, List.mem_singleton] at hl
              subst hl; exact r1') other (here (.d v y) rfl) (keep _)
        have e5 : eraseL (cs1 ++ [.d v y]) = eraseL cs1 ++ [.d y] := by simp [eraseL_map, N.erase]
        rw [e5] at r3
        exact k.nx _ _ hs σ G2 _ r3 gg2 h2
      | new m =>
        obtain ⟨nn, g1, rfl, g3, g4, g5, g6⟩ := r1'
        have r3 := rl2.nodeS (nw := [nn]) (cs' := cs1 ++ [nn]) (k' := .obj n (fs ++ [f])) e1 (by omega) (by simp [hdO]) ⟨[], by simp [cellsL_append, cellsL]⟩
          (fun x hx => by
            simp only [cellsL, List.append_nil] at hx
            obtain ⟨z1, z2, z3⟩ := g4 x hx
            refine ⟨z1, z2, rl.lt.z _ z3, fun hm => ?_⟩
            obtain ⟨y, hy, e⟩ := List.mem_map.mp hm
            exact rl.lt.n y hy (by rw [e]; exact z3)) (by simpa [cellsL] using g6)
          (fun l hl => by
            rw [leavesL_append, List.mem_append] at hl
            rcases hl with hl | hl
            · exact lv1 l hl
            · exact g5 l (by simpa [leavesL] using hl)) other (here nn rfl) (keep _)
        have e5 : eraseL (cs1 ++ [nn]) = eraseL cs1 ++ [m] := by simp [eraseL_map, g1]
        rw [e5] at r3
        exact k.nx _ _ hs σ G2 _ r3 gg2 h2
      | _ => exact h2.elim
    · rw [putF_old hj (by rw [List.length_map]; exact hln)]
      cases y with
      | d y =>
        obtain ⟨⟨x0, hx0⟩, h2⟩ := h2
        obtain ⟨v0, hv0⟩ := leaf_at hx0
        have r4 := rl2.leafS (H' := upd H2 a1 (.ins (cm n) da1 (fs.zip ((cs1.map N.val).set j v)))) e1 (by omega) hv0 r1' (fun b hb => upd_ne hb) (fun x hx => by
          simp only [hdO, List.mem_cons, List.not_mem_nil, or_false] at hx
          rcases hx with rfl | rfl
          · exact upd_same
          · show upd H2 a1 _ da1 = _
            rw [upd_ne hne]; exact hD)
        exact k.nx _ _ hs σ G2 _ r4 gg2 h2
      | _ => exact h2.elim
  | _ => exact h2.elim
end
end Fe

namespace Fe
open PySem L2 Fc
open scoped List
/-! ### o.m(a, ..) -/
section
variable {K : PySem.W.Frag} {cm : Nat → Addr} {c : Cz K cm} {W : WX} {s s' : Sx} {ns : List N} {hs : List V} {σ : L2.St} {G H G' H' Hs G2 H2 : Hp}
def selfV (n : Nat) (m : Str) (s : Sx) : RV → Prop
  | .at r p => ∃ fs cs, subM s.r r p = some (.nd (.obj n fs) cs) ∧ m ∉ fs
  | _ => False
theorem selfV_at {n : Nat} {m : Str} {s : Sx} {r : Nat} {p : Pt} : selfV n m s (.at r p) = ∃ fs cs, subM s.r r p = some (.nd (.obj n fs) cs) ∧ m ∉ fs := rfl
def qSelf (n : Nat) (m : Str) (a : AQ) (ar : AQA) : AQA := fun ex s Q => a ex s fun x => selfV n m s x ∧ ar ex s fun xs => Q (x :: xs)
def tSelf (C : Addr) (m : Str) (ta : TE) (t : TA) : TA := fun σ H Q => ta σ H fun x H1 => ∃ a dx fs, x = .ref a ∧ H1 a = some (.ins C dx fs) ∧ fs.lookup m = none ∧ t σ H1 fun vs H2 => Q (x :: vs) H2
theorem lookup_zip_none {m : Str} : ∀ (fs : List Str) (vs : List V), m ∉ fs → (fs.zip vs).lookup m = none
  | [], _, _ => rfl
  | _ :: _, [], _ => rfl
  | g :: fs, v :: vs, h => by
    simp only [List.mem_cons, not_or] at h
    rw [List.zip_cons_cons, List.lookup_cons, beq_eq_false_iff_ne.mpr h.1]
    exact lookup_zip_none fs vs h.2
theorem qa_self {n : Nat} {m : Str} {ta : TE} {tr : TA} {a : AQ} {ar : AQA} (ha : AbsQ c W ta a) (hr : AbsQA c W tr ar) : AbsQA c W (tSelf (cm n) m ta tr) (qSelf n m a ar) := by
  intro s ns hs σ G H rl ex hx Qd Q h q
  refine ha s ns hs σ G H rl ex hx _ _ h fun v x G1 H1 q1 r1 h1 => ?_
  have rl1 := rl.quiet q1
  obtain ⟨hs', h1⟩ := h1
  have r0 := r1
  cases x with
  | «at» r p =>
    obtain ⟨fs, ms, hm, hnm⟩ := hs'
    obtain ⟨n0, e1, e2, rfl⟩ := r1
    obtain ⟨a1, da1, cs1, e3, rfl⟩ := rl1.at hm
    rw [e1] at e3
    cases e3
    refine ⟨a1, da1, fs.zip (cs1.map N.val), rfl, cell_head rl1 e1 (a1, _) (by simp [hdO]), lookup_zip_none _ _ hnm, ?_⟩
    refine hr s ns hs σ G1 H1 rl1 ex (hx.mono q1.gg) _ _ h1 fun vs ds G2 H2 q2 r2 h2 => ?_
    exact q _ _ G2 H2 (q1.tr q2) (.cons (r0.step rl1.tp (tpn rl) q2) (r2.early fun b hb => q1.th rl.tp b hb)) h2
  | _ => exact hs'.elim
theorem tMeth_self {C : Addr} {m : Str} {sp : Sp} {E : XK} {ta : TE} {t : TA} : tMeth C m sp [] E ta t = fun σ H Q => tSelf C m ta t σ H fun vs H1 => sp vs H1 Q E := by
  funext σ H Q
  simp only [tMeth, tSelf, List.append_nil]
/-- .. that may change what is handed in; nothing is raised -/
theorem x_meth {n lo : Nat} {m : Str} {st : Bool} {f : DsX} {E : XK} {ta : TE} {tr : TA} {a : AQ} {ar : AQA} (hlo : c.lo = lo) (hst : st = true ∨ c.st = false) (ha : AbsQ c W ta a) (hr : AbsQA c W tr ar) :
    AbsX c W (tMeth (cm n) m (spX K cm false st f) [] E ta tr) (xCallN lo st f (qSelf n m a ar)) := by
  rw [tMeth_self]
  exact x_call_core (E := fun _ => E) hlo hst wants_none (qa_self ha hr)
/-- .. that changes nothing; nothing is raised -/
theorem q_meth {n : Nat} {m : Str} {st : Bool} {f : DsX} {E : XK} {ta : TE} {tr : TA} {a : AQ} {ar : AQA} (ha : AbsQ c W ta a) (hr : AbsQA c W tr ar) :
    AbsQ c W (tMeth (cm n) m (spX K cm true st f) [] E ta tr) (qCallN f (qSelf n m a ar)) := by
  rw [tMeth_self]
  exact q_call_core (E := fun _ => E) wants_none (qa_self ha hr)
end
end Fe

namespace Fe
open PySem L2 Fc
open scoped List
/-! ### comprehensions over lists of trees -/
section
variable {K : PySem.W.Frag} {cm : Nat → Addr} {c : Cz K cm} {W : WX} {s s' : Sx} {ns : List N} {hs : List V} {σ : St} {G H G' H' Hs G2 H2 : Hp}
def QWalk (c : Cz K cm) (ns : List N) (J : It) (items : List RV) (g h : Hp) : Prop := ∀ (i : Nat) (G H : Hp), Qs c g h G H →
  (i < items.length → J.go i H ∧ ∀ x H', J.yld i H x H' → ∃ G', PStep G H G' H' ∧ ∃ d, items[i]? = some d ∧ RvX c ns H' G' H' x d) ∧ (items.length ≤ i → J.stop i H)
abbrev AYI := XEx → Sx → (List RV → Prop) → Prop
def AbsYI (c : Cz K cm) (W : WX) (wi : TI) (xi : AYI) : Prop := ∀ s ns hs σ G H, Rl c s ns hs σ G H → ∀ ex, XOk c W G ex → ∀ (Qd : List RV → Prop) (R : It → Hp → Prop), xi ex s Qd → (∀ J items G' H', Qs c G H G' H' → QWalk c ns J items G' H' → Qd items → R J H') → wi σ H R
def qLcY (xi : AYI) (xg : XG) (tt : AQT) (ae : AQ) (vs : List Nat) : AQ := fun ex s Q => xi ex s fun items => items.length ≤ sizeLine ∧ ∃ I : Nat → List M → Prop, I 0 [] ∧
  (∀ (i : Nat) (d : RV) (acc : List M), items[i]? = some d → I i acc → xg d (wipeS s vs) fun s' => tt (fun _ _ => False) s' fun b => if b = true then ae (fun _ _ => False) s' (oneV fun m => I (i + 1) (acc ++ [m])) else I (i + 1) acc) ∧ ∀ acc, I items.length acc → Q (.new (.nd .lst acc))
theorem q_lcY {wi : TI} {xi : AYI} {g : TG} {xg : XG} {tt : TT} {at' : AQT} {te : TE} {ae : AQ} {vs : List Nat} (hi : AbsYI c W wi xi) (hg : AbsXG c g xg) (ho : GOnly vs g) (ht : AbsQT c W tt at') (he : AbsQ c W te ae) : AbsQ c W (tLc wi g tt te vs) (qLcY xi xg at' ae vs) := by
  intro s ns hs σ G H rl ex hx Qd Q h q
  refine hi s ns hs σ G H rl ex hx _ _ h fun J items G1 H1 q1 wk h1 => ?_
  obtain ⟨hz, I, i0, it, ie⟩ := h1
  intro D hD
  have rl1 := rl.quiet q1
  have tpn1 := tpn rl1
  have qD : Qs c G1 H1 G1 (upd H1 D (.lst [])) := (new_lst rl1 (vs := []) (xs := []) .nil hD).1
  have hg1 : G1 D = none := rl1.ex.none hD
  refine ⟨fun i m H' => i + m = items.length ∧ ∃ G' ans, ans.length ≤ i ∧ Qs c G1 H1 G' H' ∧ Made c H1 D ans G' H' ∧ I i (eraseL ans), ⟨items.length, by omega, G1, [], Nat.zero_le _, qD, ⟨upd_same, hg1, fun x hx => by simp [cellsL] at hx, fun l hl => by simp [leavesL] at hl, by simp [cellsL]⟩, i0⟩, fun i m H' w => ?_⟩
  obtain ⟨em, G', ans, al, q', md, hI⟩ := w
  have rl' := rl1.quiet q'
  by_cases hl : i < items.length
  · obtain ⟨go, yl⟩ := (wk i G' H' q').1 hl
    refine .inr ⟨go, fun H2 => ∃ G2 ans2, ans2.length ≤ i + 1 ∧ Qs c G1 H1 G2 H2 ∧ Made c H1 D ans2 G2 H2 ∧ I (i + 1) (eraseL ans2), fun H2 n => ⟨m - 1, by omega, by omega, n⟩, fun x H2 hy => ?_⟩
    obtain ⟨G2, s2, d, hd, hr⟩ := yl x H2 hy
    have q2 := PStep.qs s2 rl'.tp
    have rl2 := rl'.quiet q2
    refine ho.mono _ _ _ _ _ (fun σ3 H3 q3 => ⟨q3.1.trans (wipe_wipe vs σ), q3.2⟩) (ho.only _ _ _ _ ?_)
    refine hg (wipeS s vs) ns hs (L2.wipe σ vs) G2 H2 x d H2 (rl2.wipe vs) hr _ _ (it i d _ hd hI) fun s3 σ3 r3 h3 => ?_
    refine ht s3 ns hs σ3 G2 H2 r3 _ XOk.never _ _ h3 fun b G4 H4 q4 h4 => ?_
    have q24 : Qs c G' H' G4 H4 := q2.tr q4
    cases b with
    | false => exact iteF ⟨G4, ans, by omega, q'.tr q24, md.quiet tpn1 hD q24, by simpa using h4⟩
    | true =>
      refine iteT ?_
      have h4' : ae (fun _ _ => False) s3 (oneV fun m => I (i + 1) (eraseL ans ++ [m])) := by simpa using h4
      have r4 := r3.quiet q4
      refine he s3 ns hs σ3 G4 H4 r4 _ XOk.never _ _ h4' fun y rv G5 H5 q5 ry h5 => ?_
      have q25 := q24.tr q5
      have md5 := md.quiet tpn1 hD q25
      have md4 := md.quiet tpn1 hD q24
      refine ⟨ans.map N.val, md5.d, by rw [List.length_map]; omega, ?_⟩
      have hDH : ∀ b o, H1 b = some o → b ≠ D := fun b o hb z => by subst z; rw [hD] at hb; cases hb
      have q6 : Qs c G1 H1 G5 (upd H5 D (.lst (ans.map N.val ++ [y]))) := by
        have q15 := q'.tr q25
        refine ⟨q15.gg, fun b o hb => ?_, fun b o mt hb => ?_, q15.fr, fun t l xs e => ?_⟩
        · rw [upd_ne (ne_of_none hb md5.g)]; exact q15.gh b o hb
        · rw [upd_ne (hDH b o hb)]; exact q15.hh b o mt hb
        · obtain ⟨ne, hl', i', j', z0, z1, ht'⟩ := q15.tp t l xs e
          have n1 : t ≠ D := fun z => tpn1 t l xs e (by rw [z]; exact hD)
          have n2 : l ≠ D := fun z => tape_neL (rl1.tp t l xs e) (by rw [z]; exact hD)
          exact ⟨ne, by rw [upd_ne n2]; exact hl', i', j', z0, z1, by rw [upd_ne n1]; exact ht'⟩
      cases rv with
      | d dy =>
        refine ⟨G5, ans ++ [.d y dy], by simpa using al, q6, ⟨by rw [upd_same, List.map_append]; rfl, md5.g, fun x hx => ?_, fun l hl => ?_, ?_⟩, by simpa [eraseL_map, N.erase, oneV] using h5⟩
        · rw [cellsL_append] at hx
          simp only [cellsL, N.cells, List.append_nil] at hx
          obtain ⟨a1, a2, a3, a4⟩ := md5.o x hx
          exact ⟨by rw [upd_ne a4]; exact a1, a2, a3, a4⟩
        · rw [leavesL_append, List.mem_append] at hl
          rcases hl with hl | hl
          · exact md5.l l hl
          · simp only [leavesL, N.leaves, List.append_nil, List.mem_singleton] at hl
            subst hl; exact ry
        · rw [cellsL_append]
          simpa [cellsL, N.cells] using md5.n
      | new mm =>
        obtain ⟨n, g1, rfl, g3, g4, g5, g6⟩ := ry
        have nD : ∀ x ∈ n.cells cm, x.1 ≠ D := fun x hx z => by
          have := (g4 x hx).2.2
          rw [z, md4.d] at this; cases this
        have n1 : ∀ x ∈ n.cells cm, H1 x.1 = none := fun x hx => Classical.byContradiction fun z => by
          have := (q'.tr q24).th rl1.tp _ z
          exact this (g4 x hx).2.2
        refine ⟨G5, ans ++ [n], by simpa using al, q6, ⟨by rw [upd_same, List.map_append]; rfl, md5.g, fun x hx => ?_, fun l hl => ?_, ?_⟩, by simpa [eraseL_map, g1, oneV] using h5⟩
        · rw [cellsL_append, List.mem_append] at hx
          rcases hx with hx | hx
          · obtain ⟨a1, a2, a3, a4⟩ := md5.o x hx
            exact ⟨by rw [upd_ne a4]; exact a1, a2, a3, a4⟩
          · simp only [cellsL, List.append_nil] at hx
            exact ⟨by rw [upd_ne (nD x hx)]; exact (g4 x hx).1, (g4 x hx).2.1, n1 x hx, nD x hx⟩
        · rw [leavesL_append, List.mem_append] at hl
          rcases hl with hl | hl
          · exact md5.l l hl
          · exact g5 l (by simpa [leavesL] using hl)
        · rw [cellsL_append, List.map_append, List.nodup_append]
          refine ⟨md5.n, by simpa [cellsL] using g6, fun a ha b hb => ?_⟩
          rintro rfl
          obtain ⟨x, hx, rfl⟩ := List.mem_map.mp ha
          obtain ⟨y, hy, e⟩ := List.mem_map.mp hb
          simp only [cellsL, List.append_nil] at hy
          have := (g4 y hy).2.2
          rw [e, (md4.o x hx).1] at this; cases this
      | _ => exact h5.elim
  · have hei : i = items.length := by omega
    subst hei
    refine .inl ⟨(wk _ G' H' q').2 (Nat.le_refl _), ?_⟩
    refine q _ (.new (.nd .lst (eraseL ans))) G' H' (q1.tr q') ⟨.nd D D .lst ans, by simp [N.erase], rfl, trivial, fun x hx => ?_, fun l hl => md.l l (by simpa [N.leaves] using hl), ?_⟩ (ie _ hI)
    · have early : ∀ b, H1 b = none → H b = none := fun b hb => Classical.byContradiction fun z => q1.th rl.tp b z hb
      simp only [N.cells, hdO, List.mem_append, List.mem_singleton] at hx
      rcases hx with rfl | hx
      · exact ⟨md.d, md.g, early _ hD⟩
      · obtain ⟨a1, a2, a3, a4⟩ := md.o x hx
        exact ⟨a1, a2, early _ a3⟩
    · simp only [N.cells, hdO, List.map_append, List.map_cons, List.map_nil]
      rw [List.nodup_append]
      refine ⟨by simp, md.n, fun a ha b hb => ?_⟩
      simp only [List.mem_singleton] at ha
      obtain ⟨x, hx, rfl⟩ := List.mem_map.mp hb
      rw [ha]
      exact fun z => (md.o x hx).2.2.2 z.symm
/-- the items of a list in a tree -/
def kidsRV (r : Nat) (p : Pt) : Nat → List M → Option (List RV)
  | _, [] => some []
  | j, .d x :: t => (kidsRV r p (j + 1) t).map (RV.d x :: ·)
  | j, .nd _ _ :: t => (kidsRV r p (j + 1) t).map (RV.at r (p ++ [j]) :: ·)
  | _, .gone :: _ => none
theorem kids_len {r : Nat} {p : Pt} : ∀ {ms : List M} {j : Nat} {items : List RV}, kidsRV r p j ms = some items → items.length = ms.length
  | [], _, _, h => by cases h; rfl
  | .d x :: t, j, _, h => by
    simp only [kidsRV, Option.map_eq_some_iff] at h
    obtain ⟨l, h1, rfl⟩ := h
    rw [List.length_cons, List.length_cons, kids_len h1]
  | .nd _ _ :: t, j, _, h => by
    simp only [kidsRV, Option.map_eq_some_iff] at h
    obtain ⟨l, h1, rfl⟩ := h
    rw [List.length_cons, List.length_cons, kids_len h1]
  | .gone :: _, _, _, h => by cases h
theorem kids_child {r : Nat} {p : Pt} : ∀ {ms : List M} {j : Nat} {items : List RV} {i : Nat} {m : M}, kidsRV r p j ms = some items → ms[i]? = some m → ∃ rv, items[i]? = some rv ∧ child r p (j + i) (fun x => x = rv) (some m)
  | [], _, _, _, _, _, h => by simp at h
  | .d x :: t, j, _, i, m, h, hm => by
    simp only [kidsRV, Option.map_eq_some_iff] at h
    obtain ⟨l, h1, rfl⟩ := h
    cases i with
    | zero => cases hm; exact ⟨_, rfl, rfl⟩
    | succ i =>
      obtain ⟨rv, g1, g2⟩ := kids_child h1 (by simpa using hm)
      exact ⟨rv, by simpa using g1, by rw [show j + (i + 1) = j + 1 + i by omega]; exact g2⟩
  | .nd _ _ :: t, j, _, i, m, h, hm => by
    simp only [kidsRV, Option.map_eq_some_iff] at h
    obtain ⟨l, h1, rfl⟩ := h
    cases i with
    | zero => cases hm; exact ⟨_, rfl, rfl⟩
    | succ i =>
      obtain ⟨rv, g1, g2⟩ := kids_child h1 (by simpa using hm)
      exact ⟨rv, by simpa using g1, by rw [show j + (i + 1) = j + 1 + i by omega]; exact g2⟩
  | .gone :: _, _, _, _, _, h, _ => by cases h
def yiList (a : AQ) : AYI := fun ex s Q => a ex s fun x => match x with
  | .at r p => ∃ cs items, subM s.r r p = some (.nd .lst cs) ∧ kidsRV r p 0 cs = some items ∧ Q items
  | _ => False
theorem yi_list {ta : TE} {a : AQ} (ha : AbsQ c W ta a) : AbsYI c W (iList K ta) (yiList a) := by
  intro s ns hs σ G H rl ex hx Qd R h q
  refine ha s ns hs σ G H rl ex hx _ _ h fun v x G1 H1 q1 r1 h1 => ?_
  have rl1 := rl.quiet q1
  cases x with
  | «at» r p =>
    obtain ⟨ms, items, hm, hk, h1⟩ := h1
    obtain ⟨n0, e1, e2, rfl⟩ := r1
    obtain ⟨a1, da1, cs1, e3, rfl⟩ := rl1.at hm
    rw [e1] at e3
    cases e3
    have hH : H1 a1 = some (.lst (cs1.map N.val)) := cell_head rl1 e1 (a1, _) (by simp [hdO])
    have hcs : items.length = cs1.length := by rw [kids_len hk, eraseL_map, List.length_map]
    refine ⟨a1, rfl, ⟨_, SqL.of hH⟩, q _ items G1 H1 q1 (fun i G3 H3 q3 => ?_) h1⟩
    have rl3 := rl1.quiet q3
    have hS : SqL K H3 a1 (cs1.map N.val) := SqL.of (cell_head rl3 e1 (a1, _) (by simp [hdO]))
    refine ⟨fun hi => ?_, fun hi => ⟨_, hS, by rw [List.length_map]; omega⟩⟩
    have hl : i < cs1.length := by omega
    obtain ⟨rv, g1, g2⟩ := kids_child (i := i) (m := cs1[i].erase) hk (by rw [eraseL_map, List.getElem?_map, List.getElem?_eq_getElem hl]; rfl)
    rw [Nat.zero_add] at g2
    obtain ⟨m, rv', f1, f2, f3⟩ := child_ok (j := i) rl3 e1 (by rw [eraseL_map, List.getElem?_map, List.getElem?_eq_getElem hl]; exact g2)
    subst f3
    refine ⟨⟨_, m.val, hS, by rw [List.getElem?_map, f1]; rfl⟩, fun y H' hy => ?_⟩
    obtain ⟨rfl, hy⟩ := hy
    have ey := hy _ hS
    rw [List.getElem?_map, f1] at ey
    obtain rfl : m.val = y := Option.some.inj ey
    exact ⟨G3, PStep.refl rl3.ex, rv', g1, f2⟩
  | _ => exact h1.elim
end
end Fe

namespace Fe
open PySem L2 Fc
open scoped List
/-! ### dicts whose keys are tuples, in trees; tuples of which only the parts are known -/
def kksOf : List D → Option (List Key)
  | [] => some []
  | x :: r => (match keyOf x with | some k => (match kksOf r with | some ks => some (k :: ks) | none => none) | none => none)
def wkX (ds : List D) : Xc := ⟨wkT, ds.map fun d => ("", d)⟩
theorem wkX_fs (ds : List D) : (wkX ds).fs.map (·.2) = ds := by
  simp [wkX, List.map_map, Function.comp_def]
section
variable {K : PySem.W.Frag} {cm : Nat → Addr} {c : Cz K cm} {W : WX} {s s' : Sx} {ns : List N} {hs : List V} {σ : St} {G H G' H' Hs G2 H2 : Hp}
theorem kks_v : ∀ {vs : List V} {ds : List D} {kk : List Key}, RvA K G vs ds → kksOf ds = some kk → vs = kk.map kV
  | _, _, _, .nil, h => by cases h; rfl
  | _, _, _, .cons (d := d) (ds := ds) a r, h => by
    simp only [kksOf] at h
    cases hk : keyOf d with
    | none => rw [hk] at h; cases h
    | some k =>
      rw [hk] at h
      cases hr : kksOf ds with
      | none => rw [hr] at h; cases h
      | some ks =>
        rw [hr] at h
        cases h
        rw [kks_v r hr, key_v a hk, List.map_cons]
theorem put_sub : ∀ (p : Pt) (n m x : N), n.sub p = some m → (n.put p x).sub p = some x
  | [], n, m, x, h => by cases n <;> cases x <;> rfl
  | i :: p, .d _ _, m, x, h => by simp [N.sub] at h
  | i :: p, .gone _, m, x, h => by simp [N.sub] at h
  | i :: p, .nd a da k cs, m, x, h => by
    simp only [N.sub] at h
    cases hc : cs[i]? with
    | none => rw [hc] at h; cases h
    | some c =>
      rw [hc] at h
      simp only [N.put, hc, N.sub]
      rw [List.getElem?_set, if_pos rfl, if_pos (List.getElem?_eq_some_iff.mp hc).1]
      exact put_sub p c m x h
theorem putL_sub {r : Nat} {p : Pt} {m x : N} (h : subL ns r p = some m) : subL (putL ns r p x) r p = some x := by
  unfold subL at h ⊢
  cases hr : ns[r]? with
  | none => rw [hr] at h; cases h
  | some n0 =>
    rw [hr] at h
    rw [put_same hr]
    exact put_sub p n0 m x h
abbrev AQK := XEx → Sx → (List Key → Prop) → Prop
def AbsQK (c : Cz K cm) (W : WX) (t : TE) (a : AQK) : Prop := ∀ s ns hs σ G H, Rl c s ns hs σ G H → ∀ ex, XOk c W G ex → ∀ (Qd : List Key → Prop) (Q : VK), a ex s Qd → (∀ b kk G' H', Qs c G H G' H' → H' b = some (.tup (kk.map kV)) → Qd kk → Q (.ref b) H') → t σ H Q
/-- (a, b, ..), a key -/
def qkTup (r : AQA) : AQK := fun ex s Q => r ex s fun xs => ∃ ds kk, asD xs = some ds ∧ kksOf ds = some kk ∧ ds.length ≤ sizeLine ∧ Q kk
theorem qk_tup {tr : TA} {ar : AQA} (hr : AbsQA c W tr ar) : AbsQK c W (tTup tr) (qkTup ar) := by
  intro s ns hs σ G H rl ex hx Qd Q h q
  refine hr s ns hs σ G H rl ex hx _ _ h fun vs rvs G1 H1 q1 r1 h1 => ?_
  obtain ⟨ds, kk, e1, e2, e3, h1⟩ := h1
  have ra := asD_rv r1 e1
  have ev := kks_v ra e2
  refine ⟨by rw [ra.length]; exact e3, fun p hp => ?_⟩
  subst ev
  exact q p kk G1 _ (q1.tr (Qs.fresh (rl.quiet q1) hp)) upd_same h1
/-- a def that tells a new tuple, a key -/
abbrev DsK := List D → (List Key → Prop) → Prop
def spK (K : PySem.W.Frag) (f : DsK) : Sp := fun vs H Q _ => ∃ G ds, Ex G H ∧ RvA K G vs ds ∧ ∃ Qd : List Key → Prop, f ds Qd ∧ ∀ b kk G' H', PStep G H G' H' → H' b = some (.tup (kk.map kV)) → Qd kk → Q (.ref b) H'
theorem spK_len {f : DsK} {n : Nat} (h : ∀ ds Qd, f ds Qd → ds.length = n) {vs : List V} {H : Hp} {Q : VK} {E : XK} (x : spK K f vs H Q E) : vs.length = n := by
  obtain ⟨G, ds, _, r, Qd, hf, _⟩ := x
  rw [r.length]; exact h ds Qd hf
def qkCall (f : DsK) (r : AQA) : AQK := fun ex s Q => r ex s fun xs => ∃ ds, asD xs = some ds ∧ f ds Q
theorem qk_call {f : DsK} {E : XK} {tr : TA} {ar : AQA} (hr : AbsQA c W tr ar) : AbsQK c W (tCall (spK K f) [] E tr) (qkCall f ar) := by
  intro s ns hs σ G H rl ex hx Qd Q h q
  refine hr s ns hs σ G H rl ex hx _ _ h fun vs rvs G1 H1 q1 r1 h1 => ?_
  obtain ⟨ds, e, h1⟩ := h1
  have rl1 := rl.quiet q1
  rw [List.append_nil]
  exact ⟨G1, ds, rl1.ex, asD_rv r1 e, _, h1, fun b kk G' H' st hb hq => q b kk G' H' (q1.tr (PStep.qs st rl1.tp)) hb hq⟩
/-- d.setdefault(k, []), the keys tuples -/
def xDefT (lo : Nat) (a : AQ) (kx : AQK) : AX := fun ex s Q => a ex s fun x => (match x with
  | .at r p => lo ≤ r ∧ ∃ ks cs, subM s.r r p = some (.nd (.dT ks) cs) ∧ ks.length = cs.length ∧ cs.length < sizeLine ∧ kx ex s fun kk =>
      ((∃ j k' cs', ixK ks kk = some j ∧ cs[j]? = some (.nd k' cs') ∧ Q (.at r (p ++ [j])) s) ∨ (ixK ks kk = none ∧ Q (.at r (p ++ [cs.length])) { s with r := putM s.r r p (.nd (.dT (ks ++ [kk])) (cs ++ [.nd .lst []])) }))
  | _ => False)
theorem x_defT {lo : Nat} {td ty : TE} {a : AQ} {kx : AQK} (hlo : c.lo = lo) (ha : AbsQ c W td a) (hk : AbsQK c W ty kx) : AbsX c W (tDefT td ty (tLst tNil)) (xDefT lo a kx) := by
  intro s ns hs σ G H rl ex hx Qd Q h q
  refine ha s ns hs σ G H rl ex hx _ _ h fun v x G1 H1 q1 r1 h1 => ?_
  have rl1 := rl.quiet q1
  cases x with
  | «at» r p =>
    obtain ⟨l1, ks, ms, hm, hln, hsz, h1⟩ := h1
    obtain ⟨n, e1, e2, rfl⟩ := r1
    obtain ⟨a1, da1, cs1, e3, rfl⟩ := rl1.at hm
    rw [e1] at e3
    cases e3
    have hcs : (eraseL cs1).length = cs1.length := by rw [eraseL_map, List.length_map]
    rw [hcs] at hln hsz
    have hH1 : H1 a1 = some (.dT (ks.zip (cs1.map N.val))) := cell_head rl1 e1 (a1, _) (by simp only [hdO, List.mem_singleton])
    refine ⟨a1, rfl, ?isd, hk s ns hs σ G1 H1 rl1 ex (hx.mono q1.gg) _ _ h1 fun b kk G2 H2 q2 hb h2 => ⟨by decide, fun z hz => ?_⟩⟩
    case isd => exact .inr ⟨_, .inl hH1⟩
    have rl2 := rl1.quiet q2
    have hH2 : H2 a1 = some (.dT (ks.zip (cs1.map N.val))) := cell_head rl2 e1 (a1, _) (by simp only [hdO, List.mem_singleton])
    obtain ⟨q3, r3⟩ := new_lst rl2 (vs := []) (xs := []) .nil hz
    have rl3 := rl2.quiet q3
    have hH3 : upd H2 z (.lst []) a1 = some (.dT (ks.zip (cs1.map N.val))) := by rw [upd_ne (ne_of_none hH2 hz)]; exact hH2
    have hz3 : upd H2 z (.lst []) b = some (.tup (kk.map kV)) := by rw [upd_ne (ne_of_none hb hz)]; exact hb
    refine ⟨_, kk, b, hH3, rfl, hz3, by rw [List.length_zip, List.length_map]; omega, fun w hw => ?_, fun hw => ?_⟩
    · rcases h2 with ⟨j, k', cs', hj, hcj, h2⟩ | ⟨hj, _⟩
      · obtain ⟨m, rv', g1, g2, g3⟩ := child_ok (Qd := fun x => Qd x s) rl3 e1 (j := j) (by rw [hcj]; exact h2)
        rw [valV_zip ks (cs1.map N.val) kk j m.val hj (by rw [List.getElem?_map, g1]; rfl)] at hw
        cases hw
        exact q _ rv' s ns hs G2 _ _ rl3 (q1.gg.trans q2.gg) rl3.lt g2 g3
      · rw [valV_none (by rw [List.length_map]; exact hln) hj] at hw; cases hw
    · rcases h2 with ⟨j, k', cs', hj, hcj, h2⟩ | ⟨hj, h2⟩
      · obtain ⟨m, rv', g1, g2, g3⟩ := child_ok (Qd := fun x => Qd x s) rl3 e1 (j := j) (by rw [hcj]; exact h2)
        rw [valV_zip ks (cs1.map N.val) kk j m.val hj (by rw [List.getElem?_map, g1]; rfl)] at hw
        cases hw
      · rw [putK_new (by rw [List.length_map]; exact hln) hj]
        obtain ⟨n, g1, g2, g3, g4, g5, g6⟩ := r3
        have lv1 : ∀ l ∈ leavesL cs1, Rv K G2 l.1 l.2 := fun l hl => (rl3.sub e1).2 l (by simpa [N.leaves] using hl)
        have r4 := rl3.nodeS (nw := [n]) (cs' := cs1 ++ [n]) (k' := .dT (ks ++ [kk])) (H' := upd (upd H2 z (.lst [])) a1 (.dT ((ks ++ [kk]).zip (cs1.map N.val ++ [.ref z])))) e1 (by omega) (by simp [hdO]) ⟨[], by simp [cellsL_append, cellsL]⟩
          (fun x hx => by
            simp only [cellsL, List.append_nil] at hx
            obtain ⟨z1, z2, z3⟩ := g4 x hx
            refine ⟨z1, z2, rl2.lt.z _ z3, fun hm => ?_⟩
            obtain ⟨y, hy, e⟩ := List.mem_map.mp hm
            exact rl2.lt.n y hy (by rw [e]; exact z3)) (by simpa [cellsL] using g6)
          (fun l hl => by
            rw [leavesL_append, List.mem_append] at hl
            rcases hl with hl | hl
            · exact lv1 l hl
            · exact g5 l (by simpa [leavesL] using hl)) (fun b hb => upd_ne fun z => hb (by simp [hdO, z])) (fun x hx => by simp only [hdO, List.map_append, List.map_cons, List.map_nil, List.mem_singleton, g2] at hx; subst hx; exact upd_same)
          (fun j n hj _ => by rw [List.getElem?_append_left (List.getElem?_eq_some_iff.mp hj).1]; exact hj)
        have e5 : eraseL (cs1 ++ [n]) = eraseL cs1 ++ [.nd .lst []] := by simp [eraseL_map, g1]
        rw [e5] at r4
        have sub : subL (putL ns r p (.nd a1 da1 (.dT (ks ++ [kk])) (cs1 ++ [n]))) r (p ++ [cs1.length]) = some n := by
          rw [subL_snoc (putL_sub e1)]
          simp
        rw [hcs] at h2
        exact q _ (.at r (p ++ [cs1.length])) _ _ hs G2 _ _ r4 (q1.gg.trans q2.gg) r4.lt ⟨n, sub, g3, g2.symm⟩ h2
  | _ => exact h1.elim

/-! ### a.append(b), a told by what may change things -/
def zAppendX (lo : Nat) (A : AX) (b : AQ) : AZ := fun E s => A E.ex s fun x s' => (match x with
  | .at r p => lo ≤ r ∧ ∃ cs, subM s'.r r p = some (.nd .lst cs) ∧ cs.length < sizeLine ∧ b E.ex s' fun y => appV E s' r p cs y
  | _ => False)
theorem z_appendX {lo : Nat} {ta tb : TE} {A : AX} {b : AQ} (hlo : c.lo = lo) (ha : AbsX c W ta A) (hb : AbsQ c W tb b) : AbsZ c W (tDrop (tBM K "list" rAppend ta (tCons tb tNil))) (zAppendX lo A b) := by
  intro s ns hs σ G H rl E D' h k
  refine ha s ns hs σ G H rl E.ex k.ex _ _ h fun v x s1 ns1 hs1 G1 H1 Hs1 rl1 g1 lt1 r1 h1 => ?_
  have k1 : EndsX c W G1 E D' := k.mono g1
  cases x with
  | «at» r p =>
    obtain ⟨n, e1, e2, rfl⟩ := r1
    have hA : AbsQ c W (fun _ H Q => Q n.val H) (fun _ _ Q => Q (.at r p)) ∨ True := .inr trivial
    obtain ⟨l1, ms, hm, hlen, h1⟩ := h1
    obtain ⟨a1, da1, cs1, e3, rfl⟩ := rl1.at hm
    rw [e1] at e3
    cases e3
    refine ⟨.inl ⟨rfl, cs1.map N.val, SqL.of (cell_head rl1 e1 (a1, _) (by simp [hdO]))⟩, ?_⟩
    refine hb s1 ns1 hs1 σ G1 H1 rl1 E.ex k1.ex _ _ h1 fun v y G2 H2 q2 r2 h2 => ?_
    have rl2 := rl1.quiet q2
    refine ⟨a1, cs1.map N.val, v, rfl, rfl, cell_head rl2 e1 (a1, _) (by simp [hdO]), by rw [eraseL_map, List.length_map] at hlen; rw [List.length_map]; exact hlen, ?_⟩
    have other : ∀ b, b ∉ (hdO cm a1 da1 (cs1.map N.val) .lst).map (·.1) → upd H2 a1 (.lst (cs1.map N.val ++ [v])) b = H2 b := fun b hb => upd_ne fun z => hb (by simp [hdO, z])
    have keep : ∀ (n' : N) (j : Nat) (n : N), cs1[j]? = some n → n.isNd → (cs1 ++ [n'])[j]? = some n := fun n' j n hj _ => by
      rw [List.getElem?_append_left (List.getElem?_eq_some_iff.mp hj).1]; exact hj
    have lv1 : ∀ l ∈ leavesL cs1, Rv K G2 l.1 l.2 := fun l hl => (rl2.sub e1).2 l (by simpa [N.leaves] using hl)
    cases y with
    | d y =>
      have r3 := rl2.nodeS (nw := []) (cs' := cs1 ++ [.d v y]) (k' := .lst) (H' := upd H2 a1 (.lst (cs1.map N.val ++ [v]))) e1 (by omega) (by simp [hdO]) ⟨[], by simp [cellsL_append, cellsL, N.cells]⟩ (fun x hx => by simp [cellsL] at hx) (by simp [cellsL])
        (fun l hl => by
          rw [leavesL_append, List.mem_append] at hl
          rcases hl with hl | hl
          · exact lv1 l hl
          · simp only [leavesL, N.leaves, List.append_nil, List.mem_singleton] at hl
            subst hl; exact r2) other (fun x hx => by simp [hdO, N.val] at hx; subst hx; exact upd_same) (keep _)
      have e5 : eraseL (cs1 ++ [.d v y]) = eraseL cs1 ++ [.d y] := by simp [eraseL_map, N.erase]
      rw [e5] at r3
      exact k1.nx _ _ hs1 σ G2 _ r3 q2.gg h2
    | new m =>
      obtain ⟨n, g1, rfl, g3, g4, g5, g6⟩ := r2
      have r3 := rl2.nodeS (nw := [n]) (cs' := cs1 ++ [n]) (k' := .lst) (H' := upd H2 a1 (.lst (cs1.map N.val ++ [n.val]))) e1 (by omega) (by simp [hdO]) ⟨[], by simp [cellsL_append, cellsL]⟩
        (fun x hx => by
          simp only [cellsL, List.append_nil] at hx
          obtain ⟨z1, z2, z3⟩ := g4 x hx
          refine ⟨z1, z2, rl1.lt.z _ z3, fun hm => ?_⟩
          obtain ⟨y, hy, e⟩ := List.mem_map.mp hm
          exact rl1.lt.n y hy (by rw [e]; exact z3)) (by simpa [cellsL] using g6)
        (fun l hl => by
          rw [leavesL_append, List.mem_append] at hl
          rcases hl with hl | hl
          · exact lv1 l hl
          · exact g5 l (by simpa [leavesL] using hl)) other (fun x hx => by simp [hdO] at hx; subst hx; exact upd_same) (keep _)
      have e5 : eraseL (cs1 ++ [n]) = eraseL cs1 ++ [m] := by simp [eraseL_map, g1]
      rw [e5] at r3
      exact k1.nx _ _ hs1 σ G2 _ r3 q2.gg h2
    | _ => exact h2.elim
  | _ => exact h1.elim
/-! ### d[k] -/
def keyTV (s : Sx) (Q : RV → Prop) : RV → RV → Prop
  | .at r p, .exc e => e.cls = wkT ∧ ∃ ks cs kk j, subM s.r r p = some (.nd (.dT ks) cs) ∧ kksOf (e.fs.map (·.2)) = some kk ∧ ixK ks kk = some j ∧ child r p j Q cs[j]?
  | .at r p, .d (.tuple ds) => ∃ ks cs kk j, subM s.r r p = some (.nd (.dT ks) cs) ∧ kksOf ds = some kk ∧ ixK ks kk = some j ∧ child r p j Q cs[j]?
  | _, _ => False
theorem keyTV_x {s : Sx} {Q : RV → Prop} {r : Nat} {p : Pt} {e : Xc} : keyTV s Q (.at r p) (.exc e) = (e.cls = wkT ∧ ∃ ks cs kk j, subM s.r r p = some (.nd (.dT ks) cs) ∧ kksOf (e.fs.map (·.2)) = some kk ∧ ixK ks kk = some j ∧ child r p j Q cs[j]?) := rfl
theorem keyTV_d {s : Sx} {Q : RV → Prop} {r : Nat} {p : Pt} {ds : List D} : keyTV s Q (.at r p) (.d (.tuple ds)) = (∃ ks cs kk j, subM s.r r p = some (.nd (.dT ks) cs) ∧ kksOf ds = some kk ∧ ixK ks kk = some j ∧ child r p j Q cs[j]?) := rfl
def qKeyT (a b : AQ) : AQ := fun ex s Q => a ex s fun x => b ex s fun y => keyTV s Q x y
theorem q_keyT {ta tb : TE} {a b : AQ} (ha : AbsQ c W ta a) (hb : AbsQ c W tb b) : AbsQ c W (tGetT K ta tb) (qKeyT a b) := by
  intro s ns hs σ G H rl ex hx Qd Q h q
  refine ha s ns hs σ G H rl ex hx _ _ h fun v x G1 H1 q1 r1 h1 => ?_
  have rl1 := rl.quiet q1
  refine hb s ns hs σ G1 H1 rl1 ex (hx.mono q1.gg) _ _ h1 fun w y G2 H2 q2 r2 h2 => ?_
  have rl2 := rl1.quiet q2
  have r1' := r1.step rl1.tp (tpn rl) q2
  have fin : ∀ {i : Nat} {p : Pt} {b : Addr} {vs : List V} {ds : List D}, RvX c ns H G2 H2 v (.at i p) → SqT K H2 b vs → w = .ref b → RvA K G2 vs ds → (∃ ks cs kk j, subM s.r i p = some (.nd (.dT ks) cs) ∧ kksOf ds = some kk ∧ ixK ks kk = some j ∧ child i p j Qd cs[j]?) → ∃ m rows kk b v', v = .ref m ∧ H2 m = some (.dT rows) ∧ w = .ref b ∧ SqT K H2 b (kk.map kV) ∧ valV rows kk = some v' ∧ Q v' H2 := by
    intro i p b vs ds r1' hb ew ra h2
    obtain ⟨ks, ms, key, j, hm, hk, hj, h2⟩ := h2
    obtain ⟨n', e1, e2, rfl⟩ := r1'
    obtain ⟨a', da, cs, e3, rfl⟩ := rl2.at hm
    rw [e1] at e3
    cases e3
    obtain ⟨m, rv', g1, g2, g3⟩ := child_ok rl2 e1 h2
    have ev := kks_v ra hk
    subst ev
    exact ⟨a', _, key, b, m.val, rfl, cell_head rl2 e1 (a', _) (by simp only [hdO, List.mem_singleton]), ew, hb, valV_zip ks (cs.map N.val) key j m.val hj (by rw [List.getElem?_map, g1]; rfl), q _ rv' G2 H2 (q1.tr q2) (g2.early fun b hb => (q1.tr q2).th rl.tp b hb) g3⟩
  unfold keyTV at h2
  split at h2
  · rename_i i p e
    obtain ⟨hc, h2⟩ := h2
    obtain ⟨b, rfl, ⟨z, _⟩ | ⟨_, vs, hb', ra⟩⟩ := r2
    · exact absurd hc z
    · exact fin r1' (.inl (.inl hb')) rfl ra h2
  · rename_i i p ds
    cases r2 with
    | tup hS ra => exact fin r1' (rl2.ex.sqt hS) rfl ra h2
  · exact h2.elim
/-! ### a part of a tuple of which only the parts are known -/
def wixV (Q : RV → Prop) : RV → RV → Prop
  | .exc e, .d (.int i) => e.cls = wkT ∧ ∃ j x, ixN (e.fs.map (·.2)).length i = some j ∧ (e.fs.map (·.2))[j]? = some x ∧ Q (.d x)
  | _, _ => False
theorem wixV_x {Q : RV → Prop} {e : Xc} {i : Int} : wixV Q (.exc e) (.d (.int i)) = (e.cls = wkT ∧ ∃ j x, ixN (e.fs.map (·.2)).length i = some j ∧ (e.fs.map (·.2))[j]? = some x ∧ Q (.d x)) := rfl
def qWix (a b : AQ) : AQ := fun ex s Q => a ex s fun x => b ex s fun y => wixV Q x y
theorem q_wix {ta tb : TE} {a b : AQ} (ha : AbsQ c W ta a) (hb : AbsQ c W tb b) : AbsQ c W (tOp (rIx K) ta tb) (qWix a b) := by
  intro s ns hs σ G H rl ex hx Qd Q h q
  refine ha s ns hs σ G H rl ex hx _ _ h fun v x G1 H1 q1 r1 h1 => ?_
  have rl1 := rl.quiet q1
  refine hb s ns hs σ G1 H1 rl1 ex (hx.mono q1.gg) _ _ h1 fun w y G2 H2 q2 r2 h2 => ?_
  have r1' := r1.step rl1.tp (tpn rl) q2
  unfold wixV at h2
  split at h2
  · rename_i e z
    obtain ⟨hc, j, x, hj, hx', h2⟩ := h2
    obtain ⟨b, rfl, ⟨z', _⟩ | ⟨_, vs, hb', ra⟩⟩ := r1'
    · exact absurd hc z'
    · cases r2
      obtain ⟨u, hu, ru⟩ := ra.get hx'
      refine .inr (.inl ⟨b, vs, z, u, rfl, rfl, .inl (.inl hb'), ?_, q u (.d x) G2 H2 (q1.tr q2) ru h2⟩)
      unfold atI
      rw [ra.length, hj]; exact hu
  · exact h2.elim
/-! ### loops over such tuples -/
abbrev AWI := XEx → Sx → (List (List D) → Prop) → Prop
def AbsWI (c : Cz K cm) (W : WX) (wi : TI) (aw : AWI) : Prop := ∀ s ns hs σ G H, Rl c s ns hs σ G H → ∀ ex, XOk c W G ex → ∀ (Qd : List (List D) → Prop) (R : It → Hp → Prop), aw ex s Qd →
  (∀ (p : Addr) (bs : List (Addr × List V)) items G' H', Qs c G H G' H' → G' p = some (.lst (bs.map fun b => V.ref b.1)) → (∀ b ∈ bs, H' b.1 = some (.tup b.2)) → bs.length = items.length → (∀ (i : Nat) b ds, bs[i]? = some b → items[i]? = some ds → RvA K G' b.2 ds) → Qd items → R (Itl K p) H') → wi σ H R
def Cz.kw (c : Cz K cm) (w : Addr → List V → Prop) : Cz K cm := ⟨c.tp, c.G0, c.H0, c.ns0, c.lo, c.st, w, c.ex0, c.tp0⟩
theorem Rl.more (rl : Rl c s ns hs σ G H) {w : Addr → List V → Prop} (h : ∀ b xs, w b xs → H b = some (.tup xs)) : Rl (c.kw w) s ns hs σ G H :=
  ⟨rl.er, rl.ok, rl.lv, rl.nd, rl.gn, rl.nt, rl.ex, rl.gg, rl.fr, rl.hh, rl.tp, rl.nw, rl.fx, rl.sb, rl.th, fun b xs e => e.elim (fun e => rl.tt b xs (.inl e)) (h b xs), rl.len, rl.cell, rl.hlen, rl.hid⟩
theorem Rl.less {w : Addr → List V → Prop} (rl : Rl (c.kw w) s ns hs σ G H) (h : ∀ b xs, c.wt b xs → w b xs) : Rl c s ns hs σ G H :=
  ⟨rl.er, rl.ok, rl.lv, rl.nd, rl.gn, rl.nt, rl.ex, rl.gg, rl.fr, rl.hh, rl.tp, rl.nw, rl.fx, rl.sb, rl.th, fun b xs e => e.elim (fun e => rl.tt b xs (.inl e)) (fun e => rl.tt b xs (.inr (h b xs e))), rl.len, rl.cell, rl.hlen, rl.hid⟩
def zForW (aw : AWI) (i : Nat) (b : AZ) : AZ := fun E s => aw E.ex s fun items => ∃ I : Nat → Sx → Prop, I 0 s ∧
  (∀ (k : Nat) (ds : List D) (s' : Sx), items[k]? = some ds → I k s' → b { E with nx := I (k + 1), ct := I (k + 1), bk := E.nx } { s' with e := s'.e.set i (.exc (wkX ds)) }) ∧ ∀ s', I items.length s' → E.nx s'
theorem z_forW {n0 lo : Nat} {st : Bool} {wi : TI} {aw : AWI} {i : Nat} {t : TS} {b : AZ} (hn : c.ns0.length = n0) (hl : c.lo = lo) (hs0 : c.st = st) (hi : AbsWI c W wi aw) (hb : ∀ c2 : Cz K cm, c2.ns0.length = n0 → c2.lo = lo → c2.st = st → AbsZ c2 W t b) : AbsZ c W (tFor wi (gName i) t) (zForW aw i b) := by
  intro s ns hs σ G H rl E D' h k
  refine hi s ns hs σ G H rl E.ex k.ex _ _ h fun p bs items G1 H1 q1 hp ht hlen hit h1 => ?_
  obtain ⟨I, i0, it, ie⟩ := h1
  let w : Addr → List V → Prop := fun b xs => c.wt b xs ∨ (b, xs) ∈ bs
  have rl1 := rl.quiet q1
  have rlw : Rl (c.kw w) s ns hs σ G1 H1 := rl1.more fun b xs e => e.elim (fun e => rl1.tt b xs (.inr e)) (fun e => ht _ e)
  have un : ∀ {s ns hs σ G H}, Rl (c.kw w) s ns hs σ G H → Rl c s ns hs σ G H := fun r => r.less fun b xs e => .inl e
  refine ⟨fun k m σ' H' => k + m = items.length ∧ ∃ s' ns' hs' G', Rl (c.kw w) s' ns' hs' σ' G' H' ∧ Ex G1 G' ∧ I k s', ⟨items.length, by omega, s, ns, hs, G1, rlw, Ex.refl _, i0⟩, fun k1 m σ' H' z => ?_⟩
  obtain ⟨em, s', ns', hs', G', r', x', hI⟩ := z
  have hS : SqL K H' p (bs.map fun b => V.ref b.1) := SqL.of (r'.ex _ _ (x' _ _ hp))
  by_cases hl' : k1 < items.length
  · have hb1 : k1 < bs.length := by omega
    refine .inr ⟨⟨_, V.ref bs[k1].1, hS, by rw [List.getElem?_map, List.getElem?_eq_getElem hb1]; rfl⟩, fun σ2 H2 => ∃ s2 ns2 hs2 G2, Rl (c.kw w) s2 ns2 hs2 σ2 G2 H2 ∧ Ex G1 G2 ∧ I (k1 + 1) s2, fun σ2 H2 n => ⟨m - 1, by omega, by omega, n⟩, fun x H2 hy => ?_⟩
    obtain ⟨rfl, hy⟩ := hy
    have ey := hy _ hS
    rw [List.getElem?_map, List.getElem?_eq_getElem hb1] at ey
    obtain rfl : V.ref bs[k1].1 = x := Option.some.inj ey
    have hit1 : items[k1]? = some items[k1] := List.getElem?_eq_getElem hl'
    have ra := (hit k1 bs[k1] items[k1] (List.getElem?_eq_getElem hb1) hit1).mono x'
    have htb : H2 bs[k1].1 = some (.tup bs[k1].2) := r'.tt _ _ (.inr (.inr (List.getElem_mem hb1)))
    have r3 := r'.setC (i := i) (v := .ref bs[k1].1) (x := .exc (wkX items[k1])) ⟨_, rfl, .inr ⟨rfl, _, htb, by rw [wkX_fs]; exact ra⟩⟩
    refine hb (c.kw w) hn hl hs0 _ ns' hs' _ G' H2 r3 _ _ (it k1 items[k1] s' hit1 hI) ⟨fun s4 ns4 hs4 σ4 G4 H4 r4 x4 q => ⟨s4, ns4, hs4, G4, r4, x'.trans x4, q⟩, fun v rv s4 ns4 hs4 σ4 G4 H4 Hs4 r4 lt4 x4 q => k.rt v rv s4 ns4 hs4 σ4 G4 H4 Hs4 (un r4) ⟨lt4.z, lt4.n⟩ ?_ q, fun s4 ns4 hs4 σ4 G4 H4 r4 x4 q => k.nx s4 ns4 hs4 σ4 G4 H4 (un r4) (q1.gg.trans (x'.trans x4)) q, fun s4 ns4 hs4 σ4 G4 H4 r4 x4 q => ⟨s4, ns4, hs4, G4, r4, x'.trans x4, q⟩, ?_⟩
    · cases rv <;> exact x4
    · intro e s4 ns4 hs4 σ4 G4 H4 r4 x4 q dd hd
      exact k.ex e s4 ns4 hs4 σ4 G4 H4 (un r4) (q1.gg.trans (x'.trans x4)) q dd hd
  · have he : k1 = items.length := by omega
    subst he
    exact .inl ⟨⟨_, hS, by rw [List.length_map]; omega⟩, k.nx s' ns' hs' σ' G' H' (un r') (q1.gg.trans x') (ie s' hI)⟩
/-- sorted(d), the keys pairs of ints -/
def awSort (a : AQ) : AWI := fun ex s Q => a ex s fun x => match x with
  | .at r p => ∃ ks cs, ∃ ps : List (Int × Int), subM s.r r p = some (.nd (.dT ks) cs) ∧ ks.length = cs.length ∧ ks = ps.map pairK ∧ ∀ qs : List (Int × Int), qs.Perm ps → qs.Pairwise (fun x y => SrtO.lexB y x = false) → Q (qs.map fun q => [PyData.int q.1, PyData.int q.2])
  | _ => False
theorem aw_sort {ta : TE} {a : AQ} (ha : AbsQ c W ta a) : AbsWI c W (iList K (tCB rSortDT (tCons ta tNil))) (awSort a) := by
  intro s ns hs σ G H rl ex hx Qd R h q
  refine ha s ns hs σ G H rl ex hx _ _ h fun v x G1 H1 q1 r1 h1 => ?_
  have rl1 := rl.quiet q1
  cases x with
  | «at» r p =>
    obtain ⟨ks, ms, ps, hm, hln, hk, h1⟩ := h1
    obtain ⟨n, e1, e2, rfl⟩ := r1
    obtain ⟨a1, da1, cs1, e3, rfl⟩ := rl1.at hm
    rw [e1] at e3
    cases e3
    have hcs : (eraseL cs1).length = cs1.length := by rw [eraseL_map, List.length_map]
    rw [hcs] at hln
    refine ⟨a1, ks.zip (cs1.map N.val), ps, rfl, cell_head rl1 e1 (a1, _) (by simp only [hdO, List.mem_singleton]), ?_, fun qs z hp hs' hq hz => ?_⟩
    · rw [List.map_fst_zip (by rw [List.length_map]; omega)]; exact hk
    · have hg : G1 z = none := rl1.ex.none hz
      refine ⟨z, rfl, ⟨_, SqL.of upd_same⟩, q z (qs.map fun x => (x.1, [.int x.2.1, .int x.2.2])) _ (upd G1 z (.lst (qs.map fun x => V.ref x.1))) _ (q1.tr (PStep.qs (PStep.new rl1.ex hz) rl1.tp)) ?_ ?_ ?_ ?_ (h1 _ hp hs')⟩
      · rw [upd_same, List.map_map]; rfl
      · intro b hb
        obtain ⟨x, hx, rfl⟩ := List.mem_map.mp hb
        rw [upd_ne (ne_of_none (hq x hx) hz)]; exact hq x hx
      · simp
      · intro i b ds h1 h2
        rw [List.getElem?_map] at h1
        rw [List.map_map, List.getElem?_map] at h2
        cases hi : qs[i]? with
        | none => rw [hi] at h1; cases h1
        | some x =>
          rw [hi] at h1 h2
          cases h1; cases h2
          exact .cons (.int _) (.cons (.int _) .nil)
  | _ => exact h1.elim
/-- {}, the keys will be tuples -/
def qNewDT : AQ := fun _ s Q => Q (.new (.nd (.dT []) []))
theorem q_newDT : AbsQ c W (fun _ H Q => ∀ p, H p = none → Q (.ref p) (upd H p (.dT []))) qNewDT := by
  intro s ns hs σ G H rl ex hx Qd Q h q p hp
  refine q _ (.new (.nd (.dT []) [])) G _ (Qs.fresh rl hp) ⟨.nd p p (.dT []) [], by simp [N.erase, eraseL], rfl, trivial, fun x hx => ?_, fun l hl => by simp [N.leaves, leavesL] at hl, by simp [N.cells, hdO, cellsL]⟩ h
  simp only [N.cells, hdO, cellsL, List.append_nil, List.map_nil, List.zip_nil_right, List.mem_singleton] at hx
  subst hx
  exact ⟨upd_same, rl.ex.none hp, hp⟩
theorem body_K {f : DsK} {Nm : List Str} {vs : List V} {H : Hp} {Q : VK} {E : XK} {tr : TA} {ar : AA} (hA : ∀ c : Ctx K, AbsA c tr ar) (hd : ∀ ds Qd, f ds Qd → ar (startE Nm.length (ds.map Cell.d)) fun xs => ∃ kk, kksOf xs = some kk ∧ xs.length ≤ sizeLine ∧ Qd kk) (h : spK K f vs H Q E) : tRet (tTup tr) { nx := fun _ H' => Q .non H', rt := Q } (L2.start Nm vs) H := by
  obtain ⟨G, ds, e, r, Qd, hf, q⟩ := h
  refine hA (Ctx.pure K e) _ _ G H (rel_start (c := Ctx.pure K e) (by rw [r.length, List.length_map]) fun i x ex => ?_) _ _ (hd ds Qd hf) fun us xs G1 H1 s1 r1 h1 => ?_
  · rw [List.getElem?_map] at ex
    cases hd' : ds[i]? with
    | none => rw [hd'] at ex; cases ex
    | some d =>
      rw [hd'] at ex
      cases ex
      obtain ⟨v, h1, h2⟩ := r.get hd'
      exact ⟨v, h1, ⟨v, rfl, h2⟩, rfl⟩
  · obtain ⟨kk, hk, hl, h1⟩ := h1
    refine ⟨by rw [r1.length]; exact hl, fun p hp => ?_⟩
    have ev := kks_v r1 hk
    subst ev
    refine q p kk G1 _ ⟨s1.gg, fun b o hb => ?_, fun b o hb => ?_, s1.fr⟩ upd_same h1
    · rw [upd_ne (ne_of_none (s1.gh b o hb) hp)]; exact s1.gh b o hb
    · have := s1.hh b o (fun z => z) hb
      rw [upd_ne (ne_of_none this hp)]; exact this
end
end Fe

/-! ### drafts together: plain theory -/
namespace Fe
open PySem L2 Fc
open scoped List
instance edEq : DecidableEq Ed
  | .put k xs, .put j ys => if h : k = j ∧ xs = ys then isTrue (by rw [h.1, h.2]) else isFalse (fun z => h (by cases z; exact ⟨rfl, rfl⟩))
  | .drop k, .drop j => if h : k = j then isTrue (by rw [h]) else isFalse (fun z => h (by cases z; rfl))
  | .turn k x, .turn j y => if h : k = j ∧ x = y then isTrue (by rw [h.1, h.2]) else isFalse (fun z => h (by cases z; exact ⟨rfl, rfl⟩))
  | .put _ _, .drop _ | .put _ _, .turn _ _ | .drop _, .put _ _ | .drop _, .turn _ _ | .turn _ _, .put _ _ | .turn _ _, .drop _ => isFalse (fun z => nomatch z)
def pairsF : Nat → List (List Ed) → List (Nat × Ed)
  | _, [] => []
  | n, es :: r => es.map (fun e => (n, e)) ++ pairsF (n + 1) r
abbrev pairsL (ds : List (List Ed)) : List (Nat × Ed) := pairsF 0 ds
def hereL (L : List (Nat × Ed)) (p : Nat) : List (Nat × Ed) := L.filter fun x => decide (x.2.pl = p)
def unl (e : Ed) (l : List (Nat × Ed)) : List (Nat × Ed) := l.filter fun x => decide (x.2 ≠ e)
inductive Tog
  | one (es : List Ed)
  | clash (p n m : Nat)
def placeD (p : Nat) : D := .tuple [.str (if p % 2 = 0 then Str.ofString "put" else Str.ofString "line"), .int ((p / 2 : Nat) : Int)]
def Tog.d : Tog → D
  | .one es => .tuple [.str (Str.ofString "one"), draftD es]
  | .clash p n m => .tuple [.str (Str.ofString "clash"), placeD p, .int (n : Int), .int (m : Int)]
def togL (f : Nat → List (Nat × Ed)) : List Nat → List Ed → Tog
  | [], acc => .one acc
  | p :: ps, acc => match f p with
    | [] => togL f ps acc
    | (n, e) :: r => match unl e ((n, e) :: r) with
      | [] => togL f ps (acc ++ [e])
      | (m, _) :: _ => .clash p n m
def togR (ds : List (List Ed)) : Tog := togL (hereL (pairsL ds)) (List.range 124) []
theorem togL_nil {f : Nat → List (Nat × Ed)} {p : Nat} {ps : List Nat} {acc : List Ed} (h : f p = []) : togL f (p :: ps) acc = togL f ps acc := by
  simp only [togL, h]
theorem togL_yes {f : Nat → List (Nat × Ed)} {p n : Nat} {e : Ed} {r : List (Nat × Ed)} {ps : List Nat} {acc : List Ed} (h : f p = (n, e) :: r) (hu : unl e (f p) = []) : togL f (p :: ps) acc = togL f ps (acc ++ [e]) := by
  rw [h] at hu
  simp only [togL, h, hu]
theorem togL_no {f : Nat → List (Nat × Ed)} {p n m : Nat} {e e' : Ed} {r r' : List (Nat × Ed)} {ps : List Nat} {acc : List Ed} (h : f p = (n, e) :: r) (hu : unl e (f p) = (m, e') :: r') : togL f (p :: ps) acc = .clash p n m := by
  rw [h] at hu
  simp only [togL, h, hu]
theorem togL_skip (f : Nat → List (Nat × Ed)) : ∀ (ps : List Nat) (acc : List Ed), togL f ps acc = togL f (ps.filter fun p => !(f p).isEmpty) acc
  | [], acc => rfl
  | p :: ps, acc => by
    cases h : f p with
    | nil => rw [togL_nil h, List.filter_cons_of_neg (by simp [h])]; exact togL_skip f ps acc
    | cons x r =>
      obtain ⟨n, e⟩ := x
      rw [List.filter_cons_of_pos (by simp [h])]
      cases hu : unl e (f p) with
      | nil => rw [togL_yes h hu, togL_yes h hu]; exact togL_skip f ps _
      | cons y r' => obtain ⟨m, e'⟩ := y; rw [togL_no h hu, togL_no h hu]
/-- strictly rising lists with the same members are the same -/
theorem up_same : ∀ {a b : List Nat}, a.Pairwise (· < ·) → b.Pairwise (· < ·) → (∀ k, k ∈ a ↔ k ∈ b) → a = b
  | [], [], _, _, _ => rfl
  | [], y :: b, _, _, h => by have := (h y).mpr (List.mem_cons_self ..); cases this
  | x :: a, [], _, _, h => by have := (h x).mp (List.mem_cons_self ..); cases this
  | x :: a, y :: b, ha, hb, h => by
    rw [List.pairwise_cons] at ha hb
    have e : x = y := by
      have h1 := (h x).mp (List.mem_cons_self ..)
      have h2 := (h y).mpr (List.mem_cons_self ..)
      rcases List.mem_cons.mp h1 with h1 | h1
      · exact h1
      · rcases List.mem_cons.mp h2 with h2 | h2
        · exact h2.symm
        · have := hb.1 x h1; have := ha.1 y h2; omega
    subst e
    rw [up_same ha.2 hb.2 fun k => ⟨fun hk => ?_, fun hk => ?_⟩]
    · rcases List.mem_cons.mp ((h k).mp (List.mem_cons_of_mem _ hk)) with e | e
      · have := ha.1 k hk; omega
      · exact e
    · rcases List.mem_cons.mp ((h k).mpr (List.mem_cons_of_mem _ hk)) with e | e
      · have := hb.1 k hk; omega
      · exact e
theorem mem_pairs {n : Nat} {e : Ed} : ∀ {ds : List (List Ed)} {k : Nat}, (n, e) ∈ pairsF k ds → ∃ es ∈ ds, e ∈ es
  | [], _, h => by cases h
  | es :: r, k, h => by
    rcases List.mem_append.mp h with h | h
    · obtain ⟨e', he, z⟩ := List.mem_map.mp h
      cases z
      exact ⟨es, List.mem_cons_self .., he⟩
    · obtain ⟨es', h1, h2⟩ := mem_pairs h
      exact ⟨es', List.mem_cons_of_mem _ h1, h2⟩
theorem pairs_mem {e : Ed} {es : List Ed} : ∀ {ds : List (List Ed)} (k : Nat), es ∈ ds → e ∈ es → ∃ n, (n, e) ∈ pairsF k ds
  | [], _, h, _ => by cases h
  | es' :: r, k, h, he => by
    rcases List.mem_cons.mp h with rfl | h
    · exact ⟨k, List.mem_append.mpr (.inl (List.mem_map.mpr ⟨e, he, rfl⟩))⟩
    · obtain ⟨n, hn⟩ := pairs_mem (k + 1) h he
      exact ⟨n, List.mem_append.mpr (.inr hn)⟩
/-- an edit at a place -/
def AtP (ds : List (List Ed)) (p : Nat) (e : Ed) : Prop := e.pl = p ∧ ∃ es ∈ ds, e ∈ es
theorem here_iff {ds : List (List Ed)} {p : Nat} {e : Ed} : (∃ n, (n, e) ∈ hereL (pairsL ds) p) ↔ AtP ds p e := by
  unfold hereL AtP
  constructor
  · rintro ⟨n, h⟩
    rw [List.mem_filter] at h
    exact ⟨by simpa using h.2, mem_pairs h.1⟩
  · rintro ⟨h1, es, h2, h3⟩
    obtain ⟨n, hn⟩ := pairs_mem 0 h2 h3
    exact ⟨n, List.mem_filter.mpr ⟨hn, by simpa using h1⟩⟩
def Tog.two : Tog → Tog → Prop
  | .one a, .one b => a = b
  | .clash p _ _, .clash q _ _ => p = q
  | _, _ => False
theorem unl_nil {e : Ed} {l : List (Nat × Ed)} : unl e l = [] ↔ ∀ x ∈ l, x.2 = e := by
  unfold unl
  rw [List.filter_eq_nil_iff]
  constructor
  · intro h x hx; have := h x hx; simpa using this
  · intro h x hx; simp [h x hx]
/-- what comes depends on which edits there are at each place alone -/
theorem tog_two {f g : Nat → List (Nat × Ed)} : ∀ (ps : List Nat) (acc : List Ed), (∀ p ∈ ps, ∀ e, (∃ n, (n, e) ∈ f p) ↔ (∃ n, (n, e) ∈ g p)) → (togL f ps acc).two (togL g ps acc)
  | [], acc, _ => rfl
  | p :: ps, acc, h => by
    have hp := h p (List.mem_cons_self ..)
    have hr := fun acc => tog_two (f := f) (g := g) ps acc fun q hq => h q (List.mem_cons_of_mem _ hq)
    cases hf : f p with
    | nil =>
      have hg : g p = [] := by
        cases hg : g p with
        | nil => rfl
        | cons x r => obtain ⟨n, e⟩ := x; have := (hp e).mpr ⟨n, by rw [hg]; exact List.mem_cons_self ..⟩; rw [hf] at this; obtain ⟨_, z⟩ := this; cases z
      rw [togL_nil hf, togL_nil hg]; exact hr acc
    | cons x r =>
      obtain ⟨n, e⟩ := x
      cases hg : g p with
      | nil => have := (hp e).mp ⟨n, by rw [hf]; exact List.mem_cons_self ..⟩; rw [hg] at this; obtain ⟨_, z⟩ := this; cases z
      | cons y r' =>
        obtain ⟨n', e'⟩ := y
        have ein : ∃ n, (n, e') ∈ f p := (hp e').mpr ⟨n', by rw [hg]; exact List.mem_cons_self ..⟩
        have ein' : ∃ n, (n, e) ∈ g p := (hp e).mp ⟨n, by rw [hf]; exact List.mem_cons_self ..⟩
        cases hu : unl e (f p) with
        | nil =>
          have all := unl_nil.mp hu
          obtain ⟨k, hk⟩ := ein
          have ee : e' = e := all _ hk
          have hu' : unl e' (g p) = [] := unl_nil.mpr fun x hx => by
            obtain ⟨m, hm⟩ := (hp x.2).mpr ⟨x.1, hx⟩
            rw [ee]; exact all (m, x.2) hm
          rw [togL_yes hf hu, togL_yes hg hu', ee]; exact hr _
        | cons z l =>
          obtain ⟨m, e2⟩ := z
          cases hu' : unl e' (g p) with
          | nil =>
            have all := unl_nil.mp hu'
            obtain ⟨k, hk⟩ := ein'
            have ee : e = e' := all _ hk
            have : unl e (f p) = [] := unl_nil.mpr fun x hx => by
              obtain ⟨m, hm⟩ := (hp x.2).mp ⟨x.1, hx⟩
              rw [ee]; exact all (m, x.2) hm
            rw [this] at hu; cases hu
          | cons z' l' =>
            obtain ⟨m', e2'⟩ := z'
            rw [togL_no hf hu, togL_no hg hu']; rfl
/-- what one draft has -/
theorem tog_one {f : Nat → List (Nat × Ed)} : ∀ (ps : List Nat) (acc es : List Ed), togL f ps acc = .one es → (∀ p x, x ∈ f p → x.2.pl = p) → ps.Pairwise (· < ·) →
    ∃ es', es = acc ++ es' ∧ (∀ e ∈ es', ∃ p ∈ ps, ∃ n, (n, e) ∈ f p) ∧ (∀ p ∈ ps, ∀ x ∈ f p, x.2 ∈ es') ∧ (es'.map Ed.pl).Pairwise (· < ·)
  | [], acc, es, h, _, _ => by cases h; exact ⟨[], by simp, (fun _ z => by cases z), (fun _ z => by cases z), List.Pairwise.nil⟩
  | p :: ps, acc, es, h, hpl, hup => by
    rw [List.pairwise_cons] at hup
    cases hf : f p with
    | nil =>
      rw [togL_nil hf] at h
      obtain ⟨es', h1, h2, h3, h4⟩ := tog_one ps acc es h hpl hup.2
      refine ⟨es', h1, fun e he => ?_, fun q hq x hx => ?_, h4⟩
      · obtain ⟨q, hq, r⟩ := h2 e he; exact ⟨q, List.mem_cons_of_mem _ hq, r⟩
      · rcases List.mem_cons.mp hq with rfl | hq
        · rw [hf] at hx; cases hx
        · exact h3 q hq x hx
    | cons x r =>
      obtain ⟨n, e⟩ := x
      cases hu : unl e (f p) with
      | nil =>
        rw [togL_yes hf hu] at h
        obtain ⟨es', h1, h2, h3, h4⟩ := tog_one ps (acc ++ [e]) es h hpl hup.2
        have hin : (n, e) ∈ f p := by rw [hf]; exact List.mem_cons_self ..
        refine ⟨e :: es', by rw [h1, List.append_assoc]; rfl, fun e0 he => ?_, fun q hq x hx => ?_, ?_⟩
        · rcases List.mem_cons.mp he with rfl | he
          · exact ⟨p, List.mem_cons_self .., n, hin⟩
          · obtain ⟨q, hq, r⟩ := h2 e0 he; exact ⟨q, List.mem_cons_of_mem _ hq, r⟩
        · rcases List.mem_cons.mp hq with rfl | hq
          · rw [unl_nil.mp hu x hx]; exact List.mem_cons_self ..
          · exact List.mem_cons_of_mem _ (h3 q hq x hx)
        · rw [List.map_cons, List.pairwise_cons]
          refine ⟨fun k hk => ?_, h4⟩
          obtain ⟨e0, he0, rfl⟩ := List.mem_map.mp hk
          obtain ⟨q, hq, m, hm⟩ := h2 e0 he0
          have a := hpl p _ hin; have b := hpl q _ hm; have c := hup.1 q hq
          simp only at a b
          omega
      | cons z l => obtain ⟨m, e2⟩ := z; rw [togL_no hf hu] at h; cases h
theorem here_pl (ds : List (List Ed)) : ∀ p x, x ∈ hereL (pairsL ds) p → x.2.pl = p := fun p x hx => by
  have := (List.mem_filter.mp hx).2
  simpa using this
theorem range_up (n : Nat) : (List.range n).Pairwise (· < ·) := List.pairwise_lt_range
theorem tog_same {a b : List (List Ed)} (h : ∀ p e, AtP a p e ↔ AtP b p e) : (togR a).two (togR b) := tog_two _ _ fun p _ e => by rw [here_iff, here_iff]; exact h p e
/-! ### edits compared -/
theorem Ed.eqv (a b : Ed) : PyData.eqv a.d b.d = decide (a = b) := by
  have ⟨n1, n2, n3⟩ := w_ne
  have ii : ∀ k j : Nat, (((k : Int) == (j : Int)) : Bool) = decide (k = j) := fun k j => by
    by_cases h : k = j
    · subst h; simp
    · simp [h]; omega
  cases a <;> cases b <;> simp only [Ed.d, PyData.eqv, PyData.eqvAll, Ed.put.injEq, Ed.drop.injEq, Ed.turn.injEq, eqvAll_strs, Bool.and_true, Bool.and_false, reduceCtorEq, decide_false]
  all_goals first
    | (simp [n1, n2, n3, n1.symm, n2.symm, n3.symm, ii]; done)
    | (simp [n1, n2, n3, n1.symm, n2.symm, n3.symm, ii, Bool.decide_and]; done)
    | skip
  · rename_i k x j y
    rw [ii]; by_cases h1 : k = j <;> by_cases h2 : x = y <;> simp [h1, h2]
end Fe

namespace Fc
open PySem L2
section
variable {K : PySem.W.Frag} {c : Ctx K}
/-- x not in l, the items data of any depth -/
def fNotInD : A2 := fun x y Q => ∃ ds, y = .list ds ∧ SeqAt.shaped x = true ∧ SeqAt.shaped (.list ds) = true ∧ Q (.bool (!ds.any fun z => PyData.eqv z x))
theorem ar_notInD : AbsR2 c (rNotInD K) fNotInD := by
  intro G H x y dx dy k rx ry Qd Q h q
  obtain ⟨ds, rfl, h1, h2, h3⟩ := h
  exact ⟨dx, ds, (rx.mono k.ex).dp (SeqAt.canLay_of_shaped h1), (ry.mono k.ex).dp (SeqAt.canLay_of_shaped h2), h1, h2, q _ _ G H (.refl k) (.bl _) h3⟩
end
theorem units65 {k : Nat} {A : Around} (r : Room k A) : A.units + 65 < cLine := by have := r.un; omega
theorem kNotInD {X : Cx} {K : PySem.W.Frag} (hu : X.A.units + 65 < cLine) (h : X.K = K := by rfl) : OpR X (compareOp .NotIn) (rNotInD K) := h ▸ op_notInD hu
end Fc
namespace Fe
open PySem PySem.Spec PyProof.Rows L2 Fc
/-! a raise that leaves a comprehension -/
/-- the block's context, where a call's exception is wanted as the def wants it -/
abbrev blkX (X : Cx) (W : WX) (t0 : Shared) (G0 : Hp) (sco : Scope) (be : Env) (its : List Addr) : Cx :=
  { X.blk t0 G0 sco be its with
    xe := fun u t' => ∃ pins σ' H1 t1, Inv (X.blk t0 G0 sco be its) pins σ' H1 t1 ∧ L2.CX X.prog X.w X.stack H1 t1 (fun cls d H2 => ∃ σ2, W cls d σ2 H2) u t' }
section
variable {X : Cx} {W : WX} {t0 t1 : Shared} {G0 H1 : Hp} {sco : Scope} {be : Env} {its : List Addr} {pz : List (Addr × Obj)} {σ' σ : L2.St}
theorem okX (h : (X.blk t0 G0 sco be its).Ok) : (blkX X W t0 G0 sco be its).Ok :=
  ⟨h.mod, h.kind, h.glob, h.blt, h.above, h.inj, h.has, h.cab, h.hd, h.frames, h.stk, h.exf, h.bs, h.bsz, h.noex, h.exfs, h.funs, h.frf⟩
theorem okB (h : (blkX X W t0 G0 sco be its).Ok) : (X.blk t0 G0 sco be its).Ok :=
  ⟨h.mod, h.kind, h.glob, h.blt, h.above, h.inj, h.has, h.cab, h.hd, h.frames, h.stk, h.exf, h.bs, h.bsz, h.noex, h.exfs, h.funs, h.frf⟩
theorem invX (h : Inv (X.blk t0 G0 sco be its) pz σ' H1 t1) : Inv (blkX X W t0 G0 sco be its) pz σ' H1 t1 :=
  ⟨okX h.ok, h.os, h.bare, h.base, h.loc, h.cell, h.free, h.freeC, h.pin, h.hok, h.len⟩
theorem invB (h : Inv (blkX X W t0 G0 sco be its) pz σ' H1 t1) : Inv (X.blk t0 G0 sco be its) pz σ' H1 t1 :=
  ⟨okB h.ok, h.os, h.bare, h.base, h.loc, h.cell, h.free, h.freeC, h.pin, h.hok, h.len⟩
/-- a call in the element: its exception goes to the block's wish -/
theorem passX (σ : L2.St) : PassesAt (L2.CX X.prog X.w) (blkX X W t0 G0 sco be its) σ (fun cls d H => W cls d σ H) := fun pins H s e s' I c => by
  obtain ⟨a, B, H', cls, d, e1, fl, hok, ub, na, os, ag, hE⟩ := c
  exact ⟨pins, σ, H, s, invB I, a, B, H', cls, d, e1, fl, hok, ub, na, os, ag, σ, hE⟩
theorem un_wide {fs ex ex' : List Addr} {H H' : Hp} {h h' : Heap} (u : Un fs ex H H' h h') (hs : ∀ b ∈ ex, b ∈ ex') : Un fs ex' H H' h h' :=
  ⟨fun b o e n hb hx => u.keep b o e n hb fun z => hx (hs b z), fun b o e n hb hx => u.slot b o e n hb fun z => hx (hs b z), fun b o e n hx => u.free b o e n fun z => hx (hs b z),
   fun b o e hx => u.there b o e fun z => hx (hs b z), u.tups, u.frzs, u.tbls⟩
theorem un_narrow {fs ex : List Addr} {C : Addr} {H H' : Hp} {h h' : Heap} (u : Un fs (C :: ex) H H' h h') (hC : ∀ o, h.get? C ≠ some o) : Un fs ex H H' h h' := by
  have k : ∀ b o, h.get? b = some o → b ∉ ex → b ∉ C :: ex := fun b o e hx z => by
    rcases List.mem_cons.mp z with z | z
    · subst z; exact hC o e
    · exact hx z
  exact ⟨fun b o e n hb hx => u.keep b o e n hb (k b o e hx), fun b o e n hb hx => u.slot b o e n hb (k b o e hx), fun b o e n hx => u.free b o e n (k b o e hx),
   fun b o e hx => u.there b o e (k b o e hx), u.tups, u.frzs, u.tbls⟩
/-- what the loop owes where the element's call raised: the block's names are let go, the exception is in the def's air -/
theorem blk_fail {pins : List (Addr × Obj)} (hst : X.stack = X.env :: X.outer) (hfr : X.env.frame = some X.env.locals) (tk : Takes X W) (hW : ∀ c d s1 s2 H, W c d s1 H → W c d s2 H)
    (I3 : Inv X pins σ G0 t0) (hC : be.locals = t0.heap.objs.size) (hbf : be.frame = X.env.frame)
    (f3 : ∀ b ∈ its, FpOk X pins G0 b ∧ b < t0.heap.objs.size) {u : Value} {t' : Shared} (x : (blkX X W t0 G0 sco be its).xe u t') :
    notedBy (model X.prog X.w) X.A be (CompFails (model X.prog X.w) X.A X.xe be) u t' := by
  obtain ⟨pz, σ1, H1, t1, Ib, a, B, H', cls, d, rfl, fl, hok, ub, na, os, ag, σ2, hE⟩ := x
  generalize hCC : be.locals = C at hC
  have nfr : C ∉ frs X.stack := fun hm => by
    obtain ⟨_, o, e, _⟩ := I3.stack.mem hm
    have z := Heap.lt_size e
    rw [← hC] at z
    exact absurd z (Nat.lt_irrefl _)
  have n3 : ∀ o, t0.heap.get? C ≠ some o := fun o e => by
    have z := Heap.lt_size e
    rw [← hC] at z
    exact absurd z (Nat.lt_irrefl _)
  obtain ⟨m, hNs, _⟩ := Ib.loc
  have hNs : t1.heap.Ns C m := by rw [← hCC]; exact hNs
  have cH1 : H1 C = none := by rw [← hCC]; exact Ib.free
  have hNs0 := hNs
  obtain ⟨oC, es, ep, hoC, hdC, hrC⟩ := hNs0
  have cH' : H' C = none := ub.free C oC hoC cH1
  have cB : B.get? C = some oC := ub.keep C oC hoC cH1 nfr
  obtain ⟨B1, b1, b2⟩ := restrict B fun b => decide (b ≠ C)
  have b1 : ∀ b, b ≠ C → B1.get? b = B.get? b := fun b hb => b1 b (by simp [hb])
  have b2 : B1.get? C = none := b2 C (by simp)
  have bB : ∀ b o, B1.get? b = some o → B.get? b = some o ∧ b ≠ C := fun b o e => by
    by_cases hb : b = C
    · subst hb; rw [b2] at e; cases e
    · exact ⟨by rw [← b1 b hb]; exact e, hb⟩
  obtain ⟨G, g1, g2⟩ := restrict t'.heap fun b => (B1.get? b).isSome || decide (b ∈ frs X.stack)
  have st : B.StaysIn t'.heap := fl.1
  have st1 : B1.StaysIn t'.heap := fun b o e => st b o (bB b o e).1
  have gB : ∀ b o, B1.get? b = some o → G.get? b = some o := fun b o e => by
    rw [g1 b (by simp [e])]
    exact st1 b o e
  have gF : ∀ b, b ∈ frs X.stack → G.get? b = t'.heap.get? b := fun b hb => g1 b (by simp [hb])
  have og : ∀ b o, G.get? b = some o → t'.heap.get? b = some o ∧ ((B1.get? b).isSome = true ∨ b ∈ frs X.stack) := fun b o e => by
    cases q : ((B1.get? b).isSome || decide (b ∈ frs X.stack)) with
    | false => rw [g2 b q] at e; cases e
    | true =>
      rw [g1 b q] at e
      exact ⟨e, by simpa [Bool.or_eq_true] using q⟩
  have gC : G.get? C = none := by
    cases q : G.get? C with
    | none => rfl
    | some o =>
      rcases (og C o q).2 with z | z
      · rw [b2] at z; cases z
      · exact absurd z nfr
  -- the callee's step, the block's names put aside
  have uc : Un (frs X.stack) (C :: its) H1 H' t1.heap G := by
    refine ⟨fun b o e n hb hx => ?_, fun b o e n hb hx => ?_, fun b o e n _ => ub.free b o e n, fun b o e hx => ?_, ub.tups, ub.frzs, ub.tbls⟩
    · have hbC : b ≠ C := fun z => hx (by rw [z]; exact List.mem_cons_self)
      exact gB b o (by rw [b1 b hbC]; exact ub.keep b o e n hb)
    · obtain ⟨sl, q⟩ := ub.slot b o e hb
      exact ⟨sl, by rw [gF b hb]; exact q⟩
    · by_cases hb : b ∈ frs X.stack
      · obtain ⟨sl, q⟩ := ub.slot b o e hb
        exact ⟨_, by rw [gF b hb]; exact q⟩
      · have hbC : b ≠ C := fun z => hx (by rw [z]; exact List.mem_cons_self)
        obtain ⟨o', q⟩ := ub.there b o e hb
        exact ⟨o', gB b o' (by rw [b1 b hbC]; exact q)⟩
  have ua : Un (frs X.stack) its G0 H' t0.heap G := un_narrow (Un.trans (un_wide (show Un (frs X.stack) its G0 H1 t0.heap t1.heap from Ib.base) fun b hb => List.mem_cons_of_mem _ hb) uc) n3
  have hokG : HOk X.prog X.w H' G := fun b o q => (hok b o q).stay (fun c v hc r => gB c v (by
      have hcC : c ≠ C := fun z => by
        subst z
        rcases hc with hc | hc
        · rw [hc, q] at cH'; cases cH'
        · rw [hc] at cH'; cases cH'
      rw [b1 c hcC]; exact r)) (fun _ r => r) fun _ _ r => r
  have IG : Inv X pins σ H' { t1 with heap := G, gens := t'.gens, drawn := t'.drawn, toks := t'.toks } :=
    I3.call' (ch := its) (show t1.os = t0.os from Ib.os) ua hokG ag fun b hb => ⟨(f3 b hb).1.2.2.2.1, (f3 b hb).1.2.1, (f3 b hb).1.2.2.2.2.1, (f3 b hb).1.2.2.2.2.2⟩
  have fl1 : HandSPX.FlyingZ B1 X.stack a (Zc cls d) t'.heap := by
    obtain ⟨_, k2, k3, oe, vs, T, oT, ts, he, hz, hd, h1, hnT, r⟩ := fl
    have an : ∀ b, B.get? b = none → B1.get? b = none := fun b e => by
      cases q : B1.get? b with
      | none => rfl
      | some o => rw [(bB b o q).1] at e; cases e
    exact ⟨st1, an a k2, funFrames_none k3 fun L hL => an L (by
      obtain ⟨q, _⟩ := k3.mem hL
      exact q), oe, vs, T, oT, ts, he, hz, hd, h1, an T hnT, r⟩
  show wpAny _ X.A (noteFrame (.ref a) be) _ _ t'
  rw [noteFrame_env _ hbf]
  have hAf : X.A.frames = some (X.env :: X.outer) := by rw [I3.ok.frames, hst]
  rw [hst] at fl1
  refine HandSPX.looks_onZ Zc.steady hAf hfr fl1 fun h1 hh up1 => ?_
  have nsF : ∀ vs, oC.data ≠ .fields vs := fun vs q => by rw [hdC] at q; cases q
  obtain ⟨sl1, eC1⟩ := up1 C oC (st C oC cB) nsF
  have hN1 : h1.Ns C m := ⟨_, es, ep, eC1, hdC, hrC⟩
  refine ⟨m, by rw [hCC]; exact hN1, fun h2 m2 hn2 hs2 => ?_⟩
  rw [hCC] at hn2 hs2
  obtain ⟨k1, k2, k3, oe, vs, T, oT, ts, he, hz, hd, h1v, hnT, hTe, hT, hdT, h3⟩ := hh
  have aC : a ≠ C := fun z => by
    rw [z, eC1] at he; cases he
    exact nsF _ hd
  have TC : T ≠ C := fun z => by
    rw [z, eC1] at hT; cases hT
    exact nsF _ hdT
  have he2 := (hs2.2 a aC).trans he
  have hT2 := (hs2.2 T TC).trans hT
  have hh2 : HandSPX.HeldZ B1 (X.env :: X.outer) a (Zc cls d) X.env.locals h2 :=
    ⟨fun b o e => (hs2.2 b (bB b o e).2).trans (k1 b o e), k2, Heap.FunFrames.sameBut hs2 hn2 k3, oe, vs, T, oT, ts, he2, hz, hd, h1v, hnT, hTe, hT2, hdT, h3⟩
  unfold PySem.passOn
  refine wpAny_bind (wpAny_field he2 hd h1v ?_)
  rw [if_neg (show ¬ ((Value.ref T == Value.none) = true) from by simp)]
  rw [hbf, hfr]
  refine wpAny_bind (HandSPX.setFlight_onZ hh2 fun h3' hh3 up3 => wpAny_throw ?_)
  refine tk _ _ ⟨a, B1, _, pins, σ, H', cls, d, rfl, IG, fun b o e hb => ?_, fun b o e hnf => ?_, .inr (.inr (by rw [hst]; exact hh3)), na, ?_, ag, hW _ _ _ _ _ hE⟩
  · obtain ⟨e', h⟩ := og b o e
    rcases h with h | h
    · obtain ⟨o', q⟩ := Option.isSome_iff_exists.mp h
      have z := st1 b o' q
      rw [e'] at z; cases z
      exact q
    · exact absurd h hb
  · have hbC : b ≠ C := fun z => by subst z; exact absurd e (by rw [gC]; exact fun z => nomatch z)
    obtain ⟨sl, q1⟩ := up1 b o (og b o e).1 hnf
    exact up3 b { o with slots := sl } ((hs2.2 b hbC).trans q1) hnf
  · exact os
theorem thnX {α : Type} {t : Sem α} {Q Q' : α → Shared → Prop} {M : Model} {A : Around} {E E' : Value → Shared → Prop} {s : Shared} (h : wpAny M A t Q E s) (hE : ∀ u s, E u s → E' u s) (hQ : ∀ a s, Q a s → Q' a s) : wpAny M A t Q' E' s := wpAny_mono h hQ hE
end
section
variable {X : Cx} {W : WX}
/-- [elt for tg in it if ..] where the element's call may raise -/
theorem lcX_core {pz : List (Addr × Obj)} {t0 : Shared} {ς : L2.St} {G0 : Hp} {Q : VK} {elt tg itx : Expr} {ifs : List Expr} {sco : Scope} {own : List (Str × Nat)} {p1 p2 : Pos} {wi : TI} {g : TG} {tt : TT} {te : TE} {Qf : Value → Shared → Prop}
    (hc : X.calm = true) (hN : X.N.Nodup) (I0 : Inv X pz ς G0 t0) (hst : X.stack = X.env :: X.outer) (hfr : X.env.frame = some X.env.locals) (tk : Takes X W) (hW : ∀ c d s1 s2 H, W c d s1 H → W c d s2 H) (hi : PI X tg itx wi) (ok : BlkOk X.N X.env.scope sco own)
    (hg : ∀ (z : Shared) (G : Hp) (C : Addr) (cl : List (Str × Addr)) (its : List Addr), PG (blkX X W z G sco (compEnvC sco cl C X.env) its) tg g) (ht : ∀ (z : Shared) (G : Hp) (C : Addr) (cl : List (Str × Addr)) (its : List Addr), PTs (blkX X W z G sco (compEnvC sco cl C X.env) its) ifs tt)
    (he : ∀ (z : Shared) (G : Hp) (C : Addr) (cl : List (Str × Addr)) (its : List Addr), PE (blkX X W z G sco (compEnvC sco cl C X.env) its) elt te) (hs : ∀ x, foldedSetIterable itx X.env x = pure x)
    (h : tLc wi g tt te (own.map (·.2)) ς G0 Q)
    (hRR : ∀ L C z n G, Inv X pz ς G z → Q (.ref L) G → z.heap.Ns C n → FpOk X pz G C → compPost (model X.prog X.w) X.A X.xe none Qf (.ref L) C (.ok .next) z) :
    wpAny (model X.prog X.w) X.A (comprehension (.ListComp elt [⟨tg, itx, ifs, 0⟩] sco p1) sco X.env p2 (newList []) false (eval itx X.env) none) Qf X.xe t0 := by
  have cells : ∀ y ∈ sco.names, y.2 = .free → ∃ c, X.env.cells.lookup y.1 = some c := fun y hy e =>
    (ok.free y hy e).elim (fun k => I0.ok.has _ (.inl k)) (fun k => I0.ok.has _ (.inr k))
  refine comprehension_at (use := none) rfl hs (closure_ok cells) ok.kind (fun y hy e => by rw [ok.uniq y hy, e])
    (thn (hi.run pz t0 ς G0 _ I0 h) fun xv t1 hx => thn hx fun itv t2 h2 => ?_)
  obtain ⟨it, its, tn, J, G2, e, I2, T, at2, fq2, q⟩ := h2
  subst e
  refine wpAny_newObj_type (newEnv_comp ?_) (by show 0 ≤ sizeLine; decide)
  generalize hL : t2.heap.objs.size = L
  have none2 : G2 L = none := I2.hok.fresh (Nat.le_of_eq hL)
  obtain ⟨Wt, ⟨k0, wt0⟩, turn⟩ := q L none2
  generalize ht3 : ({ t2 with heap := t2.heap.push { cls := .type "list", data := .seq ([] : List Value).toArray } } : Shared) = t3
  have I3 : Inv X pz ς (upd G2 L (.lst [])) t3 := by
    rw [← ht3]
    refine I2.laid (t' := t2.toks) (fun b o e => Heap.get?_push_of_some _ e) (Nat.le_of_eq hL) ⟨Nat.zero_le _, [], 0, .nil, ?_⟩
    rw [← hL]
    exact Heap.get?_push_size _ rfl
  have hh3 : t3.heap = t2.heap.push { cls := .type "list", data := .seq ([] : List Value).toArray } := by rw [← ht3]
  have below : ∀ b ∈ its, b < t2.heap.objs.size := fun b hb => by
    obtain ⟨o, e, _⟩ := T.obj _ _ at2 b hb
    exact Heap.lt_size e
  have fq3 : ∀ b ∈ its, FpOk X pz (upd G2 L (.lst [])) b ∧ b < t3.heap.objs.size := fun b hb => by
    have hlt := below b hb
    refine ⟨⟨?_, (fq2 b hb).2⟩, by rw [hh3, Heap.size_push]; exact Nat.lt_succ_of_lt hlt⟩
    rw [upd_ne (by rw [← hL]; exact Nat.ne_of_lt hlt)]
    exact (fq2 b hb).1
  have at3 : tn 0 t3.heap := T.keep _ _ _ at2 fun b _ o e => by rw [hh3]; exact Heap.get?_push_of_some _ e
  have I4 := invX (W := W) (block_start I3 ok hN fq3)
  have pg := hg t3 (upd G2 L (.lst [])) t3.heap.objs.size (cellsFrom (t3.heap.objs.size + 1) sco.names (cloFrom X.env.cells sco.names [])) its
  have pt := ht t3 (upd G2 L (.lst [])) t3.heap.objs.size (cellsFrom (t3.heap.objs.size + 1) sco.names (cloFrom X.env.cells sco.names [])) its
  have pe := he t3 (upd G2 L (.lst [])) t3.heap.objs.size (cellsFrom (t3.heap.objs.size + 1) sco.names (cloFrom X.env.cells sco.names [])) its
  show codeAny _ _ (.compStart (.ListComp elt [⟨tg, itx, ifs, 0⟩] sco p1) 0 (.ref it) (.ref L) (compEnvC sco (cellsFrom (t3.heap.objs.size + 1) sco.names (cloFrom X.env.cells sco.names [])) t3.heap.objs.size X.env)) (compEnds (model X.prog X.w) X.A X.xe none Qf (.ref L) (compEnvC sco (cellsFrom (t3.heap.objs.size + 1) sco.names (cloFrom X.env.cells sco.names [])) t3.heap.objs.size X.env)) { t3 with heap := pushCells (t3.heap.push { cls := .type "dict", data := .dict #[] }) sco.names }
  have free3 : ∀ b ∈ its, (upd G2 L (.lst [])) b = none := fun b hb => (fq3 b hb).1.1
  generalize hbe : compEnvC sco (cellsFrom (t3.heap.objs.size + 1) sco.names (cloFrom X.env.cells sco.names [])) t3.heap.objs.size X.env = be at I4 pg pt pe ⊢
  have cL : be.locals = t3.heap.objs.size := by subst hbe; rfl
  have cF : be.frame = X.env.frame := by subst hbe; rfl
  generalize hG3 : upd G2 L (.lst []) = G3 at I3 I4 pg pt pe wt0 free3 fq3
  generalize ht4 : ({ t3 with heap := pushCells (t3.heap.push { cls := .type "dict", data := .dict #[] }) sco.names } : Shared) = t4 at I4 ⊢
  have at4 : tn 0 t4.heap := T.keep _ _ _ at3 fun b _ o e => by rw [← ht4]; exact pushCells_keeps _ _ _ _ (Heap.get?_push_of_some _ e)
  have fails : ∀ u z, (blkX X W t3 G3 sco be its).xe u z → notedBy (model X.prog X.w) X.A be (fun e z' => compEnds (model X.prog X.w) X.A X.xe none Qf (.ref L) be (.error e) z') u z :=
    fun u z hz => blk_fail hst hfr tk hW I3 cL cF fq3 hz
  have stay : ∀ {ς' : L2.St} {G' : Hp} {z : Shared}, Inv (blkX X W t3 G3 sco be its) [] ς' G' z → (∀ b ∈ its, G' b = none) → ∀ b ∈ its, FpOk (blkX X W t3 G3 sco be its) [] G' b := fun {ς' G' z} Iz hn b hb =>
    ⟨hn b hb, (Iz.ok.exf b hb).1, Iz.ok.exfs b hb, .inl hb, fun x c e => (Iz.ok.exf b hb).2 x c e, fun p hp => absurd (show p ∈ ([] : List (Addr × Obj)) ++ [] from hp) (by simp)⟩
  have loop : codeAny (model X.prog X.w) X.A (.compLoop (.ListComp elt [⟨tg, itx, ifs, 0⟩] sco p1) 0 (.ref it) (.ref L) be) (compEnds (model X.prog X.w) X.A X.xe none Qf (.ref L) be) t4 := by
    refine compLoop_any (fun n z => ∃ i G', Inv (blkX X W t3 G3 sco be its) [] (wipe ς (own.map (·.2))) G' z ∧ tn i z.heap ∧ (∀ b ∈ its, G' b = none) ∧ Wt i n G') ?_ k0 ⟨0, G3, I4, at4, free3, wt0⟩
    rintro n t5 ⟨i, G5, I5, at5, none5, w5⟩
    rcases turn i n G5 w5 with ⟨stop, qq⟩ | ⟨go, Nx, hNx, step⟩
    · have td := T.done (blkX X W t3 G3 sco be its) rfl rfl rfl hc i [] t5 _ G5 (fun _ _ => False) I5 (stay I5 none5) at5 stop
      refine thnF td fun r t6 ⟨hr, I6⟩ => ?_
      subst hr
      have I7 : Inv X pz ς G5 t6 := I3.call' (ch := its) I6.os I6.base I6.hok I6.bare fun b hb => ⟨(fq3 b hb).1.2.2.2.1, (fq3 b hb).1.2.1, (fq3 b hb).1.2.2.2.2.1, (fq3 b hb).1.2.2.2.2.2⟩
      have noneC : G5 t3.heap.objs.size = none := by
        have z : G5 be.locals = none := I6.free
        rw [cL] at z
        exact z
      obtain ⟨n6, ns6, _⟩ := I6.loc
      have ns6 : t6.heap.Ns be.locals n6 := ns6
      have ns7 := ns6
      rw [cL] at ns7
      have rr : compPost (model X.prog X.w) X.A X.xe none Qf (.ref L) t3.heap.objs.size (.ok .next) t6 := hRR L t3.heap.objs.size t6 n6 G5 I7 qq ns7 (I3.fpOk (Nat.le_refl _) noneC)
      rw [← cL] at rr
      exact rr
    · have ti := T.item (blkX X W t3 G3 sco be its) rfl rfl rfl hc i [] t5 _ G5 (fun _ _ => False) I5 (stay I5 none5) at5 go
      refine thnF ti fun r t6 ⟨u, hr, h6⟩ => ?_
      subst hr
      refine thnF h6 fun _ t7 ⟨x, G7, I7, r7, y7, at7, none7⟩ => ?_
      have I7' := I7.pinned (stay I7 none7) (T.obj _ _ at7)
      refine thnX (pg.run _ t7 _ G7 x u _ I7' r7 (step x G7 y7)) fails fun _ t8 ⟨ς8, G8, I8, hw8, q8⟩ => ?_
      refine thnX (pt.run _ t8 ς8 G8 _ I8 q8) fails fun b t9 ⟨G9, I9, q9⟩ => ?_
      have ends : ∀ {z : Shared} {G' : Hp}, Inv (blkX X W t3 G3 sco be its) ([] ++ pinsAt its t7.heap) ς8 G' z → Nx G' → ∃ m, m < n ∧ ∃ i G', Inv (blkX X W t3 G3 sco be its) [] (wipe ς (own.map (·.2))) G' z ∧ tn i z.heap ∧ (∀ b ∈ its, G' b = none) ∧ Wt i m G' := fun {z G'} Iz nx => by
        obtain ⟨m', hm, w'⟩ := hNx G' nx
        have kept : ∀ b ∈ its, ∀ o, t7.heap.get? b = some o → z.heap.get? b = some o ∧ G' b = none := fun b hb o e =>
          let y := Iz.pin (b, o) (List.mem_append_right _ (List.mem_append_right _ (mem_pinsAt hb e)))
          ⟨y.1, y.2.1⟩
        have hl : (wipe ς (own.map (·.2))).length = ς8.length := by rw [← hw8, wipe_length]
        refine ⟨m', hm, i + 1, G', (Iz.unpinned (pins := [])).weak hl (fun j v e => ?_), T.keep _ _ _ at7 fun b hb o e => (kept b hb o e).1, fun b hb => ?_, w'⟩
        · rw [← hw8] at e
          exact (wipe_some e).1
        · obtain ⟨o, e, _⟩ := T.obj _ _ at7 b hb
          exact (kept b hb o e).2
      cases b with
      | false =>
        simp only [Bool.false_eq_true, if_false] at q9 ⊢
        exact ends I9 q9
      | true =>
        simp only [if_true] at q9 ⊢
        refine thnX (pe.run _ t9 ς8 G9 _ I9 q9) fails fun y t10 ⟨yv, G10, I10, r10, acc, hD10, hz10, nx⟩ => ?_
        exact app_ok (X := blkX X W t3 G3 sco be its) I10 hD10 hz10 r10 fun t11 I11 => ends I11 nx
  exact codeAny_compStart_list loop (T.self X.A 0 _ _ _ at4 loop)
theorem pe_lcX {elt tg itx : Expr} {ifs : List Expr} {sco : Scope} {own : List (Str × Nat)} {p1 : Pos} {wi : TI} {g : TG} {tt : TT} {te : TE} (hc : X.calm = true) (hN : X.N.Nodup) (hst : X.stack = X.env :: X.outer) (hfr : X.env.frame = some X.env.locals) (tk : Takes X W) (hW : ∀ c d s1 s2 H, W c d s1 H → W c d s2 H)
    (hi : PI X tg itx wi) (ok : BlkOk X.N X.env.scope sco own)
    (hg : ∀ (z : Shared) (G : Hp) (C : Addr) (cl : List (Str × Addr)) (its : List Addr), PG (blkX X W z G sco (compEnvC sco cl C X.env) its) tg g) (ht : ∀ (z : Shared) (G : Hp) (C : Addr) (cl : List (Str × Addr)) (its : List Addr), PTs (blkX X W z G sco (compEnvC sco cl C X.env) its) ifs tt)
    (he : ∀ (z : Shared) (G : Hp) (C : Addr) (cl : List (Str × Addr)) (its : List Addr), PE (blkX X W z G sco (compEnvC sco cl C X.env) its) elt te) (hs : ∀ x, foldedSetIterable itx X.env x = pure x := by intro _; rfl) :
    PE X (.ListComp elt [⟨tg, itx, ifs, 0⟩] sco p1) (tLc wi g tt te (own.map (·.2))) := by
  refine ⟨fun pz t0 ς G0 Q I0 h => ?_⟩
  rw [eval_ListComp]
  refine lcX_core hc hN I0 hst hfr tk hW hi ok hg ht he hs h fun L C z n G Iz q hn f => ⟨n, hn, fun h9 sb => ?_⟩
  obtain ⟨f0, f1, f2, f3, f4, f5⟩ := f
  exact ⟨.ref L, G, Iz.turned (t' := z.toks) (fun b o hb e => (sb.2 b hb).trans e) f0 f1 f3 f4 f5, rfl, q⟩
end
section
variable {K : PySem.W.Frag} {cm : Nat → Addr} {c : Cz K cm} {W : WX} {s s' : Sx} {ns : List N} {hs : List V} {σ : L2.St} {G H G' H' Hs G2 H2 : Hp}
/-- [e for .. if ..], one's own; the element may raise -/
def qLcX (xi : AXI) (xg : XG) (tt : AQT) (ae : AQ) (vs : List Nat) : AQ := fun ex s Q => xi ex s fun items => items.length ≤ sizeLine ∧ ∃ I : Nat → List M → Prop, I 0 [] ∧
  (∀ (i : Nat) (d : D) (acc : List M), items[i]? = some d → I i acc → xg (.d d) (wipeS s vs) fun s' => tt (fun _ _ => False) s' fun b => if b = true then ae ex s' (oneV fun m => I (i + 1) (acc ++ [m])) else I (i + 1) acc) ∧ ∀ acc, I items.length acc → Q (.new (.nd .lst acc))
theorem q_lcX {wi : TI} {xi : AXI} {g : TG} {xg : XG} {tt : TT} {at' : AQT} {te : TE} {ae : AQ} {vs : List Nat} (hi : AbsXI c W wi xi) (hg : AbsXG c g xg) (ho : GOnly vs g) (ht : AbsQT c W tt at') (he : AbsQ c W te ae) : AbsQ c W (tLc wi g tt te vs) (qLcX xi xg at' ae vs) := by
  intro s ns hs σ G H rl ex hx Qd Q h q
  refine hi s ns hs σ G H rl ex hx _ _ h fun J items G1 H1 q1 wk h1 => ?_
  obtain ⟨hz, I, i0, it, ie⟩ := h1
  intro D hD
  have rl1 := rl.quiet q1
  have tpn1 := tpn rl1
  have qD : Qs c G1 H1 G1 (upd H1 D (.lst [])) := (new_lst rl1 (vs := []) (xs := []) .nil hD).1
  have hg1 : G1 D = none := rl1.ex.none hD
  refine ⟨fun i m H' => i + m = items.length ∧ ∃ G' ans, ans.length ≤ i ∧ Qs c G1 H1 G' H' ∧ Made c H1 D ans G' H' ∧ I i (eraseL ans), ⟨items.length, by omega, G1, [], Nat.zero_le _, qD, ⟨upd_same, hg1, fun x hx => by simp [cellsL] at hx, fun l hl => by simp [leavesL] at hl, by simp [cellsL]⟩, i0⟩, fun i m H' w => ?_⟩
  obtain ⟨em, G', ans, al, q', md, hI⟩ := w
  have rl' := rl1.quiet q'
  by_cases hl : i < items.length
  · obtain ⟨go, yl⟩ := (wk i G' H' q'.gg rl'.ex).1 hl
    refine .inr ⟨go, fun H2 => ∃ G2 ans2, ans2.length ≤ i + 1 ∧ Qs c G1 H1 G2 H2 ∧ Made c H1 D ans2 G2 H2 ∧ I (i + 1) (eraseL ans2), fun H2 n => ⟨m - 1, by omega, by omega, n⟩, fun x H2 hy => ?_⟩
    obtain ⟨G2, s2, d, hd, hr⟩ := yl x H2 hy
    have q2 := PStep.qs s2 rl'.tp
    have rl2 := rl'.quiet q2
    refine ho.mono _ _ _ _ _ (fun σ3 H3 q3 => ⟨q3.1.trans (wipe_wipe vs σ), q3.2⟩) (ho.only _ _ _ _ ?_)
    refine hg (wipeS s vs) ns hs (L2.wipe σ vs) G2 H2 x (.d d) H2 (rl2.wipe vs) hr _ _ (it i d _ hd hI) fun s3 σ3 r3 h3 => ?_
    refine ht s3 ns hs σ3 G2 H2 r3 _ XOk.never _ _ h3 fun b G4 H4 q4 h4 => ?_
    have q24 : Qs c G' H' G4 H4 := q2.tr q4
    cases b with
    | false => exact iteF ⟨G4, ans, by omega, q'.tr q24, md.quiet tpn1 hD q24, by simpa using h4⟩
    | true =>
      refine iteT ?_
      have h4' : ae ex s3 (oneV fun m => I (i + 1) (eraseL ans ++ [m])) := by simpa using h4
      have r4 := r3.quiet q4
      refine he s3 ns hs σ3 G4 H4 r4 ex (hx.mono (q1.gg.trans (q'.gg.trans q24.gg))) _ _ h4' fun y rv G5 H5 q5 ry h5 => ?_
      have q25 := q24.tr q5
      have md5 := md.quiet tpn1 hD q25
      have md4 := md.quiet tpn1 hD q24
      refine ⟨ans.map N.val, md5.d, by rw [List.length_map]; omega, ?_⟩
      have hDH : ∀ b o, H1 b = some o → b ≠ D := fun b o hb z => by subst z; rw [hD] at hb; cases hb
      have q6 : Qs c G1 H1 G5 (upd H5 D (.lst (ans.map N.val ++ [y]))) := by
        have q15 := q'.tr q25
        refine ⟨q15.gg, fun b o hb => ?_, fun b o mt hb => ?_, q15.fr, fun t l xs e => ?_⟩
        · rw [upd_ne (ne_of_none hb md5.g)]; exact q15.gh b o hb
        · rw [upd_ne (hDH b o hb)]; exact q15.hh b o mt hb
        · obtain ⟨ne, hl', i', j', z0, z1, ht'⟩ := q15.tp t l xs e
          have n1 : t ≠ D := fun z => tpn1 t l xs e (by rw [z]; exact hD)
          have n2 : l ≠ D := fun z => tape_neL (rl1.tp t l xs e) (by rw [z]; exact hD)
          exact ⟨ne, by rw [upd_ne n2]; exact hl', i', j', z0, z1, by rw [upd_ne n1]; exact ht'⟩
      cases rv with
      | d dy =>
        refine ⟨G5, ans ++ [.d y dy], by simpa using al, q6, ⟨by rw [upd_same, List.map_append]; rfl, md5.g, fun x hx => ?_, fun l hl => ?_, ?_⟩, by simpa [eraseL_map, N.erase, oneV] using h5⟩
        · rw [cellsL_append] at hx
          simp only [cellsL, N.cells, List.append_nil] at hx
          obtain ⟨a1, a2, a3, a4⟩ := md5.o x hx
          exact ⟨by rw [upd_ne a4]; exact a1, a2, a3, a4⟩
        · rw [leavesL_append, List.mem_append] at hl
          rcases hl with hl | hl
          · exact md5.l l hl
          · simp only [leavesL, N.leaves, List.append_nil, List.mem_singleton] at hl
            subst hl; exact ry
        · rw [cellsL_append]
          simpa [cellsL, N.cells] using md5.n
      | new mm =>
        obtain ⟨n, g1, rfl, g3, g4, g5, g6⟩ := ry
        have nD : ∀ x ∈ n.cells cm, x.1 ≠ D := fun x hx z => by
          have := (g4 x hx).2.2
          rw [z, md4.d] at this; cases this
        have n1 : ∀ x ∈ n.cells cm, H1 x.1 = none := fun x hx => Classical.byContradiction fun z => by
          have := (q'.tr q24).th rl1.tp _ z
          exact this (g4 x hx).2.2
        refine ⟨G5, ans ++ [n], by simpa using al, q6, ⟨by rw [upd_same, List.map_append]; rfl, md5.g, fun x hx => ?_, fun l hl => ?_, ?_⟩, by simpa [eraseL_map, g1, oneV] using h5⟩
        · rw [cellsL_append, List.mem_append] at hx
          rcases hx with hx | hx
          · obtain ⟨a1, a2, a3, a4⟩ := md5.o x hx
            exact ⟨by rw [upd_ne a4]; exact a1, a2, a3, a4⟩
          · simp only [cellsL, List.append_nil] at hx
            exact ⟨by rw [upd_ne (nD x hx)]; exact (g4 x hx).1, (g4 x hx).2.1, n1 x hx, nD x hx⟩
        · rw [leavesL_append, List.mem_append] at hl
          rcases hl with hl | hl
          · exact md5.l l hl
          · exact g5 l (by simpa [leavesL] using hl)
        · rw [cellsL_append, List.map_append, List.nodup_append]
          refine ⟨md5.n, by simpa [cellsL] using g6, fun a ha b hb => ?_⟩
          rintro rfl
          obtain ⟨x, hx, rfl⟩ := List.mem_map.mp ha
          obtain ⟨y, hy, e⟩ := List.mem_map.mp hb
          simp only [cellsL, List.append_nil] at hy
          have := (g4 y hy).2.2
          rw [e, (md4.o x hx).1] at this; cases this
      | _ => exact h5.elim
  · have hei : i = items.length := by omega
    subst hei
    refine .inl ⟨(wk _ G' H' q'.gg rl'.ex).2 (Nat.le_refl _), ?_⟩
    refine q _ (.new (.nd .lst (eraseL ans))) G' H' (q1.tr q') ⟨.nd D D .lst ans, by simp [N.erase], rfl, trivial, fun x hx => ?_, fun l hl => md.l l (by simpa [N.leaves] using hl), ?_⟩ (ie _ hI)
    · have early : ∀ b, H1 b = none → H b = none := fun b hb => Classical.byContradiction fun z => q1.th rl.tp b z hb
      simp only [N.cells, hdO, List.mem_append, List.mem_singleton] at hx
      rcases hx with rfl | hx
      · exact ⟨md.d, md.g, early _ hD⟩
      · obtain ⟨a1, a2, a3, a4⟩ := md.o x hx
        exact ⟨a1, a2, early _ a3⟩
    · simp only [N.cells, hdO, List.map_append, List.map_cons, List.map_nil]
      rw [List.nodup_append]
      refine ⟨by simp, md.n, fun a ha b hb => ?_⟩
      simp only [List.mem_singleton] at ha
      obtain ⟨x, hx, rfl⟩ := List.mem_map.mp hb
      rw [ha]
      exact fun z => (md.o x hx).2.2.2 z.symm
/-- x + y of two lists that are data, one's own -/
def qCatNew (a b : AQ) : AQ := fun ex s Q => a ex s fun x => b ex s fun y => ∃ xs ys, x = .d (.list xs) ∧ y = .d (.list ys) ∧ xs.length + ys.length ≤ sizeLine ∧ Q (.new (.nd .lst ((xs ++ ys).map M.d)))
theorem q_catNew {ta tb : TE} {a b : AQ} (ha : AbsQ c W ta a) (hb : AbsQ c W tb b) : AbsQ c W (tOp (rAddP K) ta tb) (qCatNew a b) := by
  intro s ns hs σ G H rl ex hx Qd Q h q
  refine ha s ns hs σ G H rl ex hx _ _ h fun v x G1 H1 q1 r1 h1 => ?_
  have rl1 := rl.quiet q1
  refine hb s ns hs σ G1 H1 rl1 ex (hx.mono q1.gg) _ _ h1 fun w y G2 H2 q2 r2 h2 => ?_
  have rl2 := rl1.quiet q2
  have r1' := r1.step rl1.tp (tpn rl) q2
  obtain ⟨xs, ys, rfl, rfl, hl, h3⟩ := h2
  have r1' : Rv K G2 v (.list xs) := r1'
  have r2 : Rv K G2 w (.list ys) := r2
  cases r1' with
  | @lst p vs _ hp hA =>
    cases r2 with
    | @lst p2 ws _ hp2 hA2 =>
      refine .inr (.inr (.inr ⟨_, _, vs, ws, rfl, rfl, rl2.ex _ _ hp, rl2.ex _ _ hp2, by rw [hA.length, hA2.length]; exact hl, fun t ht => ?_⟩))
      obtain ⟨q3, x3⟩ := new_lst rl2 (hA.append hA2) ht
      exact q _ _ G2 _ ((q1.tr q2).tr q3) (x3.early fun b hb => (q1.tr q2).th rl.tp b hb) h3
end
end Fe

open PySem L2 Fc in
local macro_rules | `(tactic| walk_at "vc") => `(tactic| simp only [aSeq, aSet, aRet, aRetN, aDrop, aIfS, aNext, aTest, aOp, aUn, aVar, aC, aCons, aNil, aCall, aCallT, aTup, aLst, aAnd, aOr, aNot, aAndV, aOrV, aNotV, aIf, aTru, aOrT, aM1, aM0, aSl, aoSome, aoNo, aLc, aFor, aWhile, aiRng1, aiRng2, aiRng3, aiList, aiTup, aiStr, aiEnum, agName, agTup, agCons, agNil, atYes, aAsg, aChain, aIsi, fI0, fI, fNeg, fAdd, fLen, fTuple, fList, fSl, fInt, fMax2, fMin2, fMulP, fInG, aSetOwnLst, aSetOwnList, aSetOwnRev, aAppend, aSetAt, aPop, aInsert, aFreeze, aRetOwn, aAug, aLenV, aIxOwn, aiAny, aListRg1, aiEnumT, aSetDic, aDPut, aFreezeD, aDGet, aIsi2, aRevL, aRevT, aAndT, aBreak, aCont, fStrip, fIsN, fNotN, wipeE, List.getElem?_cons_succ, List.getElem?_cons_zero, List.set_cons_succ, List.set_cons_zero, bodyD, ixt0, ixt1, ixt2, ixl0, ixl1, eq_int, ne_int, whole_eq, draw_eq, aline_eq, abody_eq, if_true, decide_eq_true_eq, List.length_cons, List.length_nil])
open PySem L2 Fc Fe in
local macro_rules | `(tactic| walk_at "vx") => `(tactic| simp only [zSeq, zNext, zBreak, zCont, zRet, zRetN, zDrop, zIf, zSet, setV_d, setV_at, setV_exc, zSetNew, zAsg, zAug, zFor, zWhile, zFreeze, zAppend, appV_d, appV_new, zSetAt, setAtV_at, q2x, q2xt, qLift, qLiftT, qVar, child_d, child_nd, qOp, opV_d, opV_at, opV_dat, opV_new, opV_dnew, qTest, tstV_b, qTru, qAnd, qOr, qNot, qAndV, qOrV, qNotV, qIf, qIx, ixV_d, ixV_at, qKey, keyV_d, keyV_at, qKeyIn, keyInV_at, qFld, fldV_at, qNil, qCons, qTup, qLst, qCB, qUn, unV_d, qSl, qoNo, qoSome, qCallP, qCallT, qIsi, qChain, qNewL, qListNew, qTupleOf, qFrz, qLc, qYes, oneV_d, oneV_new, wipeS, xgName, xgNil, xgCons, xgTup, xiList, xiTup, xiAny, xiRng1, xiRng2, xiRng3, xiStr, xiEnum, xTest, xNot, xAnd, xOr, xOp, opX_d, vw, vwL, asD, itemsOf, proj_un, proj_d, proj_tape, proj_exc, proj_at, killR_un, killR_d, killR_tape, killR_exc, killR_at, killH, reduceIte, Nat.reduceEqDiff, Nat.reduceAdd, Nat.reduceLT, Nat.zero_le, true_and, Nat.zero_ne_one, Nat.one_ne_zero, List.map_cons, List.map_nil, List.append_nil, aSeq, aSet, aRet, aRetN, aDrop, aIfS, aNext, aTest, aOp, aUn, aVar, aC, aCons, aNil, aCall, aCallT, aTup, aLst, aAnd, aOr, aNot, aAndV, aOrV, aNotV, aIf, aTru, aOrT, aM1, aM0, aSl, aoSome, aoNo, aLc, aFor, aWhile, aiRng1, aiRng2, aiRng3, aiList, aiTup, aiStr, aiEnum, agName, agTup, agCons, agNil, atYes, aAsg, aChain, aIsi, fI0_int, fI_int, fNeg, fAdd_int, fAdd_str, fAdd_tup, fAdd_lst, fLen_str, fLen_lst, fLen_tup, fTuple_lst, fTuple_tup, fList_lst, fList_tup, fSl_tup, fSl_lst, fSl_str, fInt_int, fInt_bool, fMax2_int, fMin2_int, fMulP, fInG, aiAny, aListRg1, aiEnumT, aDGet, aIsi2, aRevL, aRevT, aAndT, fStrip, fIsN_n, fNotN_n, fIsB_b, fNotB_b, wipeE, List.getElem?_cons_succ, List.getElem?_cons_zero, List.set_cons_succ, List.set_cons_zero, eq_int, ne_int, if_true, decide_eq_true_eq, List.length_cons, List.length_nil, Option.some.injEq, exists_eq_left', subM, M.sub, putM, M.put, lstM_eq, lstM_lst, view_lstM, List.length_map, Bool.false_eq_true, if_false])
open PySem L2 Fc Fe in
local macro_rules | `(tactic| walk_at "vy") => `(tactic| simp only [zSeq, zNext, zBreak, zCont, zRet, zRetN, zDrop, zIf, zSet, setV_d, setV_at, setV_exc, zSetNew, zAsg, zAug, zFor, zWhile, zFreeze, zAppend, appV_d, appV_new, zSetAt, setAtV_at, q2x, q2xt, qLift, qLiftT, qVar, child_d, child_nd, qOp, opV_d, opV_at, opV_dat, opV_new, opV_dnew, qTest, tstV_b, qTru, qAnd, qOr, qNot, qAndV, qOrV, qNotV, qIf, qIx, ixV_d, qKey, keyV_d, keyV_at, qKeyIn, keyInV_at, qFld, fldV_at, qNil, qCons, qTup, qLst, qCB, qUn, unV_d, qSl, qoNo, qoSome, qCallP, qCallT, qIsi, qChain, qNewL, qListNew, qTupleOf, qFrz, qLc, qYes, oneV_d, oneV_new, wipeS, xgName, xgNil, xgCons, xgTup, xiList, xiTup, xiAny, xiRng1, xiRng2, xiRng3, xiStr, xiEnum, xTest, xNot, xAnd, xOr, xOp, opX_d, vw, vwL, asD, itemsOf, proj_un, proj_d, proj_tape, proj_exc, proj_at, killR_un, killR_d, killR_tape, killR_exc, killR_at, killH, reduceIte, Nat.reduceEqDiff, Nat.reduceAdd, Nat.reduceLT, Nat.zero_le, true_and, Nat.zero_ne_one, Nat.one_ne_zero, List.map_cons, List.map_nil, List.append_nil, aSeq, aSet, aRet, aRetN, aDrop, aIfS, aNext, aTest, aOp, aUn, aVar, aC, aCons, aNil, aCall, aCallT, aTup, aLst, aAnd, aOr, aNot, aAndV, aOrV, aNotV, aIf, aTru, aOrT, aM1, aM0, aSl, aoSome, aoNo, aLc, aFor, aWhile, aiRng1, aiRng2, aiRng3, aiList, aiTup, aiStr, aiEnum, agName, agTup, agCons, agNil, atYes, aAsg, aChain, aIsi, fI0_int, fI_int, fNeg, fAdd_int, fAdd_str, fAdd_tup, fAdd_lst, fLen_str, fLen_lst, fLen_tup, fTuple_lst, fTuple_tup, fList_lst, fList_tup, fSl_tup, fSl_lst, fSl_str, fInt_int, fInt_bool, fMax2_int, fMin2_int, fMulP, fInG, aiAny, aListRg1, aiEnumT, aDGet, aIsi2, aRevL, aRevT, aAndT, fStrip, fIsN_n, fNotN_n, fIsB_b, fNotB_b, wipeE, List.getElem?_cons_succ, List.getElem?_cons_zero, List.set_cons_succ, List.set_cons_zero, eq_int, ne_int, if_true, decide_eq_true_eq, List.length_cons, List.length_nil, Option.some.injEq, exists_eq_left', subM, M.sub, putM, M.put, lstM_eq, lstM_lst, view_lstM, List.length_map, Bool.false_eq_true, if_false])
open PySem L2 Fc Fe in
local macro_rules | `(tactic| walk_at "vt") => `(tactic| simp only [zSeq, zNext, zBreak, zCont, zRet, zRetN, zDrop, zIf, zSet, setV_d, setV_at, setV_exc, zSetNew, zAsg, zAug, zFor, zWhile, zFreeze, zAppend, appV_d, appV_new, zSetAt, q2x, q2xt, qLift, qLiftT, qVar, child_d, child_nd, qOp, opV_d, opV_at, opV_dat, opV_new, opV_dnew, qTest, tstV_b, qTru, qAnd, qOr, qNot, qAndV, qOrV, qNotV, qIf, qIx, ixV_d, qKey, keyV_d, keyV_at, qKeyIn, keyInV_at, qFld, fldV_at, qNil, qCons, qTup, qLst, qCB, qUn, unV_d, qSl, qoNo, qoSome, qCallP, qCallT, qIsi, qChain, qNewL, qListNew, qTupleOf, qFrz, qLc, qYes, oneV_d, oneV_new, wipeS, xgName, xgNil, xgCons, xgTup, xiList, xiTup, xiAny, xiRng1, xiRng2, xiRng3, xiStr, xiEnum, xTest, xNot, xAnd, xOr, xOp, opX_d, vw, vwL, asD, itemsOf, proj_un, proj_d, proj_tape, proj_exc, proj_at, killR_un, killR_d, killR_tape, killR_exc, killR_at, killH, reduceIte, Nat.reduceEqDiff, Nat.reduceAdd, Nat.reduceLT, Nat.zero_le, true_and, Nat.zero_ne_one, Nat.one_ne_zero, List.map_cons, List.map_nil, List.append_nil, aSeq, aSet, aRet, aRetN, aDrop, aIfS, aNext, aTest, aOp, aUn, aVar, aC, aCons, aNil, aCall, aCallT, aTup, aLst, aAnd, aOr, aNot, aAndV, aOrV, aNotV, aIf, aTru, aOrT, aM1, aM0, aSl, aoSome, aoNo, aLc, aFor, aWhile, aiRng1, aiRng2, aiRng3, aiList, aiTup, aiStr, aiEnum, agName, agTup, agCons, agNil, atYes, aAsg, aChain, aIsi, fI0_int, fI_int, fNeg, fAdd_int, fAdd_str, fAdd_tup, fAdd_lst, fLen_str, fLen_lst, fLen_tup, fTuple_lst, fTuple_tup, fList_lst, fList_tup, fSl_tup, fSl_lst, fSl_str, fInt_int, fInt_bool, fMax2_int, fMin2_int, fMulP, fInG, aiAny, aListRg1, aiEnumT, aDGet, aIsi2, aRevL, aRevT, aAndT, fStrip, fIsN_n, fNotN_n, fIsB_b, fNotB_b, wipeE, List.getElem?_cons_succ, List.getElem?_cons_zero, List.set_cons_succ, List.set_cons_zero, eq_int, ne_int, if_true, decide_eq_true_eq, List.length_cons, List.length_nil, Option.some.injEq, exists_eq_left', lstM_eq, lstM_lst, view_lstM, List.length_map, Bool.false_eq_true, if_false])
open PySem L2 Fc Fe in
local macro_rules | `(tactic| walk_at "vr") => `(tactic| simp only [zSeq, zFor, xiRng3, qCons, qLift, qNil, aUn, aC, fNeg, aCall, aCons, aNil, aVar, proj_d, proj_at, proj_un, List.map_cons, List.map_nil, List.getElem?_cons_zero, List.getElem?_cons_succ, fLen_tup, fLen_lst, xgName, setV_d])
open PySem L2 Fc Fe in
local macro_rules | `(tactic| walk_at "vz") => `(tactic| simp only [qKeyInN, keyInNV_at, qSortLS, qSortDSA, qNewL2, twoV_new, zInsert, insV_d, zRaise, qNewD, zPutKey, qGet2, qIsN, isNV_d, isNV_at, isNV_new, isNV_exc, qIsX, isXV_exc, zExtend, extV_d, qSortP, qSortDI, qSortDS, listOf_d, listOf_at, listOf_new, keysOf, qCallG, argsOf, argOf, rootsOf, rootsM, retRV, retX, rtP, ixt0, ixt1, ixt2, ixl0, ixl1, draw_eq, aline_eq, abody_eq, bodyD, zSeq, zNext, zBreak, zCont, zRet, zRetN, zDrop, zIf, zSet, setV_d, setV_at, setV_exc, zSetNew, zAsg, zAug, zFor, zWhile, zFreeze, zAppend, appV_d, appV_new, zSetAt, setAtV_at, q2x, q2xt, qLift, qLiftT, qVar, child_d, child_nd, qOp, opV_d, opV_at, opV_dat, opV_new, opV_dnew, qTest, tstV_b, qTru, qAnd, qOr, qNot, qAndV, qOrV, qNotV, qIf, qIx, ixV_d, qKey, keyV_d, keyV_at, qKeyIn, keyInV_at, qFld, fldV_at, qNil, qCons, qTup, qLst, qCB, qUn, unV_d, qSl, qoNo, qoSome, qCallP, qCallT, qIsi, qChain, qNewL, qListNew, qTupleOf, qFrz, qLc, qYes, oneV_d, oneV_new, wipeS, xgName, xgNil, xgCons, xgTup, xiList, xiTup, xiAny, xiRng1, xiRng2, xiRng3, xiStr, xiEnum, xTest, xNot, xAnd, xOr, xOp, opX_d, vw, vwL, asD, itemsOf, proj_un, proj_d, proj_tape, proj_exc, proj_at, killR_un, killR_d, killR_tape, killR_exc, killR_at, killH, reduceIte, Nat.reduceEqDiff, Nat.reduceAdd, Nat.reduceLT, Nat.zero_le, true_and, Nat.zero_ne_one, Nat.one_ne_zero, List.map_cons, List.map_nil, List.append_nil, aSeq, aSet, aRet, aRetN, aDrop, aIfS, aNext, aTest, aOp, aUn, aVar, aC, aCons, aNil, aCall, aCallT, aTup, aLst, aAnd, aOr, aNot, aAndV, aOrV, aNotV, aIf, aTru, aOrT, aM1, aM0, aSl, aoSome, aoNo, aLc, aFor, aWhile, aiRng1, aiRng2, aiRng3, aiList, aiTup, aiStr, aiEnum, agName, agTup, agCons, agNil, atYes, aAsg, aChain, aIsi, fI0_int, fI_int, fNeg, fAdd_int, fAdd_str, fAdd_tup, fAdd_lst, fLen_str, fLen_lst, fLen_tup, fTuple_lst, fTuple_tup, fList_lst, fList_tup, fSl_tup, fSl_lst, fSl_str, fInt_int, fInt_bool, fMax2_int, fMin2_int, fMulP, fInG, aiAny, aListRg1, aiEnumT, aDGet, aIsi2, aRevL, aRevT, aAndT, fStrip, fIsN_n, fNotN_n, fIsB_b, fNotB_b, wipeE, List.getElem?_cons_succ, List.getElem?_cons_zero, List.set_cons_succ, List.set_cons_zero, eq_int, ne_int, if_true, decide_eq_true_eq, List.length_cons, List.length_nil, Option.some.injEq, exists_eq_left', subM, M.sub, putM, M.put, lstM_eq, lstM_lst, view_lstM, List.length_map, Bool.false_eq_true, if_false])
open PySem L2 Fc Fe in
local macro_rules | `(tactic| walk_at "vd") => `(tactic| simp only [aExtend, aExtendT, aIndex, aSortSet, aSeq, aSet, aRet, aRetN, aDrop, aIfS, aNext, aTest, aOp, aUn, aVar, aC, aCons, aNil, aCall, aCallT, aTup, aLst, aAnd, aOr, aNot, aAndV, aOrV, aNotV, aIf, aTru, aOrT, aM1, aM0, aSl, aoSome, aoNo, aLc, aFor, aWhile, aiRng1, aiRng2, aiRng3, aiList, aiTup, aiStr, aiEnum, agName, agTup, agCons, agNil, atYes, aAsg, aChain, aIsi, fI0, fI, fNeg, fAdd, fLen, fTuple, fList, fSl, fInt, fMax2, fMin2, fMulP, fInG, aSetOwnLst, aSetOwnList, aSetOwnRev, aAppend, aSetAt, aPop, aInsert, aFreeze, aRetOwn, aAug, aLenV, aIxOwn, aiAny, aListRg1, aiEnumT, aSetDic, aDPut, aFreezeD, aDGet, aIsi2, aRevL, aRevT, aAndT, aBreak, aCont, fStrip, fIsN, fNotN, wipeE, List.getElem?_cons_succ, List.getElem?_cons_zero, List.set_cons_succ, List.set_cons_zero, bodyD, ixt0, ixt1, ixt2, ixl0, ixl1, eq_int, ne_int, whole_eq, draw_eq, aline_eq, abody_eq, if_true, decide_eq_true_eq, List.length_cons, List.length_nil])
open PySem L2 Fc Fe in
local macro_rules | `(tactic| walk_at "vw") => `(tactic| simp only [qKeyT, keyTV_x, keyTV_d, qWix, wixV_x, zForW, awSort, qNewDT, zAppendX, xDefT, qkCall, qkTup, qLcY, yiList, qIx, ixV_at, qKeyInN, keyInNV_at, qSortLS, qSortDSA, qNewL2, twoV_new, zInsert, insV_d, zRaise, qNewD, zPutKey, qGet2, qIsN, isNV_d, isNV_at, isNV_new, isNV_exc, qIsX, isXV_exc, zExtend, extV_d, qSortP, qSortDI, qSortDS, listOf_d, listOf_at, listOf_new, keysOf, qCallG, argsOf, argOf, rootsOf, rootsM, retRV, retX, rtP, ixt0, ixt1, ixt2, ixl0, ixl1, draw_eq, aline_eq, abody_eq, bodyD, zSeq, zNext, zBreak, zCont, zRet, zRetN, zDrop, zIf, zSet, setV_d, setV_at, setV_exc, zSetNew, zAsg, zAug, zFor, zWhile, zFreeze, zAppend, appV_d, appV_new, zSetAt, setAtV_at, q2x, q2xt, qLift, qLiftT, qVar, child_d, child_nd, qOp, opV_d, opV_at, opV_dat, opV_new, opV_dnew, qTest, tstV_b, qTru, qAnd, qOr, qNot, qAndV, qOrV, qNotV, qIf, qIx, ixV_d, qKey, keyV_d, keyV_at, qKeyIn, keyInV_at, qFld, fldV_at, qNil, qCons, qTup, qLst, qCB, qUn, unV_d, qSl, qoNo, qoSome, qCallP, qCallT, qIsi, qChain, qNewL, qListNew, qTupleOf, qFrz, qLc, qYes, oneV_d, oneV_new, wipeS, xgName, xgNil, xgCons, xgTup, xiList, xiTup, xiAny, xiRng1, xiRng2, xiRng3, xiStr, xiEnum, xTest, xNot, xAnd, xOr, xOp, opX_d, vw, vwL, asD, itemsOf, proj_un, proj_d, proj_tape, proj_exc, proj_at, killR_un, killR_d, killR_tape, killR_exc, killR_at, killH, reduceIte, Nat.reduceEqDiff, Nat.reduceAdd, Nat.reduceLT, Nat.zero_le, true_and, Nat.zero_ne_one, Nat.one_ne_zero, List.map_cons, List.map_nil, List.append_nil, aSeq, aSet, aRet, aRetN, aDrop, aIfS, aNext, aTest, aOp, aUn, aVar, aC, aCons, aNil, aCall, aCallT, aTup, aLst, aAnd, aOr, aNot, aAndV, aOrV, aNotV, aIf, aTru, aOrT, aM1, aM0, aSl, aoSome, aoNo, aLc, aFor, aWhile, aiRng1, aiRng2, aiRng3, aiList, aiTup, aiStr, aiEnum, agName, agTup, agCons, agNil, atYes, aAsg, aChain, aIsi, fI0_int, fI_int, fNeg, fAdd_int, fAdd_str, fAdd_tup, fAdd_lst, fLen_str, fLen_lst, fLen_tup, fTuple_lst, fTuple_tup, fList_lst, fList_tup, fSl_tup, fSl_lst, fSl_str, fInt_int, fInt_bool, fMax2_int, fMin2_int, fMulP, fInG, aiAny, aListRg1, aiEnumT, aDGet, aIsi2, aRevL, aRevT, aAndT, fStrip, fIsN_n, fNotN_n, fIsB_b, fNotB_b, wipeE, List.getElem?_cons_succ, List.getElem?_cons_zero, List.set_cons_succ, List.set_cons_zero, eq_int, ne_int, if_true, decide_eq_true_eq, List.length_cons, List.length_nil, Option.some.injEq, exists_eq_left', subM, M.sub, putM, M.put, lstM_eq, lstM_lst, view_lstM, List.length_map, Bool.false_eq_true, if_false])
namespace Lw
open PySem PySem.Spec PyProof.Rows L2 Fc Fe
def topS (i : Nat) : Stmt := PySem.Challenge.pw_faircopy_k32_whole_draft_texts_spoilt.main.body.getD i (.Pass ⟨0, 0, 0, 0⟩)
abbrev s_is_number : Stmt := topS 4
abbrev N_is_number : List Str := ["thing"]
abbrev ps_is_number : List Str := ["thing"]
theorem sc_is_number : FnScope N_is_number ps_is_number (defScope s_is_number) := ⟨rfl, rfl, rfl, by decide +kernel, rfl, by decide +kernel, by decide +kernel⟩
abbrev s_is_line : Stmt := topS 5
abbrev N_is_line : List Str := ["thing", "sign"]
abbrev ps_is_line : List Str := ["thing"]
theorem sc_is_line : FnScope N_is_line ps_is_line (defScope s_is_line) := ⟨rfl, rfl, rfl, by decide +kernel, rfl, by decide +kernel, by decide +kernel⟩
abbrev s_is_body : Stmt := topS 6
abbrev N_is_body : List Str := ["thing", "line"]
abbrev ps_is_body : List Str := ["thing"]
theorem sc_is_body : FnScope N_is_body ps_is_body (defScope s_is_body) := ⟨rfl, rfl, rfl, by decide +kernel, rfl, by decide +kernel, by decide +kernel⟩
abbrev s_place_of : Stmt := topS 37
abbrev N_place_of : List Str := ["edit"]
abbrev ps_place_of : List Str := ["edit"]
theorem sc_place_of : FnScope N_place_of ps_place_of (defScope s_place_of) := ⟨rfl, rfl, rfl, by decide +kernel, rfl, by decide +kernel, by decide +kernel⟩
abbrev s_is_edit : Stmt := topS 38
abbrev N_is_edit : List Str := ["thing", "many", "word", "k"]
abbrev ps_is_edit : List Str := ["thing", "many"]
theorem sc_is_edit : FnScope N_is_edit ps_is_edit (defScope s_is_edit) := ⟨rfl, rfl, rfl, by decide +kernel, rfl, by decide +kernel, by decide +kernel⟩
abbrev s_is_draft : Stmt := topS 39
abbrev N_is_draft : List Str := ["body", "thing", "edit", "places", "k"]
abbrev ps_is_draft : List Str := ["body", "thing"]
theorem sc_is_draft : FnScope N_is_draft ps_is_draft (defScope s_is_draft) := ⟨rfl, rfl, rfl, by decide +kernel, rfl, by decide +kernel, by decide +kernel⟩
abbrev s_body_text : Stmt := topS 44
abbrev N_body_text : List Str := ["body", "line"]
abbrev ps_body_text : List Str := ["body"]
theorem sc_body_text : FnScope N_body_text ps_body_text (defScope s_body_text) := ⟨rfl, rfl, rfl, by decide +kernel, rfl, by decide +kernel, by decide +kernel⟩
abbrev s_edit_text : Stmt := topS 45
abbrev N_edit_text : List Str := ["edit"]
abbrev ps_edit_text : List Str := ["edit"]
theorem sc_edit_text : FnScope N_edit_text ps_edit_text (defScope s_edit_text) := ⟨rfl, rfl, rfl, by decide +kernel, rfl, by decide +kernel, by decide +kernel⟩
abbrev s_draft_text : Stmt := topS 46
abbrev N_draft_text : List Str := ["draft", "edit"]
abbrev ps_draft_text : List Str := ["draft"]
theorem sc_draft_text : FnScope N_draft_text ps_draft_text (defScope s_draft_text) := ⟨rfl, rfl, rfl, by decide +kernel, rfl, by decide +kernel, by decide +kernel⟩
abbrev s_need_text : Stmt := topS 47
abbrev N_need_text : List Str := ["text"]
abbrev ps_need_text : List Str := ["text"]
theorem sc_need_text : FnScope N_need_text ps_need_text (defScope s_need_text) := ⟨rfl, rfl, rfl, by decide +kernel, rfl, by decide +kernel, by decide +kernel⟩
abbrev s_read_number : Stmt := topS 48
abbrev N_read_number : List Str := ["word", "sign"]
abbrev ps_read_number : List Str := ["word"]
theorem sc_read_number : FnScope N_read_number ps_read_number (defScope s_read_number) := ⟨rfl, rfl, rfl, by decide +kernel, rfl, by decide +kernel, by decide +kernel⟩
abbrev s_read_body : Stmt := topS 49
abbrev N_read_body : List Str := ["text", "body"]
abbrev ps_read_body : List Str := ["text"]
theorem sc_read_body : FnScope N_read_body ps_read_body (defScope s_read_body) := ⟨rfl, rfl, rfl, by decide +kernel, rfl, by decide +kernel, by decide +kernel⟩
abbrev s_read_edit : Stmt := topS 50
abbrev N_read_edit : List Str := ["text", "figures", "k", "sign", "rest"]
abbrev ps_read_edit : List Str := ["text"]
theorem sc_read_edit : FnScope N_read_edit ps_read_edit (defScope s_read_edit) := ⟨rfl, rfl, rfl, by decide +kernel, rfl, by decide +kernel, by decide +kernel⟩
abbrev s_read_draft : Stmt := topS 51
abbrev N_read_draft : List Str := ["text", "draft", "part"]
abbrev ps_read_draft : List Str := ["text"]
theorem sc_read_draft : FnScope N_read_draft ps_read_draft (defScope s_read_draft) := ⟨rfl, rfl, rfl, by decide +kernel, rfl, by decide +kernel, by decide +kernel⟩
abbrev s_law_draw : Stmt := topS 53
abbrev N_law_draw : List Str := ["tape", "many", "prime", "cell", "found"]
abbrev ps_law_draw : List Str := ["tape", "many"]
theorem sc_law_draw : FnScope N_law_draw ps_law_draw (defScope s_law_draw) := ⟨rfl, rfl, rfl, by decide +kernel, rfl, by decide +kernel, by decide +kernel⟩
abbrev s_law_whole : Stmt := topS 54
abbrev N_law_whole : List Str := ["item"]
abbrev ps_law_whole : List Str := ["item"]
theorem sc_law_whole : FnScope N_law_whole ps_law_whole (defScope s_law_whole) := ⟨rfl, rfl, rfl, by decide +kernel, rfl, by decide +kernel, by decide +kernel⟩
abbrev s_law_word : Stmt := topS 55
abbrev N_law_word : List Str := ["e", "some", "words", "word", "fits"]
abbrev ps_law_word : List Str := ["e"]
theorem sc_law_word : FnScope N_law_word ps_law_word (defScope s_law_word) := ⟨rfl, rfl, rfl, by decide +kernel, rfl, by decide +kernel, by decide +kernel⟩
abbrev s_law_a_line : Stmt := topS 56
abbrev N_law_a_line : List Str := ["tape", "way", "notes", "k"]
abbrev ps_law_a_line : List Str := ["tape"]
theorem sc_law_a_line : FnScope N_law_a_line ps_law_a_line (defScope s_law_a_line) := ⟨rfl, rfl, rfl, by decide +kernel, rfl, by decide +kernel, by decide +kernel⟩
abbrev s_law_an_edit : Stmt := topS 57
abbrev N_law_an_edit : List Str := ["tape", "many", "k", "second", "j"]
abbrev ps_law_an_edit : List Str := ["tape", "many", "k", "second"]
theorem sc_law_an_edit : FnScope N_law_an_edit ps_law_an_edit (defScope s_law_an_edit) := ⟨rfl, rfl, rfl, by decide +kernel, rfl, by decide +kernel, by decide +kernel⟩
abbrev s_law_a_draft : Stmt := topS 58
abbrev N_law_a_draft : List Str := ["tape", "many", "often", "found", "k", "second"]
abbrev ps_law_a_draft : List Str := ["tape", "many", "often"]
theorem sc_law_a_draft : FnScope N_law_a_draft ps_law_a_draft (defScope s_law_a_draft) := ⟨rfl, rfl, rfl, by decide +kernel, rfl, by decide +kernel, by decide +kernel⟩
abbrev s_law_any : Stmt := topS 59
abbrev N_law_any : List Str := ["tape", "deep", "way", "some", "k"]
abbrev ps_law_any : List Str := ["tape", "deep"]
theorem sc_law_any : FnScope N_law_any ps_law_any (defScope s_law_any) := ⟨rfl, rfl, rfl, by decide +kernel, rfl, by decide +kernel, by decide +kernel⟩
abbrev s_law_is_line : Stmt := topS 60
abbrev N_law_is_line : List Str := ["item", "sign"]
abbrev ps_law_is_line : List Str := ["item"]
theorem sc_law_is_line : FnScope N_law_is_line ps_law_is_line (defScope s_law_is_line) := ⟨rfl, rfl, rfl, by decide +kernel, rfl, by decide +kernel, by decide +kernel⟩
abbrev s_law_is_body : Stmt := topS 61
abbrev N_law_is_body : List Str := ["item", "one"]
abbrev ps_law_is_body : List Str := ["item"]
theorem sc_law_is_body : FnScope N_law_is_body ps_law_is_body (defScope s_law_is_body) := ⟨rfl, rfl, rfl, by decide +kernel, rfl, by decide +kernel, by decide +kernel⟩
abbrev s_law_is_edit : Stmt := topS 62
abbrev N_law_is_edit : List Str := ["item", "many"]
abbrev ps_law_is_edit : List Str := ["item", "many"]
theorem sc_law_is_edit : FnScope N_law_is_edit ps_law_is_edit (defScope s_law_is_edit) := ⟨rfl, rfl, rfl, by decide +kernel, rfl, by decide +kernel, by decide +kernel⟩
abbrev s_law_is_draft : Stmt := topS 63
abbrev N_law_is_draft : List Str := ["item", "many", "one", "places", "edit"]
abbrev ps_law_is_draft : List Str := ["item", "many"]
theorem sc_law_is_draft : FnScope N_law_is_draft ps_law_is_draft (defScope s_law_is_draft) := ⟨rfl, rfl, rfl, by decide +kernel, rfl, by decide +kernel, by decide +kernel⟩
abbrev s_law_tried : Stmt := topS 64
abbrev N_law_tried : List Str := ["text", "error", "found", "e"]
abbrev ps_law_tried : List Str := ["text"]
theorem sc_law_tried : FnScope N_law_tried ps_law_tried (defScope s_law_tried) := ⟨rfl, rfl, rfl, by decide +kernel, rfl, by decide +kernel, by decide +kernel⟩
abbrev s_law_edit : Stmt := topS 65
abbrev N_law_edit : List Str := ["text", "number", "k", "sign", "rest", "body", "line"]
abbrev ps_law_edit : List Str := ["text"]
theorem sc_law_edit : FnScope N_law_edit ps_law_edit (defScope s_law_edit) := ⟨rfl, rfl, rfl, by decide +kernel, rfl, by decide +kernel, by decide +kernel⟩
abbrev s_law_due : Stmt := topS 66
abbrev N_law_due : List Str := ["text", "edits", "part", "draft"]
abbrev ps_law_due : List Str := ["text"]
theorem sc_law_due : FnScope N_law_due ps_law_due (defScope s_law_due) := ⟨rfl, rfl, rfl, by decide +kernel, rfl, by decide +kernel, by decide +kernel⟩
abbrev s_law : Stmt := topS 67
abbrev N_law : List Str := ["script", "tape", "turn", "text", "parts", "items", "bend", "some", "change", "k", "sign", "item", "found"]
abbrev ps_law : List Str := ["script"]
theorem sc_law : FnScope N_law ps_law (defScope s_law) := ⟨rfl, rfl, rfl, by decide +kernel, rfl, by decide +kernel, by decide +kernel⟩
def a_law_a_line_5 : AS :=
  (aRet (aOrT (aM1 fStrip (aM1 fJoin (aC (.str (Str.ofString ""))) (aLc (aiRng1 (aCons (aOp fIx (aLst (aCons (aC (.int 30)) (aCons (aC (.int 9)) aNil))) (aOp fSub (aVar 1) (aC (.int 2)))) aNil)) (agName 3) atYes (aOp fIx (aVar 2) (aCallT ds_law_draw 0 (aCons (aC (.int 27)) aNil))) [3])) (aC (.str (Str.ofString " ")))) (aC (.str (Str.ofString "z")))))
def a_law_a_line_4 : AS :=
  (aSeq (aSet 2 (aC (.str (Str.ofString "abcdefghijklmnopqrstuvwxyz "))))
      a_law_a_line_5)
def a_law_a_line_2 : AS :=
  (aSeq (aIfS (aTest (aOp fLt (aVar 1) (aC (.int 2))))
      (aRet (aOp fIx (aLst (aCons (aC (.str (Str.ofString "a"))) (aCons (aC (.str (Str.ofString "b"))) (aCons (aC (.str (Str.ofString "ab"))) (aCons (aC (.str (Str.ofString "a b"))) (aCons (aC (.str (Str.ofString "b a"))) aNil)))))) (aCallT ds_law_draw 0 (aCons (aC (.int 5)) aNil))))
      aNext)
      a_law_a_line_4)
def a_law_a_line : AS :=
  (aSeq (aSet 1 (aCallT ds_law_draw 0 (aCons (aC (.int 4)) aNil)))
      a_law_a_line_2)
theorem vc_law_a_line : ∀ ds Qd, ds_law_a_line ds Qd → a_law_a_line { nx := fun _ => Qd .none, rt := Qd } (startE N_law_a_line.length (.tape :: ds.map Cell.d)) := by
  rintro ds Qd ⟨rfl, hq⟩
  show a_law_a_line _ [.tape, .un, .un, .un]
  unfold a_law_a_line
  walk_at "vc"
  refine ⟨by decide, by decide, fun w w0 w1 => ?_⟩
  unfold a_law_a_line_2
  walk_at "vc"
  split
  · refine ⟨by decide, by decide, by decide, fun r r0 r1 => ix_list r0 (by simpa using r1) fun d hd => ?_⟩
    have hm := mem_get hd
    simp only [List.mem_cons, List.not_mem_nil, or_false] at hm
    rcases hm with rfl | rfl | rfl | rfl | rfl <;> exact hq _ (lineB_iff.mp (by decide +kernel))
  · unfold a_law_a_line_4
    walk_at "vc"
    unfold a_law_a_line_5
    walk_at "vc"
    refine ⟨by decide, ix_list (by omega) (by simp; omega) fun d hd => ?_⟩
    have hm := mem_get hd
    simp only [List.mem_cons, List.not_mem_nil, or_false] at hm
    have key : ∀ j : Int, 0 ≤ j → j ≤ 30 → InRg j ∧ (rngD 0 j.toNat).length ≤ sizeLine ∧ ∃ I : Nat → List D → Prop, I 0 [] ∧ (∀ (i : Nat) (d : D) (acc : List D), (rngD 0 j.toNat)[i]? = some d → I i acc → 0 < (27 : Int) ∧ (27 : Int) < 2 ^ 200 ∧ ∀ (r : Int), 0 ≤ r → r < 27 → fIx (PyData.str (Str.ofString "abcdefghijklmnopqrstuvwxyz ")) (PyData.int r) fun y => I (i + 1) (acc ++ [y])) ∧
        ∀ (acc : List D), I (rngD 0 j.toNat).length acc → fJoin (Str.ofString "") (PyData.list acc) fun x => match x with
          | PyData.str u => u.length ≤ sizeLine ∧ truOk (PyData.str (Txt.stripChars u (Str.ofString " "))) ∧ if truD (PyData.str (Txt.stripChars u (Str.ofString " "))) = true then Qd (PyData.str (Txt.stripChars u (Str.ofString " "))) else Qd (PyData.str (Str.ofString "z"))
          | x => False := fun j j0 j1 => by
      refine ⟨⟨by omega, by omega⟩, by rw [rngD_len]; exact sl_of (by omega), fun i acc => acc.length = i ∧ ∀ y ∈ acc, ∃ k, signL k = true ∧ y = .str ⟨#[k]⟩, ⟨rfl, fun _ h => nomatch h⟩, fun i d acc _ hI => ⟨by decide, by decide, fun r r0 r1 => ix_str (by decide +kernel) r0 r1 fun k hk => ⟨by rw [List.length_append, hI.1]; rfl, all_snoc hI.2 ⟨k, ?_, rfl⟩⟩⟩, fun acc hI => ?_⟩
      · have hm := mem_get hk
        have e : (cl (Str.ofString "abcdefghijklmnopqrstuvwxyz ")).all signL = true := by decide +kernel
        exact List.all_eq_true.mp e k hm
      · rw [rngD_len] at hI
        obtain ⟨l, rfl, hl⟩ := signs_of hI.2
        have hn : l.length = j.toNat := by have h := hI.1; rwa [List.length_map] at h
        have e0 : (Str.ofString "") = ⟨#[]⟩ := by decide +kernel
        have ejl := join_signs l
        refine ⟨l.map fun k => ⟨#[k]⟩, .inl (by rw [List.map_map]; rfl), by rw [sum_ones, List.length_map, e0]; show l.length + l.length * 0 ≤ _; omega, ?_⟩
        rw [e0]
        generalize Txt.join ⟨#[]⟩ (l.map fun k => (⟨#[k]⟩ : Str)) = u at ejl
        have hu : u.length ≤ 30 := by rw [← cl_len, ejl]; omega
        have es := cl_strip u (Str.ofString " ")
        rw [ejl] at es
        have hs : (Txt.stripChars u (Str.ofString " ")).length ≤ 30 := by
          rw [← cl_len, es]; exact Nat.le_trans (strip_len _ _) (by omega)
        refine ⟨sl_of (by omega), show (Txt.stripChars u (Str.ofString " ")).length ≤ sizeLine from sl_of (by omega), ?_⟩
        split
        · rename_i ht
          refine hq _ ?_
          show LineL (cl (Txt.stripChars u (Str.ofString " ")))
          rw [es]
          refine line_strip (by decide +kernel) (by omega) hl fun e => ?_
          rw [e] at es
          have : (Txt.stripChars u (Str.ofString " ")).length = 0 := by rw [← cl_len, es]; rfl
          simp [truD, this] at ht
        · exact hq _ (lineB_iff.mp (by decide +kernel))
    rcases hm with rfl | rfl
    · exact key 30 (by decide) (by decide)
    · exact key 9 (by decide) (by decide)
def a_is_line_5 : AS :=
  (aRet (aCall fAll (aCons (aLc (aiStr (aVar 0)) (agName 1) atYes (aOrV (aOp fInS (aVar 1) (aC (.str (Str.ofString "abcdefghijklmnopqrstuvwxyz")))) (aOp fEq (aVar 1) (aC (.str (Str.ofString " "))))) [1]) aNil)))
def a_is_line_3 : AS :=
  (aSeq (aIfS (aOr (aTest (aOp fEq (aOp fIx (aVar 0) (aC (.int 0))) (aC (.str (Str.ofString " "))))) (aTest (aOp fEq (aOp fIx (aVar 0) (aUn fNeg (aC (.int 1)))) (aC (.str (Str.ofString " "))))))
      (aRet (aC (.bool false)))
      aNext)
      a_is_line_5)
def a_is_line : AS :=
  (aSeq (aIfS (aOr (aNot (aTest (aIsi "str" (aVar 0)))) (aOr (aTest (aOp fLt (aCall fLen (aCons (aVar 0) aNil)) (aC (.int 1)))) (aTest (aOp fGt (aCall fLen (aCons (aVar 0) aNil)) (aC (.int 30))))))
      (aRet (aC (.bool false)))
      aNext)
      a_is_line_3)
def a_is_body_3 : AS :=
  (aRet (aCall fAll (aCons (aLc (aiTup (aVar 0)) (agName 1) atYes (aCall ds_is_line (aCons (aVar 1) aNil)) [1]) aNil)))
def a_is_body : AS :=
  (aSeq (aIfS (aOr (aNot (aTest (aIsi "tuple" (aVar 0)))) (aTest (aOp fGt (aCall fLen (aCons (aVar 0) aNil)) (aC (.int 60)))))
      (aRet (aC (.bool false)))
      aNext)
      a_is_body_3)
theorem vc_is_line : ∀ ds Qd, ds_is_line ds Qd → a_is_line { nx := fun _ => Qd .none, rt := Qd } (startE N_is_line.length (ds.map Cell.d)) := by
  rintro ds Qd ⟨d, n, L, rfl, hd, hn, hL, hq⟩
  show a_is_line _ [.d d, .un]
  unfold a_is_line
  walk_at "vc"
  refine ⟨isStr d, kit_str hd.nd, ?_⟩
  cases hd with
  | @str _ _ x hl hok =>
    refine ite_no (show ¬ (!true) = true by decide) ?_
    have hsz : x.length ≤ sizeLine := sl_of (by omega)
    have hb : isLineD (.str x) = lineB (cl x) := rfl
    walk_at "vc"
    refine ⟨hsz, ?_⟩
    have hcl := cl_len x
    by_cases h1 : (x.length : Int) < 1
    · rw [if_pos h1]
      have e : cl x = [] := List.eq_nil_of_length_eq_zero (by omega)
      rw [hb, e] at hq
      exact hq
    · rw [if_neg h1]
      refine ⟨hsz, ?_⟩
      by_cases h2 : (30 : Int) < (x.length : Int)
      · rw [if_pos h2]
        have e : lineB (cl x) = false := by
          cases hh : lineB (cl x) with
          | false => rfl
          | true => have := (lineB_iff.mp hh).len; omega
        rw [hb, e] at hq
        exact hq
      · rw [if_neg h2]
        have hne : cl x ≠ [] := fun z => by rw [z] at hcl; simp at hcl; omega
        obtain ⟨a, ha⟩ : ∃ a, (cl x).head? = some a := by
          cases hc : cl x with
          | nil => exact absurd hc hne
          | cons a r => exact ⟨a, rfl⟩
        obtain ⟨b, hb2⟩ : ∃ b, (cl x).getLast? = some b := ⟨_, List.getLast?_eq_some_getLast hne⟩
        unfold a_is_line_3
        walk_at "vc"
        have no : ∀ k, ((cl x).head? = some k ∨ (cl x).getLast? = some k) → k = 32 → Qd (.bool false) := fun k hk ek => by
          have e : lineB (cl x) = false := by
            cases hh : lineB (cl x) with
            | false => rfl
            | true =>
              have := lineB_iff.mp hh
              subst ek
              rcases hk with hk | hk
              · exact absurd hk this.hd
              · exact absurd hk this.lst
          rw [hb, e] at hq
          exact hq
        refine ixs_first hsz ha (eq_str ?_)
        rw [one_blank]
        by_cases ea : a = 32
        · rw [show (a == 32) = true from by simpa using ea]
          exact ite_yes rfl (no a (.inl ha) ea)
        · rw [show (a == 32) = false from by simpa using ea]
          refine ite_no Bool.false_ne_true ?_
          refine ixs_last hsz hb2 (eq_str ?_)
          rw [one_blank]
          by_cases eb : b = 32
          · rw [show (b == 32) = true from by simpa using eb]
            exact ite_yes rfl (no b (.inr hb2) eb)
          · rw [show (b == 32) = false from by simpa using eb]
            refine ite_no Bool.false_ne_true ?_
            unfold a_is_line_5
            walk_at "vc"
            refine ⟨by rw [signs_len]; exact hsz, fun i acc => acc = ((cl x).take i).map fun k => PyData.bool (signL k), rfl, ?_, ?_⟩
            · rintro i d acc hdi rfl
              obtain ⟨k, hk, rfl⟩ := signs_at hdi
              refine ⟨k, _, rfl, rfl, ?_⟩
              dsimp only
              rw [in_small, take_at hk, List.map_append]
              cases hs : smallS k with
              | true =>
                refine ite_yes rfl ?_
                have : signL k = true := by unfold signL; rw [hs]; rfl
                simp [this]
              | false =>
                refine ite_no Bool.false_ne_true (eq_str ?_)
                rw [one_blank]
                have : signL k = (k == 32) := by unfold signL; rw [hs]; rfl
                simp [this]
            · rintro acc rfl
              rw [signs_len, show x.cps.size = (cl x).length from (cl_len x).symm, List.take_length]
              refine ⟨(cl x).map signL, by rw [List.map_map]; rfl, ?_⟩
              have e : ((cl x).map signL).all id = lineB (cl x) := by
                rw [List.all_map]
                show (cl x).all signL = _
                cases hh : (cl x).all signL with
                | true => exact (lineB_iff.mpr ⟨hne, by omega, fun k hk => List.all_eq_true.mp hh k hk, fun z => ea (by rw [ha] at z; exact Option.some.inj z), fun z => eb (by rw [hb2] at z; exact Option.some.inj z)⟩).symm
                | false =>
                  cases hh2 : lineB (cl x) with
                  | false => rfl
                  | true =>
                    have := List.all_eq_true.mpr (lineB_iff.mp hh2).all
                    rw [hh] at this; cases this
              rw [e, ← hb]
              exact hq
  | _ => exact ite_yes (show (!false) = true by decide) hq
theorem vc_is_body : ∀ ds Qd, ds_is_body ds Qd → a_is_body { nx := fun _ => Qd .none, rt := Qd } (startE N_is_body.length (ds.map Cell.d)) := by
  rintro ds Qd ⟨d, n, L, rfl, hd, hn, hL, hq⟩
  show a_is_body _ [.d d, .un]
  unfold a_is_body
  walk_at "vc"
  refine ⟨isTup d, kit_tup hd.nd, ?_⟩
  cases hd with
  | @tuple m _ xs hl hx =>
    refine ite_no (show ¬ (!true) = true by decide) ?_
    walk_at "vc"
    have hb : isBodyD (.tuple xs) = (decide (xs.length ≤ 60) && xs.all isLineD) := rfl
    by_cases h1 : (60 : Int) < (xs.length : Int)
    · rw [if_pos h1]
      rw [hb, decide_eq_false (by omega)] at hq
      exact hq
    · rw [if_neg h1]
      rw [hb, decide_eq_true (by omega), Bool.true_and] at hq
      unfold a_is_body_3
      walk_at "vc"
      refine ⟨sl_of (by omega), fun i acc => acc = (xs.take i).map fun y => PyData.bool (isLineD y), rfl, ?_, ?_⟩
      · rintro i d acc hdi rfl
        refine dsof (hx d (mem_get hdi)) (by omega) hL ?_
        dsimp only
        rw [take_at hdi, List.map_append]; rfl
      · rintro acc rfl
        rw [List.take_length]
        refine ⟨xs.map isLineD, by rw [List.map_map]; rfl, ?_⟩
        rw [List.all_map]
        exact hq
  | _ => exact ite_yes (show (!false) = true by decide) hq
def a_is_number : AS :=
  (aRet (aAndV (aIsi "int" (aVar 0)) (aNotV (aIsi "bool" (aVar 0)))))
def a_place_of : AS :=
  (aRet (aTup (aCons (aOp fIx (aVar 0) (aC (.int 1))) (aCons (aCall fInt (aCons (aOp fNe (aOp fIx (aVar 0) (aC (.int 0))) (aC (.str (Str.ofString "put")))) aNil)) aNil))))
def a_is_edit_10 : AS :=
  (aRet (aAndV (aOp fEq (aVar 2) (aC (.str (Str.ofString "put")))) (aAndV (aOp fLe (aVar 3) (aVar 1)) (aAndV (aCall ds_is_body (aCons (aOp fIx (aVar 0) (aC (.int 2))) aNil)) (aAndV (aOp fLe (aC (.int 1)) (aCall fLen (aCons (aOp fIx (aVar 0) (aC (.int 2))) aNil))) (aOp fLe (aCall fLen (aCons (aOp fIx (aVar 0) (aC (.int 2))) aNil)) (aC (.int 5))))))))
def a_is_edit_8 : AS :=
  (aSeq (aIfS (aTest (aOp fEq (aVar 2) (aC (.str (Str.ofString "turn")))))
      (aRet (aAndV (aOp fLt (aVar 3) (aVar 1)) (aCall ds_is_line (aCons (aOp fIx (aVar 0) (aC (.int 2))) aNil))))
      aNext)
      a_is_edit_10)
def a_is_edit_6 : AS :=
  (aSeq (aIfS (aOr (aTest (aOp fNe (aCall fLen (aCons (aVar 0) aNil)) (aC (.int 3)))) (aTest (aOp fLt (aVar 3) (aC (.int 0)))))
      (aRet (aC (.bool false)))
      aNext)
      a_is_edit_8)
def a_is_edit_4 : AS :=
  (aSeq (aIfS (aTest (aOp fEq (aVar 2) (aC (.str (Str.ofString "drop")))))
      (aRet (aAndV (aOp fEq (aCall fLen (aCons (aVar 0) aNil)) (aC (.int 2))) (aAndV (aOp fLe (aC (.int 0)) (aVar 3)) (aOp fLt (aVar 3) (aVar 1)))))
      aNext)
      a_is_edit_6)
def a_is_edit_3 : AS :=
  (aSeq (aAsg (aSl (aVar 0) aoNo (aoSome (aC (.int 2)))) (agTup 2 (agCons (agName 2) (agCons (agName 3) agNil))))
      a_is_edit_4)
def a_is_edit : AS :=
  (aSeq (aIfS (aOr (aNot (aTest (aIsi "tuple" (aVar 0)))) (aOr (aTest (aOp fLt (aCall fLen (aCons (aVar 0) aNil)) (aC (.int 2)))) (aOr (aNot (aTest (aIsi "str" (aOp fIx (aVar 0) (aC (.int 0)))))) (aNot (aTest (aCall ds_is_number (aCons (aOp fIx (aVar 0) (aC (.int 1))) aNil)))))))
      (aRet (aC (.bool false)))
      aNext)
      a_is_edit_3)
theorem vc_is_number : ∀ ds Qd, ds_is_number ds Qd → a_is_number { nx := fun _ => Qd .none, rt := Qd } (startE N_is_number.length (ds.map Cell.d)) := by
  rintro ds Qd ⟨d, rfl, hd, hq⟩
  show a_is_number _ [.d d]
  unfold a_is_number
  walk_at "vc"
  obtain ⟨b, b', h1, h2, h3⟩ := kit_whole d hd
  refine ⟨b, h1, ?_⟩
  cases b with
  | true =>
    rw [if_pos rfl]
    refine ⟨b', h2, ?_⟩
    rw [← h3] at hq; simpa using hq
  | false =>
    rw [if_neg Bool.false_ne_true]
    rw [← h3] at hq; simpa using hq
theorem vc_place_of : ∀ ds Qd, ds_place_of ds Qd → a_place_of { nx := fun _ => Qd .none, rt := Qd } (startE N_place_of.length (ds.map Cell.d)) := by
  rintro ds Qd ⟨w, k, r, rfl, hw, hq⟩
  show a_place_of _ [.d (.tuple (.str w :: .int k :: r))]
  unfold a_place_of
  walk_at "vc"
  refine ne_w (n := 0) (L := w.length) (.str (Nat.le_refl _) hw) (by decide) w_ok.1 ⟨by decide, ?_⟩
  have e : (if (!isW wPut (.str w)) = true then (1 : Int) else 0) = if w = wPut then 0 else 1 := by
    by_cases h : w = wPut <;> simp [isW, h]
  rw [e]; exact hq
theorem vc_is_edit : ∀ ds Qd, ds_is_edit ds Qd → a_is_edit { nx := fun _ => Qd .none, rt := Qd } (startE N_is_edit.length (ds.map Cell.d)) := by
  rintro ds Qd ⟨d, n, L, many, rfl, hd, hn, hL, hq⟩
  show a_is_edit _ [.d d, .d (.int many), .un, .un]
  unfold a_is_edit
  walk_at "vc"
  refine ⟨isTup d, kit_tup hd.nd, ?_⟩
  cases hd with
  | @tuple m _ xs hl hx =>
    refine ite_no (show ¬ (!true) = true by decide) ?_
    match xs, hl, hx, hq with
    | [], hl, hx, hq => exact ite_yes (by decide) hq
    | [x], hl, hx, hq => rw [ed_one] at hq; exact ite_yes (by simp) hq
    | x :: y :: r, hl, hx, hq =>
      have gx := hx x List.mem_cons_self
      have gy := hx y (List.mem_cons_of_mem _ List.mem_cons_self)
      refine ite_no (by simp; omega) ?_
      rw [ixt0]
      refine ⟨isStr x, kit_str gx.nd, ?_⟩
      cases gx with
      | @str _ _ w hlw hw =>
        refine ite_no (show ¬ (!true) = true by decide) ?_
        rw [ixt1]
        refine ⟨gy.nd, ?_⟩
        have g0 : Gd 0 L (.str w) := .str hlw hw
        cases gy with
        | int k =>
          refine ite_no (show ¬ (!true) = true by decide) ?_
          unfold a_is_edit_3
          walk_at "vc"
          have e : cut (PyData.str w :: PyData.int k :: r) none (some 2) = [PyData.str w, PyData.int k] := cut_to (PyData.str w :: PyData.int k :: r) 2 (by simp)
          rw [e]
          refine ⟨rfl, rfl, ?_⟩
          unfold a_is_edit_4
          walk_at "vc"
          refine eq_w g0 (by decide) w_ok.2.1 ?_
          by_cases hd : w = wDrop
          · refine ite_yes (by simp [isW, hd]) ?_
            match r, hl, hx, hq with
            | [], hl, hx, hq =>
              rw [ed_two, decide_eq_true hd, Bool.true_and] at hq
              refine ite_yes (by simp) ?_
              by_cases h0 : 0 ≤ k
              · rw [decide_eq_true h0, Bool.true_and] at hq
                refine ite_yes (by simpa using h0) ?_
                simpa using hq
              · rw [decide_eq_false h0, Bool.false_and] at hq
                refine ite_no (by simpa using h0) ?_
                simpa [h0] using hq
            | [z], hl, hx, hq =>
              refine ite_no (by simp) ?_
              rw [ed_three, decide_eq_false (show ¬ w = wTurn from fun e => w_ne.2.2 (hd ▸ e)), decide_eq_false (show ¬ w = wPut from fun e => w_ne.1 (hd ▸ e.symm))] at hq
              simpa using hq
            | z :: z2 :: r, hl, hx, hq =>
              refine ite_no (by simp; omega) ?_
              rw [ed_long] at hq
              exact hq
          · refine ite_no (by simp [isW, hd]) ?_
            unfold a_is_edit_6
            walk_at "vc"
            match r, hl, hx, hq with
            | [], hl, hx, hq =>
              rw [ed_two, decide_eq_false hd] at hq
              exact ite_yes (by decide) (by simpa using hq)
            | z :: z2 :: r, hl, hx, hq =>
              rw [ed_long] at hq
              exact ite_yes (by simp; omega) hq
            | [z], hl, hx, hq =>
              have gz := hx z (by simp)
              refine ite_no (by simp) ?_
              rw [ed_three] at hq
              by_cases h0 : k < 0
              · rw [decide_eq_false (by omega), Bool.false_and] at hq
                exact ite_yes h0 hq
              · rw [decide_eq_true (by omega), Bool.true_and] at hq
                refine ite_no h0 ?_
                unfold a_is_edit_8
                walk_at "vc"
                refine eq_w g0 (by decide) w_ok.2.2 ?_
                by_cases ht : w = wTurn
                · refine ite_yes (by simp [isW, ht]) ?_
                  rw [decide_eq_true ht, decide_eq_false (show ¬ w = wPut from fun e => w_ne.2.1 (e.symm.trans ht)), Bool.true_and, Bool.false_and, Bool.or_false] at hq
                  by_cases hk : k < (many : Int)
                  · rw [decide_eq_true hk, Bool.true_and] at hq
                    refine ite_yes (by simpa using hk) ?_
                    exact dsof gz (by omega) hL hq
                  · rw [decide_eq_false hk, Bool.false_and] at hq
                    refine ite_no (by simpa using hk) ?_
                    simpa [hk] using hq
                · refine ite_no (by simp [isW, ht]) ?_
                  rw [decide_eq_false ht, Bool.false_and, Bool.false_or] at hq
                  unfold a_is_edit_10
                  walk_at "vc"
                  refine eq_w g0 (by decide) w_ok.1 ?_
                  by_cases hp : w = wPut
                  · rw [decide_eq_true hp, Bool.true_and] at hq
                    refine ite_yes (by simp [isW, hp]) ?_
                    by_cases hk : k ≤ (many : Int)
                    · rw [decide_eq_true hk, Bool.true_and] at hq
                      refine ite_yes (by simpa using hk) ?_
                      refine dsof gz (by omega) hL ?_
                      cases hb : isBodyD z with
                      | false => rw [hb] at hq; exact ite_no Bool.false_ne_true hq
                      | true =>
                        rw [hb, Bool.true_and] at hq
                        obtain ⟨zs, rfl⟩ := body_tup hb
                        refine ite_yes rfl ?_
                        have e1 : isEditD.lenD (PyData.tuple zs) = zs.length := rfl
                        rw [e1] at hq
                        by_cases h1 : (1 : Int) ≤ (zs.length : Int)
                        · refine ite_yes h1 ?_
                          rw [decide_eq_true (show 1 ≤ zs.length by omega), Bool.true_and, show decide (zs.length ≤ 5) = decide ((zs.length : Int) ≤ 5) from decide_eq_decide.mpr (by omega)] at hq
                          exact hq
                        · refine ite_no h1 ?_
                          rw [decide_eq_false (show ¬ 1 ≤ zs.length by omega), Bool.false_and] at hq
                          exact hq
                    · rw [decide_eq_false hk, Bool.false_and] at hq
                      refine ite_no (by simpa using hk) ?_
                      simpa [hk] using hq
                  · rw [decide_eq_false hp, Bool.false_and] at hq
                    refine ite_no (by simp [isW, hp]) ?_
                    simpa [isW, hp] using hq
        | _ => rw [ed_ni rfl] at hq; exact ite_yes (show (!false) = true by decide) hq
      | _ => rw [ed_ns rfl] at hq; exact ite_yes (show (!false) = true by decide) hq
  | _ => exact ite_yes (show (!false) = true by decide) hq
def a_is_draft_6 : AS :=
  (aRet (aCall fAll (aCons (aLc (aiRng2 (aCons (aC (.int 1)) (aCons (aCall fLen (aCons (aVar 3) aNil)) aNil))) (agName 4) atYes (aOp fLtT (aOp fIx (aVar 3) (aOp fSub (aVar 4) (aC (.int 1)))) (aOp fIx (aVar 3) (aVar 4))) [4]) aNil)))
def a_is_draft_5 : AS :=
  (aSeq (aSet 3 (aLc (aiTup (aVar 1)) (agName 2) atYes (aCall ds_place_of (aCons (aVar 2) aNil)) [2]))
      a_is_draft_6)
def a_is_draft_3 : AS :=
  (aSeq (aIfS (aNot (aTest (aCall fAll (aCons (aLc (aiTup (aVar 1)) (agName 2) atYes (aCall ds_is_edit (aCons (aVar 2) (aCons (aCall fLen (aCons (aVar 0) aNil)) aNil))) [2]) aNil))))
      (aRet (aC (.bool false)))
      aNext)
      a_is_draft_5)
def a_is_draft : AS :=
  (aSeq (aIfS (aOr (aNot (aTest (aIsi "tuple" (aVar 1)))) (aTest (aOp fGt (aCall fLen (aCons (aVar 1) aNil)) (aC (.int 20)))))
      (aRet (aC (.bool false)))
      aNext)
      a_is_draft_3)
theorem vc_is_draft : ∀ ds Qd, ds_is_draft ds Qd → a_is_draft { nx := fun _ => Qd .none, rt := Qd } (startE N_is_draft.length (ds.map Cell.d)) := by
  rintro ds Qd ⟨bs, d, n, L, rfl, hd, hn, hL, hq⟩
  show a_is_draft _ [.d (.tuple bs), .d d, .un, .un, .un]
  unfold a_is_draft
  walk_at "vc"
  refine ⟨isTup d, kit_tup hd.nd, ?_⟩
  cases hd with
  | @tuple m _ xs hl hx =>
    refine ite_no (show ¬ (!true) = true by decide) ?_
    have hb : isDraftD bs.length (.tuple xs) = (decide (xs.length ≤ 20) && (xs.all (isEditD bs.length) && decide ((xs.map plD).Pairwise (· < ·)))) := rfl
    rw [hb] at hq
    by_cases h1 : (20 : Int) < (xs.length : Int)
    · rw [decide_eq_false (by omega)] at hq
      exact ite_yes h1 hq
    · rw [decide_eq_true (by omega), Bool.true_and] at hq
      refine ite_no h1 ?_
      unfold a_is_draft_3
      walk_at "vc"
      refine ⟨sl_of (by omega), fun i acc => acc = (xs.take i).map fun y => PyData.bool (isEditD bs.length y), rfl, ?_, ?_⟩
      · rintro i d acc hdi rfl
        refine ⟨d, m, L, bs.length, rfl, hx d (mem_get hdi), by omega, hL, ?_⟩
        dsimp only
        rw [take_at hdi, List.map_append]; rfl
      · rintro acc rfl
        rw [List.take_length]
        refine ⟨xs.map (isEditD bs.length), by rw [List.map_map]; rfl, ?_⟩
        rw [List.all_map]
        cases ha : xs.all (id ∘ isEditD bs.length) with
        | false =>
          rw [show xs.all (isEditD bs.length) = false from ha] at hq
          exact ite_yes rfl hq
        | true =>
          rw [show xs.all (isEditD bs.length) = true from ha, Bool.true_and] at hq
          have hed : ∀ y ∈ xs, isEditD bs.length y = true := List.all_eq_true.mp ha
          refine ite_no (show ¬ (!true) = true by decide) ?_
          unfold a_is_draft_5
          walk_at "vc"
          refine ⟨sl_of (by omega), fun i acc => acc = (xs.take i).map plT, rfl, ?_, ?_⟩
          · rintro i d acc hdi rfl
            obtain ⟨w, k, r, rfl, _⟩ := edit_shape (hed d (mem_get hdi))
            have hw : PyData.strOk w = true := by
              cases hx _ (mem_get hdi) with
              | tuple _ h2 =>
                cases h2 _ List.mem_cons_self with
                | str _ h => exact h
            refine ⟨w, k, r, rfl, hw, ?_⟩
            dsimp only
            rw [take_at hdi, List.map_append]; rfl
          · rintro acc rfl
            rw [List.take_length]
            unfold a_is_draft_6
            walk_at "vc"
            rw [List.length_map]
            refine ⟨⟨⟨by decide, by decide⟩, by omega, by omega⟩, by rw [rngD_len]; exact sl_of (by omega), fun i acc => acc = (List.range i).map fun j => PyData.bool (decide ((xs.map plD).getD j 0 < (xs.map plD).getD (j + 1) 0)), rfl, ?_, ?_⟩
            · rintro i d acc hdi rfl
              obtain ⟨hi, rfl⟩ := rng_at2 hdi
              have h1 : xs[i]? = some xs[i] := List.getElem?_eq_getElem (by omega)
              have h2 : xs[i + 1]? = some xs[i + 1] := List.getElem?_eq_getElem (by omega)
              obtain ⟨a, b, e1, e2, e3⟩ := pl_at (hed xs[i] (List.getElem_mem ..))
              obtain ⟨a', b', e1', e2', e3'⟩ := pl_at (hed xs[i + 1] (List.getElem_mem ..))
              show fIx (.list (xs.map plT)) (.int (1 + (i : Int) - 1)) _
              rw [show (1 + (i : Int) - 1) = (i : Int) by omega, show (1 + (i : Int)) = ((i + 1 : Nat) : Int) by omega]
              refine ixl_map h1 (ixl_map h2 ⟨[a, b], [a', b'], e1, e1', ?_⟩)
              dsimp only
              rw [List.range_succ, List.map_append, lex_two e2 e2']
              show _ = _ ++ [PyData.bool (decide ((xs.map plD).getD i 0 < (xs.map plD).getD (i + 1) 0))]
              rw [getD_at 0 (show (xs.map plD)[i]? = some (plD xs[i]) by rw [List.getElem?_map, h1]; rfl), getD_at 0 (show (xs.map plD)[i + 1]? = some (plD xs[i + 1]) by rw [List.getElem?_map, h2]; rfl), e3, e3']
            · rintro acc rfl
              rw [rngD_len]
              refine ⟨_, (List.map_map ..).symm, ?_⟩
              have e := rising_all (xs.map plD)
              rw [List.length_map] at e
              rw [show ((xs.length : Int) - 1).toNat = xs.length - 1 by omega]
              rw [← e] at hq
              exact hq
  | _ => exact ite_yes (show (!false) = true by decide) hq
def a_law_an_edit_3 : AS :=
  (aRet (aOp fIx (aLst (aCons (aTup (aCons (aC (.str (Str.ofString "drop"))) (aCons (aVar 2) aNil))) (aCons (aTup (aCons (aC (.str (Str.ofString "turn"))) (aCons (aVar 2) (aCons (aCallT ds_law_a_line 0 aNil) aNil)))) aNil))) (aCallT ds_law_draw 0 (aCons (aC (.int 2)) aNil))))
def a_law_an_edit : AS :=
  (aSeq (aIfS (aNot (aTest (aVar 3)))
      (aRet (aTup (aCons (aC (.str (Str.ofString "put"))) (aCons (aVar 2) (aCons (aCall fTuple (aCons (aLc (aiRng1 (aCons (aOp fAdd (aC (.int 1)) (aCallT ds_law_draw 0 (aCons (aOp fIx (aLst (aCons (aC (.int 2)) (aCons (aC (.int 5)) aNil))) (aCallT ds_law_draw 0 (aCons (aC (.int 2)) aNil))) aNil))) aNil)) (agName 4) atYes (aCallT ds_law_a_line 0 aNil) [4]) aNil)) aNil)))))
      aNext)
      a_law_an_edit_3)
def a_law_a_draft_4 : AS :=
  (aIfS (aAnd (aTest (aOp fLt (aLenV 3) (aC (.int 20)))) (aAnd (aTest (aOp fEq (aCallT ds_law_draw 0 (aCons (aVar 2) aNil)) (aC (.int 0)))) (aOr (aTest (aOp fLt (aVar 4) (aVar 1))) (aNot (aTest (aVar 5))))))
      (aAppend 3 (aCallT ds_law_an_edit 0 (aCons (aVar 1) (aCons (aVar 4) (aCons (aVar 5) aNil)))))
      aNext)
def a_law_a_draft_3 : AS :=
  (aFor (aiTup (aTup (aCons (aC (.bool false)) (aCons (aC (.bool true)) aNil)))) (agName 5)
      a_law_a_draft_4)
def a_law_a_draft_6 : AS :=
  (aFreeze 3 (aRet (aCall fTuple (aCons (aVar 3) aNil))))
def a_law_a_draft_2 : AS :=
  (aSeq (aFor (aiRng1 (aCons (aOp fAdd (aVar 1) (aC (.int 1))) aNil)) (agName 4)
      a_law_a_draft_3)
      a_law_a_draft_6)
def a_law_a_draft : AS :=
  (aSeq (aSetOwnLst 3 aNil)
      a_law_a_draft_2)
theorem vc_law_an_edit : ∀ ds Qd, ds_law_an_edit ds Qd → a_law_an_edit { nx := fun _ => Qd .none, rt := Qd } (startE N_law_an_edit.length (.tape :: ds.map Cell.d)) := by
  rintro ds Qd ⟨many, k, b, rfl, hq⟩
  show a_law_an_edit _ [.tape, .d (.int many), .d (.int k), .d (.bool b), .un]
  unfold a_law_an_edit
  walk_at "vc"
  cases b with
  | false =>
    refine ite_yes rfl ⟨by decide, by decide, by decide, fun r r0 r1 => ix_list r0 (by simpa using r1) fun d hd => ?_⟩
    obtain ⟨mi, rfl, m0, m1⟩ : ∃ mi : Int, d = .int mi ∧ 0 < mi ∧ mi ≤ 5 := by
      have h := mem_get hd
      simp only [List.mem_cons, List.not_mem_nil, or_false] at h
      rcases h with rfl | rfl
      · exact ⟨2, rfl, by decide, by decide⟩
      · exact ⟨5, rfl, by decide, by decide⟩
    walk_at "vc"
    refine ⟨m0, by omega, fun q q0 q1 => ⟨⟨by omega, by omega⟩, by rw [rngD_len]; exact sl_of (by omega), fun i acc => acc.length = i ∧ ∀ y ∈ acc, ∃ x, LineS x ∧ y = .str x, ⟨rfl, fun _ h => nomatch h⟩, fun i d acc _ hI x hx => ⟨by rw [List.length_append, hI.1]; rfl, all_snoc hI.2 ⟨x, hx, rfl⟩⟩, fun acc hI => ⟨by decide, ?_⟩⟩⟩
    rw [rngD_len] at hI
    obtain ⟨xs, rfl, hxs⟩ := lines_of hI.2
    rw [List.length_map] at hI
    exact hq (.put k xs) rfl rfl fun m' _ hk => ⟨hk, by omega, by omega, hxs⟩
  | true =>
    refine ite_no (by decide) ?_
    unfold a_law_an_edit_3
    walk_at "vc"
    refine ⟨by decide, fun x hx => ⟨by decide, by decide, by decide, by decide, fun r r0 r1 => ix_list r0 (by simpa using r1) fun d hd => ?_⟩⟩
    have h := mem_get hd
    simp only [List.mem_cons, List.not_mem_nil, or_false] at h
    rcases h with rfl | rfl
    · exact hq (.drop k) rfl rfl fun m' h _ => h rfl
    · exact hq (.turn k x) rfl rfl fun m' h _ => ⟨h rfl, hx⟩
theorem vc_law_a_draft : ∀ ds Qd, ds_law_a_draft ds Qd → a_law_a_draft { nx := fun _ => Qd .none, rt := Qd } (startE N_law_a_draft.length (.tape :: ds.map Cell.d)) := by
  rintro ds Qd ⟨many, often, rfl, hm, ho, ho2, hq⟩
  show a_law_a_draft _ [.tape, .d (.int many), .d (.int often), .un, .un, .un]
  unfold a_law_a_draft
  walk_at "vc"
  refine ⟨by decide, ?_⟩
  unfold a_law_a_draft_2
  walk_at "vc"
  refine ⟨⟨by omega, by omega⟩, fun i ε => ∃ (es : List Ed) (a b : Cell), ε = [.tape, .d (.int many), .d (.int often), .own (es.map Ed.d), a, b] ∧ DraftOk many es ∧ ∀ e ∈ es, e.pl < 2 * i, ⟨[], _, _, rfl, ⟨by decide, (fun _ h => nomatch h), .nil⟩, (fun _ h => nomatch h)⟩, ?_, ?_⟩
  · rintro i d ε hd ⟨es, a, b, rfl, hes, hlt⟩
    obtain ⟨hi, rfl⟩ := rng_at hd
    unfold a_law_a_draft_3
    walk_at "vc"
    refine ⟨by decide, fun j ε => ∃ (es : List Ed) (b : Cell), ε = [.tape, .d (.int many), .d (.int often), .own (es.map Ed.d), .d (.int (i : Int)), b] ∧ DraftOk many es ∧ ∀ e ∈ es, e.pl < 2 * i + j, ⟨es, _, rfl, hes, hlt⟩, ?_, ?_⟩
    · rintro j d ε hd ⟨es, b, rfl, hes, hlt⟩
      obtain ⟨sec, rfl, hj⟩ : ∃ sec : Bool, d = .bool sec ∧ j = if sec = true then 1 else 0 := by
        match j, hd with
        | 0, hd => exact ⟨false, (Option.some.inj hd).symm, rfl⟩
        | 1, hd => exact ⟨true, (Option.some.inj hd).symm, rfl⟩
        | _ + 2, hd => cases hd
      have keep : ∃ (es' : List Ed) (b : Cell), [Cell.tape, .d (.int many), .d (.int often), .own (es.map Ed.d), .d (.int (i : Int)), .d (.bool sec)] = [.tape, .d (.int many), .d (.int often), .own (es'.map Ed.d), .d (.int (i : Int)), b] ∧ DraftOk many es' ∧ ∀ e ∈ es', e.pl < 2 * i + (j + 1) := ⟨es, _, rfl, hes, fun e he => by have := hlt e he; omega⟩
      unfold a_law_a_draft_4
      walk_at "vc"
      have add : (sec = true → i < many) → es.length < 20 → ds_law_an_edit [PyData.int (many : Int), PyData.int (i : Int), PyData.bool sec] fun d => (es.map Ed.d).length < sizeLine ∧ ∃ (es' : List Ed) (b : Cell), [Cell.tape, .d (.int many), .d (.int often), .own (es.map Ed.d ++ [d]), .d (.int (i : Int)), .d (.bool sec)] = [.tape, .d (.int many), .d (.int often), .own (es'.map Ed.d), .d (.int (i : Int)), b] ∧ DraftOk many es' ∧ ∀ e ∈ es', e.pl < 2 * i + (j + 1) := by
        intro hs h20
        refine ⟨many, i, sec, rfl, fun e e1 e2 e3 => ⟨Nat.lt_of_le_of_lt (show (es.map Ed.d).length ≤ 20 by rw [List.length_map]; omega) (by decide), es ++ [e], _, by rw [List.map_append]; rfl, ?_⟩⟩
        have ep : e.pl = 2 * i + j := by unfold Ed.pl; rw [e1, e2, hj]
        refine ⟨⟨by rw [List.length_append]; simp; omega, all_snoc hes.ok (e3 many hs (by omega)), ?_⟩, all_snoc (fun e he => by have := hlt e he; omega) (by omega)⟩
        rw [List.map_append, List.pairwise_append]
        refine ⟨hes.up, List.pairwise_singleton .., fun a ha b hb => ?_⟩
        obtain ⟨e', he', rfl⟩ := List.mem_map.mp ha
        rw [List.mem_singleton.mp hb, ep]
        exact hlt e' he'
      rw [List.length_map] at *
      by_cases h20 : (es.length : Int) < 20
      · refine ite_yes h20 ⟨ho, by omega, fun r r0 r1 => ?_⟩
        split
        · split
          · exact add (fun _ => by omega) (by omega)
          · split
            · exact add (fun h => by subst h; contradiction) (by omega)
            · exact keep
        · exact ite_no Bool.false_ne_true keep
      · exact ite_no h20 (ite_no Bool.false_ne_true keep)
    · rintro ε ⟨es, b, rfl, hes, hlt⟩
      exact ⟨es, _, _, rfl, hes, fun e he => by have := hlt e he; omega⟩
  · rintro ε ⟨es, a, b, rfl, hes, _⟩
    unfold a_law_a_draft_6
    walk_at "vc"
    exact hq es hes
def a_body_text : AS :=
  (aRet (aM1 fJoin (aC (.str (Str.ofString ""))) (aLc (aiTup (aVar 0)) (agName 1) atYes (aOp fAdd (aC (.str (Str.ofString "|"))) (aVar 1)) [1])))
def a_edit_text_5 : AS :=
  (aRet (aOp fAdd (aOp fAdd (aCall fStrI (aCons (aOp fIx (aVar 0) (aC (.int 1))) aNil)) (aC (.str (Str.ofString "=")))) (aOp fIx (aVar 0) (aC (.int 2)))))
def a_edit_text_3 : AS :=
  (aSeq (aIfS (aTest (aOp fEq (aOp fIx (aVar 0) (aC (.int 0))) (aC (.str (Str.ofString "drop")))))
      (aRet (aOp fAdd (aCall fStrI (aCons (aOp fIx (aVar 0) (aC (.int 1))) aNil)) (aC (.str (Str.ofString "-")))))
      aNext)
      a_edit_text_5)
def a_edit_text : AS :=
  (aSeq (aIfS (aTest (aOp fEq (aOp fIx (aVar 0) (aC (.int 0))) (aC (.str (Str.ofString "put")))))
      (aRet (aOp fAdd (aOp fAdd (aCall fStrI (aCons (aOp fIx (aVar 0) (aC (.int 1))) aNil)) (aC (.str (Str.ofString "+")))) (aCall ds_body_text (aCons (aOp fIx (aVar 0) (aC (.int 2))) aNil))))
      aNext)
      a_edit_text_3)
def a_draft_text : AS :=
  (aRet (aM1 fJoin (aC (.str (Str.ofString ";"))) (aLc (aiTup (aVar 0)) (agName 1) atYes (aCall ds_edit_text (aCons (aVar 1) aNil)) [1])))
theorem vc_body_text : ∀ ds Qd, ds_body_text ds Qd → a_body_text { nx := fun _ => Qd .none, rt := Qd } (startE N_body_text.length (ds.map Cell.d)) := by
  rintro ds Qd ⟨xs, rfl, hl, hx, hq⟩
  show a_body_text _ [.d (.tuple (xs.map PyData.str)), .un]
  unfold a_body_text
  walk_at "vc"
  rw [List.length_map]
  refine ⟨sl_of (by omega), fun i acc => acc = (xs.take i).map fun x => PyData.str (bar ++ x), rfl, ?_, ?_⟩
  · rintro i d acc hd rfl
    obtain ⟨x, hxi, rfl⟩ := map_at hd
    have hlx := (hx x (mem_get hxi)).len
    refine ⟨sl_of (by rw [show (Str.ofString "|").length = 1 by decide +kernel]; omega), ?_⟩
    dsimp only
    rw [take_at hxi, List.map_append]; rfl
  · rintro acc rfl
    rw [List.take_length]
    refine ⟨xs.map (bar ++ ·), .inl (by rw [List.map_map]; rfl), ?_, hq⟩
    have := sum_le (l := xs.map (bar ++ ·)) (m := 31) fun y hy => by
      obtain ⟨x, hxm, rfl⟩ := List.mem_map.mp hy
      have h1 := (hx x hxm).len
      rw [len_append, show bar.length = 1 by decide +kernel]; omega
    rw [List.length_map] at this ⊢
    rw [show (Str.ofString "").length = 0 by decide +kernel]
    omega
theorem vc_edit_text : ∀ ds Qd, ds_edit_text ds Qd → a_edit_text { nx := fun _ => Qd .none, rt := Qd } (startE N_edit_text.length (ds.map Cell.d)) := by
  rintro ds Qd ⟨e, rfl, he, hq⟩
  have hn : ∀ k : Nat, k ≤ 60 → (numS k).length ≤ 2 := fun k h => by rw [← cl_len]; exact (num_ok h).len
  cases e with
  | put k xs =>
    obtain ⟨h1, h2, h3, h4⟩ := he
    show a_edit_text _ [.d (.tuple [.str wPut, .int (k : Int), .tuple (xs.map PyData.str)])]
    unfold a_edit_text
    walk_at "vc"
    refine eq_str (ite_yes (by simp) ?_)
    have l1 := hn k h1
    have l2 := bodyText_len h4
    have e1 : (Str.ofString "+").length = 1 := by decide +kernel
    refine ⟨log_small h1, sl_of (by show (numS k).length + _ ≤ _; omega), xs, rfl, by omega, h4, sl_of ?_, hq⟩
    show (numS k ++ Str.ofString "+").length + _ ≤ _
    rw [len_append]; omega
  | drop k =>
    have h1 : k < 60 := he
    show a_edit_text _ [.d (.tuple [.str wDrop, .int (k : Int)])]
    unfold a_edit_text
    walk_at "vc"
    refine eq_str (ite_no (by simp [w_ne.1.symm]) ?_)
    unfold a_edit_text_3
    walk_at "vc"
    have l1 := hn k (by omega)
    have e1 : (Str.ofString "-").length = 1 := by decide +kernel
    refine eq_str (ite_yes (by simp) ⟨log_small (by omega), sl_of (by show (numS k).length + _ ≤ _; omega), hq⟩)
  | turn k x =>
    have h1 : k < 60 := he.1
    show a_edit_text _ [.d (.tuple [.str wTurn, .int (k : Int), .str x])]
    unfold a_edit_text
    walk_at "vc"
    refine eq_str (ite_no (by simp [w_ne.2.1.symm]) ?_)
    unfold a_edit_text_3
    walk_at "vc"
    refine eq_str (ite_no (by simp [w_ne.2.2.symm]) ?_)
    unfold a_edit_text_5
    walk_at "vc"
    have l1 := hn k (by omega)
    have l2 := he.2.len
    have e1 : (Str.ofString "=").length = 1 := by decide +kernel
    refine ⟨log_small (by omega), sl_of (by show (numS k).length + _ ≤ _; omega), sl_of ?_, hq⟩
    show (numS k ++ Str.ofString "=").length + _ ≤ _
    rw [len_append]; omega
theorem vc_draft_text : ∀ ds Qd, ds_draft_text ds Qd → a_draft_text { nx := fun _ => Qd .none, rt := Qd } (startE N_draft_text.length (ds.map Cell.d)) := by
  rintro ds Qd ⟨es, rfl, hes, hq⟩
  show a_draft_text _ [.d (.tuple (es.map Ed.d)), .un]
  unfold a_draft_text
  walk_at "vc"
  have hl := hes.len
  rw [List.length_map]
  refine ⟨sl_of (by omega), fun i acc => acc = (es.take i).map fun e => PyData.str (edText e), rfl, ?_, ?_⟩
  · rintro i d acc hd rfl
    obtain ⟨e, he, rfl⟩ := map_at hd
    refine ⟨e, rfl, hes.ok e (mem_get he), ?_⟩
    dsimp only
    rw [take_at he, List.map_append]; rfl
  · rintro acc rfl
    rw [List.take_length]
    refine ⟨es.map edText, .inl (by rw [List.map_map]; rfl), ?_, hq⟩
    have := sum_le (l := es.map edText) (m := 200) fun y hy => by
      obtain ⟨e, he, rfl⟩ := List.mem_map.mp hy
      exact (edText_len (hes.ok e he)).2
    rw [List.length_map] at this ⊢
    rw [show (Str.ofString ";").length = 1 by decide +kernel]
    omega
def a_law_is_line_3 : AS :=
  (aRet (aOp fEq (aLc (aiStr (aVar 0)) (agName 1) (aTest (aOp fNotInS (aVar 1) (aC (.str (Str.ofString "abcdefghijklmnopqrstuvwxyz "))))) (aVar 1) [1]) (aLst aNil)))
def a_law_is_line : AS :=
  (aSeq (aIfS (aOr (aNot (aTest (aIsi "str" (aVar 0)))) (aOr (aNot (aTest (aChain fLt fLt (aC (.int 0)) (aCall fLen (aCons (aVar 0) aNil)) (aC (.int 31))))) (aTest (aOp fNe (aM1 fStrip (aVar 0) (aC (.str (Str.ofString " ")))) (aVar 0)))))
      (aRet (aC (.bool false)))
      aNext)
      a_law_is_line_3)
def a_law_is_body : AS :=
  (aRet (aAndV (aIsi "tuple" (aVar 0)) (aAndV (aOp fLt (aCall fLen (aCons (aVar 0) aNil)) (aC (.int 61))) (aOp fEq (aLc (aiTup (aVar 0)) (agName 1) (aNot (aTest (aCall ds_law_is_line (aCons (aVar 1) aNil)))) (aVar 1) [1]) (aLst aNil)))))
/-- [one for one in items if p fails] == [] -/
theorem eq_nil_all {l : List Nat} {p : Nat → Bool} {Q : D → Prop} (hs : ∀ k ∈ l, k < 0x110000) (h : Q (.bool (l.all p))) : fEq (.list ((l.filter fun k => !p k).map fun k => PyData.str ⟨#[k]⟩)) (.list []) Q := by
  have sh : Sh 1 (.list ((l.filter fun k => !p k).map fun k => PyData.str ⟨#[k]⟩)) := .list fun d hd => by
    obtain ⟨k, hk, rfl⟩ := List.mem_map.mp hd
    refine .str (strOk_of fun j hj => ?_)
    rw [List.mem_singleton.mp hj]
    exact hs k (List.mem_filter.mp hk).1
  refine .inr ⟨sh.shaped (by decide), by decide, ?_⟩
  have e : PyData.eqv (.list ((l.filter fun k => !p k).map fun k => PyData.str ⟨#[k]⟩)) (.list []) = l.all p := by
    cases hf : l.filter fun k => !p k with
    | nil =>
      rw [List.filter_eq_nil_iff] at hf
      simp only [List.map_nil, PyData.eqv, PyData.eqvAll]
      symm
      rw [List.all_eq_true]
      intro k hk
      simpa using hf k hk
    | cons a r =>
      simp only [List.map_cons, PyData.eqv, PyData.eqvAll]
      symm
      have ha : a ∈ l.filter fun k => !p k := by rw [hf]; exact List.mem_cons_self ..
      rw [List.mem_filter] at ha
      rw [List.all_eq_false]
      exact ⟨a, ha.1, by simpa using ha.2⟩
  rw [e]; exact h
theorem strOk_lt {x : Str} (h : PyData.strOk x = true) : ∀ k ∈ cl x, k < 0x110000 := fun k hk => by
  unfold PyData.strOk at h
  rw [Array.all_eq_true'] at h
  exact of_decide_eq_true (h k (Array.mem_toList_iff.mp hk))
theorem strip_same {x : Str} (hn : cl x ≠ []) : decide (Txt.stripChars x (Str.ofString " ") = x) = (decide ((cl x).head? ≠ some 32) && decide ((cl x).getLast? ≠ some 32)) := by
  have hp : ∀ k, (Str.ofString " ").cps.contains k = (k == 32) := fun k => by
    rw [blank_eq]
    simp
    rfl
  rw [← Bool.decide_and]
  apply decide_eq_decide.mpr
  constructor
  · intro h
    have e := cl_strip x (Str.ofString " ")
    rw [h] at e
    constructor
    · intro z
      rw [e] at z
      have := strip_head z
      rw [hp] at this; cases this
    · intro z
      rw [e] at z
      have := strip_last z
      rw [hp] at this; cases this
  · rintro ⟨h1, h2⟩
    apply str_ext
    rw [cl_strip]
    refine strip_id (fun k hk => ?_) (fun k hk => ?_)
    · rw [hp]; simp; intro z; exact h1 (by rw [hk, z])
    · rw [hp]; simp; intro z; exact h2 (by rw [hk, z])
theorem vc_law_is_line : ∀ ds Qd, ds_law_is_line ds Qd → a_law_is_line { nx := fun _ => Qd .none, rt := Qd } (startE N_law_is_line.length (ds.map Cell.d)) := by
  rintro ds Qd ⟨d, n, L, rfl, hd, hn, hL, hq⟩
  show a_law_is_line _ [.d d, .un]
  unfold a_law_is_line
  walk_at "vc"
  refine ⟨isStr d, kit_str hd.nd, ?_⟩
  cases hd with
  | @str _ _ x hl hok =>
    refine ite_no (show ¬ (!true) = true by decide) ?_
    have hsz : x.length ≤ sizeLine := sl_of (by omega)
    have hcl := cl_len x
    have hb : isLineD (.str x) = (!(cl x).isEmpty && decide ((cl x).length ≤ 30) && (cl x).all signL && decide ((cl x).head? ≠ some 32) && decide ((cl x).getLast? ≠ some 32)) := rfl
    walk_at "vc"
    refine ⟨hsz, ?_⟩
    by_cases h1 : (0 : Int) < (x.length : Int)
    · rw [if_pos h1]
      have hne : cl x ≠ [] := fun z => by rw [z] at hcl; simp at hcl; omega
      have h0 : (cl x).isEmpty = false := by cases hc : cl x with | nil => exact absurd hc hne | cons a r => rfl
      by_cases h2 : (x.length : Int) < 31
      · refine ite_no (by simp [h2]) ⟨hsz, ?_⟩
        rw [hb, h0, decide_eq_true (show (cl x).length ≤ 30 by omega), Bool.not_false, Bool.true_and, Bool.true_and] at hq
        refine ne_str ?_
        rw [strip_same hne]
        cases hs : (decide ((cl x).head? ≠ some 32) && decide ((cl x).getLast? ≠ some 32)) with
        | false =>
          refine ite_yes (by simp) ?_
          rw [Bool.and_assoc, hs, Bool.and_false] at hq
          exact hq
        | true =>
          refine ite_no (by simp) ?_
          rw [Bool.and_assoc, hs, Bool.and_true] at hq
          unfold a_law_is_line_3
          walk_at "vc"
          refine ⟨by rw [signs_len]; exact hsz, fun i acc => acc = (((cl x).take i).filter fun k => !signL k).map fun k => PyData.str ⟨#[k]⟩, rfl, ?_, ?_⟩
          · rintro i d acc hdi rfl
            obtain ⟨k, hk, rfl⟩ := signs_at hdi
            refine ⟨k, _, rfl, rfl, ?_⟩
            dsimp only
            rw [in_small_, take_at hk, List.filter_append, List.map_append]
            cases hs : signL k with
            | true => exact ite_no (by simp) (by simp [hs])
            | false => exact ite_yes rfl (by simp [hs])
          · rintro acc rfl
            rw [signs_len, show x.cps.size = (cl x).length from (cl_len x).symm, List.take_length]
            exact ⟨by decide, eq_nil_all (strOk_lt hok) hq⟩
      · refine ite_yes (by simp [h2]) ?_
        rw [hb, decide_eq_false (show ¬ (cl x).length ≤ 30 by omega)] at hq
        simpa using hq
    · rw [if_neg h1]
      have e : cl x = [] := List.eq_nil_of_length_eq_zero (by omega)
      refine ite_yes (by simp) ?_
      rw [hb, e] at hq
      exact hq
  | _ => exact ite_yes (show (!false) = true by decide) hq
theorem vc_law_is_body : ∀ ds Qd, ds_law_is_body ds Qd → a_law_is_body { nx := fun _ => Qd .none, rt := Qd } (startE N_law_is_body.length (ds.map Cell.d)) := by
  rintro ds Qd ⟨d, n, L, rfl, hd, hn, hL, hq⟩
  show a_law_is_body _ [.d d, .un]
  unfold a_law_is_body
  walk_at "vc"
  refine ⟨isTup d, kit_tup hd.nd, ?_⟩
  cases hd with
  | @tuple m _ xs hl hx =>
    refine ite_yes rfl ?_
    walk_at "vc"
    have hb : isBodyD (.tuple xs) = (decide (xs.length ≤ 60) && xs.all isLineD) := rfl
    by_cases h1 : (xs.length : Int) < 61
    · rw [if_pos h1]
      rw [hb, decide_eq_true (by omega), Bool.true_and] at hq
      refine ⟨sl_of (by omega), fun i acc => acc = (xs.take i).filter fun y => !isLineD y, rfl, ?_, ?_⟩
      · rintro i d acc hdi rfl
        refine dsof (hx d (mem_get hdi)) (by omega) hL ?_
        dsimp only
        rw [take_at hdi, List.filter_append]
        cases hs : isLineD d with
        | true => exact ite_no (by simp) (by simp [hs])
        | false => exact ite_yes rfl (by simp [hs])
      · rintro acc rfl
        rw [List.take_length]
        refine ⟨by decide, ?_⟩
        have sh : ∀ y ∈ xs.filter (fun y => !isLineD y), Gd m L y := fun y hy => hx y (List.mem_filter.mp hy).1
        have hfin : Qd (.bool (PyData.eqv (.list (xs.filter fun y => !isLineD y)) (.list []))) := by
          have e : PyData.eqv (.list (xs.filter fun y => !isLineD y)) (.list []) = xs.all isLineD := by
            cases hf : xs.filter fun y => !isLineD y with
            | nil =>
              rw [List.filter_eq_nil_iff] at hf
              simp only [PyData.eqv, PyData.eqvAll]
              symm
              rw [List.all_eq_true]
              intro k hk
              simpa using hf k hk
            | cons a r =>
              simp only [PyData.eqv, PyData.eqvAll]
              symm
              have ha : a ∈ xs.filter fun y => !isLineD y := by rw [hf]; exact List.mem_cons_self ..
              rw [List.mem_filter] at ha
              rw [List.all_eq_false]
              exact ⟨a, ha.1, by simpa using ha.2⟩
          rw [e]; exact hq
        exact .inr ⟨(Sh.list (n := m) fun y hy => (sh y hy).sh).shaped (by omega), by decide, hfin⟩
    · rw [if_neg h1]
      rw [hb, decide_eq_false (by omega)] at hq
      exact hq
  | _ => exact ite_no Bool.false_ne_true hq
def a_law_whole : AS :=
  (aRet (aAndV (aIsi "int" (aVar 0)) (aNotV (aIsi "bool" (aVar 0)))))
def a_law_any_4 (prev : Ds) : AS :=
  (aRet (aOp fIx (aLst (aCons (aVar 3) (aCons (aCall fTuple (aCons (aVar 3) aNil)) (aCons (aCall fTuple (aCons (aVar 3) aNil)) (aCons (aCall fTuple (aCons (aVar 3) aNil)) aNil))))) (aVar 2)))
def a_law_any_8 (prev : Ds) : AS :=
  (aRet (aOp fIx (aLst (aCons (aC (.bool true)) (aCons (aC (.bool false)) (aCons (aC .none) (aCons (aOp fIx (aVar 3) (aCallT ds_law_draw 0 (aCons (aC (.int 12)) aNil))) (aCons (aCallT ds_law_a_line 0 aNil) aNil)))))) (aOp fSub (aVar 2) (aC (.int 7)))))
def a_law_any_7 (prev : Ds) : AS :=
  (aSeq (aSet 3 (aLst (aCons (aC (.str (Str.ofString ""))) (aCons (aC (.str (Str.ofString " "))) (aCons (aC (.str (Str.ofString "a"))) (aCons (aC (.str (Str.ofString "put"))) (aCons (aC (.str (Str.ofString "draft"))) (aCons (aC (.str (Str.ofString "A"))) (aCons (aC (.str (Str.ofString "a\nb"))) (aCons (aC (.str (Str.ofString "turn"))) (aCons (aC (.str (Str.ofString "ab"))) (aCons (aC (.str (Str.ofString "-"))) (aCons (aC (.str (Str.ofString "drop"))) (aCons (aC (.str (Str.ofString "a|b"))) aNil))))))))))))))
      (a_law_any_8 prev))
def a_law_any_5 (prev : Ds) : AS :=
  (aSeq (aIfS (aTest (aOp fLt (aVar 2) (aC (.int 7))))
      (aRet (aOp fIx (aLst (aCons (aOp fSub (aCallT ds_law_draw 0 (aCons (aC (.int 9)) aNil)) (aC (.int 2))) (aCons (aCallT ds_law_draw 0 (aCons (aOp fPow (aC (.int 10)) (aC (.int 30))) aNil)) (aCons (aC (.int 0)) aNil)))) (aCall fMax2 (aCons (aC (.int 0)) (aCons (aOp fSub (aVar 2) (aC (.int 4))) aNil)))))
      aNext)
      (a_law_any_7 prev))
def a_law_any_2 (prev : Ds) : AS :=
  (aSeq (aIfS (aAnd (aTest (aOp fLt (aVar 2) (aC (.int 4)))) (aTest (aOp fGt (aVar 1) (aC (.int 0)))))
      (aSeq (aSet 3 (aLc (aiRng1 (aCons (aCallT ds_law_draw 0 (aCons (aC (.int 4)) aNil)) aNil)) (agName 4) atYes (aCallT prev 0 (aCons (aOp fSub (aVar 1) (aC (.int 1))) aNil)) [4]))
      (a_law_any_4 prev))
      aNext)
      (a_law_any_5 prev))
def a_law_any (prev : Ds) : AS :=
  (aSeq (aSet 2 (aCallT ds_law_draw 0 (aCons (aC (.int 12)) aNil)))
      (a_law_any_2 prev))
theorem vc_law_whole : ∀ ds Qd, ds_law_whole ds Qd → a_law_whole { nx := fun _ => Qd .none, rt := Qd } (startE N_law_whole.length (ds.map Cell.d)) := by
  rintro ds Qd ⟨d, rfl, hd, hq⟩
  show a_law_whole _ [.d d]
  unfold a_law_whole
  walk_at "vc"
  obtain ⟨b, b', h1, h2, h3⟩ := kit_whole d hd
  refine ⟨b, h1, ?_⟩
  cases b with
  | true =>
    rw [if_pos rfl]
    refine ⟨b', h2, ?_⟩
    rw [← h3] at hq; simpa using hq
  | false =>
    rw [if_neg Bool.false_ne_true]
    rw [← h3] at hq; simpa using hq
theorem vc_law_any : ∀ n ds Qd, ds_law_any n ds Qd → a_law_any (prev_law_any n) { nx := fun _ => Qd .none, rt := Qd } (startE N_law_any.length (.tape :: ds.map Cell.d)) := by
  rintro n ds Qd ⟨deep, rfl, hd, hq⟩
  show a_law_any _ _ [.tape, .d (.int deep), .un, .un, .un]
  unfold a_law_any
  walk_at "vc"
  refine ⟨by decide, by decide, fun w w0 w1 => ?_⟩
  unfold a_law_any_2
  walk_at "vc"
  have rest : a_law_any_5 (prev_law_any n) { nx := fun _ => Qd .none, rt := Qd } [.tape, .d (.int deep), .d (.int w), .un, .un] ∨ w < 4 ∧ 0 < deep := by
    by_cases hw : w < 4 ∧ 0 < deep
    · exact .inr hw
    · refine .inl ?_
      unfold a_law_any_5
      walk_at "vc"
      split
      · refine ⟨by decide, by decide, fun r r0 r1 => ⟨⟨by decide, by decide, by decide⟩, by decide, by decide, fun r2 r20 r21 => ⟨by decide, ix_list (by split <;> omega) (by simp; split <;> omega) fun d hd => ?_⟩⟩⟩
        have hm := mem_get hd
        simp only [List.mem_cons, List.not_mem_nil, or_false] at hm
        rcases hm with rfl | rfl | rfl <;> exact hq _ (.int _)
      · unfold a_law_any_7
        walk_at "vc"
        refine ⟨by decide, ?_⟩
        unfold a_law_any_8
        walk_at "vc"
        refine ⟨by decide, by decide, fun r r0 r1 => ix_list r0 (by simpa using r1) fun x hx => ?_⟩
        refine fun y hy => ⟨by decide, ix_list (by omega) (by simp; omega) fun d hd => ?_⟩
        have hm := mem_get hd
        simp only [List.mem_cons, List.not_mem_nil, or_false] at hm
        rcases hm with rfl | rfl | rfl | rfl | rfl
        · exact hq _ (.bool _)
        · exact hq _ (.bool _)
        · exact hq _ .none
        · have hm := mem_get hx
          simp only [List.mem_cons, List.not_mem_nil, or_false] at hm
          rcases hm with rfl | rfl | rfl | rfl | rfl | rfl | rfl | rfl | rfl | rfl | rfl | rfl <;> exact hq _ (.str (by decide +kernel) (by decide +kernel))
        · exact hq _ (.of_line hy (Nat.le_refl _))
  by_cases h4 : w < 4
  · rw [if_pos h4]
    by_cases h0 : 0 < deep
    · rw [if_pos h0]
      obtain ⟨m, rfl⟩ : ∃ m, n = m + 1 := ⟨n - 1, by omega⟩
      refine ⟨by decide, by decide, fun r r0 r1 => ⟨⟨by omega, by omega⟩, by rw [rngD_len]; exact sl_of (by omega), fun i acc => acc.length = i ∧ ∀ y ∈ acc, Gd m 30 y, ⟨rfl, fun _ h => nomatch h⟩, fun i d acc _ hI => ⟨deep - 1, rfl, by omega, fun e he => ⟨by rw [List.length_append, hI.1]; rfl, all_snoc hI.2 he⟩⟩, fun acc hI => ?_⟩⟩
      rw [rngD_len] at hI
      unfold a_law_any_4
      walk_at "vc"
      refine ⟨by decide, ix_list (by omega) (by simp; omega) fun d hd => ?_⟩
      have hm := mem_get hd
      simp only [List.mem_cons, List.not_mem_nil, or_false] at hm
      rcases hm with rfl | rfl | rfl | rfl
      · exact hq _ (.list (by omega) hI.2)
      · exact hq _ (.tuple (by omega) hI.2)
      · exact hq _ (.tuple (by omega) hI.2)
      · exact hq _ (.tuple (by omega) hI.2)
    · rw [if_neg h0]
      exact rest.resolve_right fun z => h0 z.2
  · rw [if_neg h4]
    refine ite_no Bool.false_ne_true ?_
    exact rest.resolve_right fun z => h4 z.1
def a_law_is_edit_7 : AS :=
  (aRet (aOrV (aAndV (aOp fEq (aOp fIx (aVar 0) (aC (.int 0))) (aC (.str (Str.ofString "drop")))) (aOp fEq (aCall fLen (aCons (aVar 0) aNil)) (aC (.int 2)))) (aAndV (aOp fEq (aOp fIx (aVar 0) (aC (.int 0))) (aC (.str (Str.ofString "turn")))) (aAndV (aOp fEq (aCall fLen (aCons (aVar 0) aNil)) (aC (.int 3))) (aCall ds_law_is_line (aCons (aOp fIx (aVar 0) (aC (.int 2))) aNil))))))
def a_law_is_edit_5 : AS :=
  (aSeq (aIfS (aNot (aTest (aChain fLe fLt (aC (.int 0)) (aOp fIx (aVar 0) (aC (.int 1))) (aVar 1))))
      (aRet (aC (.bool false)))
      aNext)
      a_law_is_edit_7)
def a_law_is_edit_3 : AS :=
  (aSeq (aIfS (aAnd (aTest (aOp fEq (aOp fIx (aVar 0) (aC (.int 0))) (aC (.str (Str.ofString "put"))))) (aTest (aIsi "str" (aOp fIx (aVar 0) (aC (.int 0))))))
      (aRet (aAndV (aOp fEq (aCall fLen (aCons (aVar 0) aNil)) (aC (.int 3))) (aAndV (aChain fLe fLe (aC (.int 0)) (aOp fIx (aVar 0) (aC (.int 1))) (aVar 1)) (aAndV (aCall ds_law_is_body (aCons (aOp fIx (aVar 0) (aC (.int 2))) aNil)) (aChain fLt fLt (aC (.int 0)) (aCall fLen (aCons (aOp fIx (aVar 0) (aC (.int 2))) aNil)) (aC (.int 6)))))))
      aNext)
      a_law_is_edit_5)
def a_law_is_edit : AS :=
  (aSeq (aIfS (aOr (aNot (aTest (aIsi "tuple" (aVar 0)))) (aOr (aTest (aOp fNotIn (aCall fLen (aCons (aVar 0) aNil)) (aTup (aCons (aC (.int 2)) (aCons (aC (.int 3)) aNil))))) (aNot (aTest (aCall ds_law_whole (aCons (aOp fIx (aVar 0) (aC (.int 1))) aNil))))))
      (aRet (aC (.bool false)))
      aNext)
      a_law_is_edit_3)
def a_law_is_draft_4 : AS :=
  (aRet (aOp fEq (aSortSet (aVar 3)) (aVar 3)))
def a_law_is_draft_3 : AS :=
  (aSeq (aSet 3 (aLc (aiTup (aVar 0)) (agName 4) atYes (aOp fAdd (aOp fMulP (aC (.int 2)) (aOp fIx (aVar 4) (aC (.int 1)))) (aCall fInt (aCons (aOp fNe (aOp fIx (aVar 4) (aC (.int 0))) (aC (.str (Str.ofString "put")))) aNil))) [4]))
      a_law_is_draft_4)
def a_law_is_draft : AS :=
  (aSeq (aIfS (aOr (aNot (aTest (aIsi "tuple" (aVar 0)))) (aOr (aTest (aOp fGt (aCall fLen (aCons (aVar 0) aNil)) (aC (.int 20)))) (aTest (aOp fNe (aLc (aiTup (aVar 0)) (agName 2) (aNot (aTest (aCall ds_law_is_edit (aCons (aVar 2) (aCons (aVar 1) aNil))))) (aVar 2) [2]) (aLst aNil)))))
      (aRet (aC (.bool false)))
      aNext)
      a_law_is_draft_3)
theorem vc_law_is_edit : ∀ ds Qd, ds_law_is_edit ds Qd → a_law_is_edit { nx := fun _ => Qd .none, rt := Qd } (startE N_law_is_edit.length (ds.map Cell.d)) := by
  rintro ds Qd ⟨d, n, L, many, rfl, hd, hn, hL, hq⟩
  show a_law_is_edit _ [.d d, .d (.int many)]
  unfold a_law_is_edit
  walk_at "vc"
  refine ⟨isTup d, kit_tup hd.nd, ?_⟩
  cases hd with
  | @tuple m _ xs hl hx =>
    refine ite_no (show ¬ (!true) = true by decide) ?_
    walk_at "vc"
    match xs, hl, hx, hq with
    | [], hl, hx, hq => exact ⟨by decide, rfl, rfl, ite_yes (by simp [inD, PyData.eqv]) hq⟩
    | [x], hl, hx, hq => rw [ed_one] at hq; exact ⟨by decide, rfl, rfl, ite_yes (by simp [inD, PyData.eqv]) hq⟩
    | x :: y :: z :: z2 :: r, hl, hx, hq =>
      rw [ed_long] at hq
      have n2 : ¬ ((((x :: y :: z :: z2 :: r).length : Nat) : Int) = 2) := by simp; omega
      have n3 : ¬ ((((x :: y :: z :: z2 :: r).length : Nat) : Int) = 3) := by simp; omega
      refine ⟨by decide, rfl, rfl, ite_yes ?_ hq⟩
      generalize ((x :: y :: z :: z2 :: r).length : Nat) = N at n2 n3
      simp [inD, PyData.eqv, n2, n3]
      try omega
    | [x, y], hl, hx, hq =>
      have gx := hx x List.mem_cons_self
      have gy := hx y (List.mem_cons_of_mem _ List.mem_cons_self)
      refine ⟨by decide, rfl, rfl, ite_no (by simp [inD, PyData.eqv]) ?_⟩
      rw [ixt1]
      refine ⟨gy.nd, ?_⟩
      cases gy with
      | int k =>
        refine ite_no (show ¬ (!true) = true by decide) ?_
        unfold a_law_is_edit_3
        walk_at "vc"
        refine eq_w gx (by omega) w_ok.1 ?_
        cases hp : isW wPut x with
        | true =>
          obtain rfl := isW_str hp
          rw [ed_two_x] at hq
          refine ite_yes hp ⟨true, rfl, ite_yes rfl (ite_no (by decide) ?_)⟩
          rw [show isW wDrop (.str wPut) = false by decide +kernel, Bool.false_and] at hq
          exact hq
        | false =>
          refine ite_no Bool.false_ne_true (ite_no Bool.false_ne_true ?_)
          rw [ed_two_x] at hq
          unfold a_law_is_edit_5
          walk_at "vc"
          by_cases h0 : 0 ≤ k
          · refine ite_yes h0 ?_
            by_cases h1 : k < (many : Int)
            · refine ite_no (by simp [h1]) ?_
              rw [decide_eq_true h0, decide_eq_true h1, Bool.true_and, Bool.and_true] at hq
              unfold a_law_is_edit_7
              walk_at "vc"
              refine eq_w gx (by omega) w_ok.2.1 ?_
              cases hdr : isW wDrop x with
              | true =>
                rw [hdr] at hq
                exact ite_yes rfl (ite_yes (by decide) hq)
              | false =>
                rw [hdr] at hq
                refine ite_no Bool.false_ne_true (ite_no Bool.false_ne_true ?_)
                refine eq_w gx (by omega) w_ok.2.2 ?_
                cases htu : isW wTurn x with
                | true => exact ite_yes rfl (ite_no (by decide) hq)
                | false => exact ite_no Bool.false_ne_true hq
            · refine ite_yes (by simp [h1]) ?_
              rw [decide_eq_true h0, decide_eq_false h1, Bool.true_and, Bool.and_false] at hq
              exact hq
          · refine ite_no h0 (ite_yes rfl ?_)
            rw [decide_eq_false h0, Bool.false_and, Bool.and_false] at hq
            exact hq
      | _ => rw [ed_ni rfl] at hq; exact ite_yes (show (!false) = true by decide) hq
    | [x, y, z], hl, hx, hq =>
      have gx := hx x List.mem_cons_self
      have gy := hx y (List.mem_cons_of_mem _ List.mem_cons_self)
      have gz := hx z (by simp)
      refine ⟨by decide, rfl, rfl, ite_no (by simp [inD, PyData.eqv]) ?_⟩
      rw [ixt1]
      refine ⟨gy.nd, ?_⟩
      cases gy with
      | int k =>
        refine ite_no (show ¬ (!true) = true by decide) ?_
        unfold a_law_is_edit_3
        walk_at "vc"
        refine eq_w gx (by omega) w_ok.1 ?_
        cases hp : isW wPut x with
        | true =>
          obtain rfl := isW_str hp
          rw [ed_three_x, show isW wTurn (.str wPut) = false by decide +kernel, hp, Bool.false_and, Bool.false_or, Bool.true_and] at hq
          refine ite_yes hp ⟨true, rfl, ite_yes rfl (ite_yes (by decide) ?_)⟩
          by_cases h0 : 0 ≤ k
          · refine ite_yes h0 ?_
            rw [decide_eq_true h0, Bool.true_and] at hq
            by_cases h1 : k ≤ (many : Int)
            · refine ite_yes h1 ?_
              rw [decide_eq_true h1, Bool.true_and] at hq
              refine dsof gz (by omega) hL ?_
              cases hb : isBodyD z with
              | false => rw [hb] at hq; exact ite_no Bool.false_ne_true hq
              | true =>
                rw [hb, Bool.true_and] at hq
                obtain ⟨zs, rfl⟩ := body_tup hb
                refine ite_yes rfl ?_
                have e1 : isEditD.lenD (PyData.tuple zs) = zs.length := rfl
                rw [e1] at hq
                by_cases h2 : (0 : Int) < (zs.length : Int)
                · refine ite_yes h2 ?_
                  rw [decide_eq_true (show 1 ≤ zs.length by omega), Bool.true_and, show decide (zs.length ≤ 5) = decide ((zs.length : Int) < 6) from decide_eq_decide.mpr (by omega)] at hq
                  exact hq
                · refine ite_no h2 ?_
                  rw [decide_eq_false (show ¬ 1 ≤ zs.length by omega), Bool.false_and] at hq
                  exact hq
            · refine ite_no h1 ?_
              rw [decide_eq_false h1, Bool.false_and] at hq
              exact hq
          · refine ite_no h0 (ite_no Bool.false_ne_true ?_)
            rw [decide_eq_false h0, Bool.false_and] at hq
            exact hq
        | false =>
          refine ite_no Bool.false_ne_true (ite_no Bool.false_ne_true ?_)
          rw [ed_three_x, hp, Bool.false_and, Bool.or_false] at hq
          unfold a_law_is_edit_5
          walk_at "vc"
          by_cases h0 : 0 ≤ k
          · refine ite_yes h0 ?_
            rw [decide_eq_true h0, Bool.true_and] at hq
            by_cases h1 : k < (many : Int)
            · refine ite_no (by simp [h1]) ?_
              rw [decide_eq_true h1, Bool.true_and] at hq
              unfold a_law_is_edit_7
              walk_at "vc"
              refine eq_w gx (by omega) w_ok.2.1 ?_
              have tail : fEq x (.str wTurn) (fun x => match x with | PyData.bool k => if k = true then (if (((0 + 1 + 1 + 1 : Nat)) : Int) = 3 then ds_law_is_line [z] Qd else Qd (PyData.bool false)) else Qd (PyData.bool false) | _ => False) := by
                refine eq_w gx (by omega) w_ok.2.2 ?_
                cases htu : isW wTurn x with
                | true =>
                  rw [htu, Bool.true_and] at hq
                  exact ite_yes rfl (ite_yes (by decide) (dsof gz (by omega) hL hq))
                | false =>
                  rw [htu, Bool.false_and] at hq
                  exact ite_no Bool.false_ne_true hq
              cases hdr : isW wDrop x with
              | true => exact ite_yes rfl (ite_no (by decide) tail)
              | false => exact ite_no Bool.false_ne_true (ite_no Bool.false_ne_true tail)
            · refine ite_yes (by simp [h1]) ?_
              rw [decide_eq_false h1, Bool.false_and, Bool.and_false] at hq
              exact hq
          · refine ite_no h0 (ite_yes rfl ?_)
            rw [decide_eq_false h0, Bool.false_and] at hq
            exact hq
      | _ => rw [ed_ni rfl] at hq; exact ite_yes (show (!false) = true by decide) hq
  | _ => exact ite_yes (show (!false) = true by decide) hq
theorem vc_law_is_draft : ∀ ds Qd, ds_law_is_draft ds Qd → a_law_is_draft { nx := fun _ => Qd .none, rt := Qd } (startE N_law_is_draft.length (ds.map Cell.d)) := by
  rintro ds Qd ⟨d, n, L, many, rfl, hd, hn, hL, hM, hq⟩
  show a_law_is_draft _ [.d d, .d (.int many), .un, .un, .un]
  unfold a_law_is_draft
  walk_at "vc"
  refine ⟨isTup d, kit_tup hd.nd, ?_⟩
  cases hd with
  | @tuple m _ xs hl hx =>
    refine ite_no (show ¬ (!true) = true by decide) ?_
    have hb : isDraftD many (.tuple xs) = (decide (xs.length ≤ 20) && (xs.all (isEditD many) && decide ((xs.map plD).Pairwise (· < ·)))) := rfl
    rw [hb] at hq
    by_cases h1 : (20 : Int) < (xs.length : Int)
    · rw [decide_eq_false (by omega)] at hq
      exact ite_yes h1 hq
    · rw [decide_eq_true (by omega), Bool.true_and] at hq
      refine ite_no h1 ?_
      refine ⟨sl_of (by omega), fun i acc => acc = (xs.take i).filter fun y => !isEditD many y, rfl, ?_, ?_⟩
      · rintro i d acc hdi rfl
        refine ⟨d, m, L, many, rfl, hx d (mem_get hdi), by omega, hL, ?_⟩
        dsimp only
        rw [take_at hdi, List.filter_append]
        cases hs : isEditD many d with
        | true => exact ite_no (by simp) (by simp [hs])
        | false => exact ite_yes rfl (by simp [hs])
      · rintro acc rfl
        rw [List.take_length]
        refine ⟨by decide, ?_⟩
        have sh : ∀ y ∈ xs.filter (fun y => !isEditD many y), Gd m L y := fun y hy => hx y (List.mem_filter.mp hy).1
        have e : PyData.eqv (.list (xs.filter fun y => !isEditD many y)) (.list []) = xs.all (isEditD many) := by
          cases hf : xs.filter fun y => !isEditD many y with
          | nil =>
            rw [List.filter_eq_nil_iff] at hf
            simp only [PyData.eqv, PyData.eqvAll]
            symm
            rw [List.all_eq_true]
            intro k hk
            simpa using hf k hk
          | cons a r =>
            simp only [PyData.eqv, PyData.eqvAll]
            symm
            have ha : a ∈ xs.filter fun y => !isEditD many y := by rw [hf]; exact List.mem_cons_self ..
            rw [List.mem_filter] at ha
            rw [List.all_eq_false]
            exact ⟨a, ha.1, by simpa using ha.2⟩
        refine .inr ⟨(Sh.list (n := m) fun y hy => (sh y hy).sh).shaped (by omega), by decide, ?_⟩
        rw [e]
        cases ha : xs.all (isEditD many) with
        | false =>
          rw [ha] at hq
          exact ite_yes rfl hq
        | true =>
          rw [ha, Bool.true_and] at hq
          have hed : ∀ y ∈ xs, isEditD many y = true := List.all_eq_true.mp ha
          refine ite_no (show ¬ (!true) = true by decide) ?_
          unfold a_law_is_draft_3
          walk_at "vc"
          refine ⟨sl_of (by omega), fun i acc => acc = (xs.take i).map (fun y => PyData.int (plD y)), rfl, ?_, ?_⟩
          · rintro i d acc hdi rfl
            obtain ⟨w, k, r, rfl, k0, k1⟩ := edit_shape (hed d (mem_get hdi))
            have hw : Gd 0 L (.str w) := by
              cases hx _ (mem_get hdi) with
              | tuple _ h2 =>
                cases h2 _ List.mem_cons_self with
                | str h0 h => exact .str h0 h
            walk_at "vc"
            refine ⟨cmul_two k0 (by omega), ne_w hw (by decide) w_ok.1 ?_⟩
            dsimp only
            rw [take_at hdi, List.map_append]
            have e : (if (!isW wPut (.str w)) = true then (1 : Int) else 0) = if w = wPut then 0 else 1 := by
              by_cases h : w = wPut <;> simp [isW, h]
            rw [e]; rfl
          · rintro acc rfl
            rw [List.take_length]
            unfold a_law_is_draft_4
            walk_at "vc"
            refine ⟨xs.map plD, by rw [List.map_map]; rfl, by rw [List.length_map]; omega, fun ms h2 h3 => ?_⟩
            have e2 : xs.map (fun y => PyData.int (plD y)) = (xs.map plD).map PyData.int := by rw [List.map_map]; rfl
            dsimp only
            rw [e2]
            exact eq_sorted h2 h3 hq
  | _ => exact ite_yes (show (!false) = true by decide) hq
/-! texts cut at a sign -/
theorem spl_step (s : Nat) (acc : List Nat) (c : Nat) (r : List Nat) : TL.spl [s] 0 acc (c :: r) = if c = s then acc :: TL.spl [s] 0 [] r else TL.spl [s] 0 (acc ++ [c]) r := by
  by_cases h : c = s
  · rw [if_pos h, TL.spl_hit (by subst h; simp [TL.pre])]; rfl
  · rw [if_neg h, TL.spl_miss (TL.pre_of_head [] r h)]
structure Cuts (s : Nat) (l : List Nat) (ps : List (List Nat)) : Prop where
  back : ∃ p r, ps = p :: r ∧ p ++ (r.map (s :: ·)).flatten = l
  few : ps.length ≤ l.length + 1
  small : ∀ q ∈ ps, q.length ≤ l.length ∧ ∀ k ∈ q, k ∈ l
theorem cuts_of (s : Nat) : ∀ (l acc : List Nat), ∃ p r, TL.spl [s] 0 acc l = p :: r ∧ p ++ (r.map (s :: ·)).flatten = acc ++ l ∧ acc.length ≤ p.length ∧ r.length ≤ l.length ∧ ∀ q ∈ p :: r, q.length ≤ acc.length + l.length ∧ ∀ k ∈ q, k ∈ acc ∨ k ∈ l
  | [], acc => ⟨acc, [], TL.spl_nil _ _ _, by simp, Nat.le_refl _, Nat.le_refl _, fun q hq => by
      rw [List.mem_singleton] at hq; subst hq
      exact ⟨Nat.le_add_right .., fun k hk => .inl hk⟩⟩
  | c :: l, acc => by
    rw [spl_step]
    by_cases h : c = s
    · rw [if_pos h]
      obtain ⟨p, r, h1, h2, _, h3, h4⟩ := cuts_of s l []
      refine ⟨acc, p :: r, by rw [h1], ?_, Nat.le_refl _, by simp; omega, fun q hq => ?_⟩
      · rw [List.map_cons, List.flatten_cons, List.cons_append, h2, h]; rfl
      · rcases List.mem_cons.mp hq with rfl | hq
        · exact ⟨Nat.le_add_right .., fun k hk => .inl hk⟩
        · have := h4 q hq
          refine ⟨by have := this.1; simp at this ⊢; omega, fun k hk => .inr (List.mem_cons_of_mem _ ?_)⟩
          rcases this.2 k hk with h | h
          · cases h
          · exact h
    · rw [if_neg h]
      obtain ⟨p, r, h1, h2, h0, h3, h4⟩ := cuts_of s l (acc ++ [c])
      refine ⟨p, r, h1, by rw [h2, List.append_assoc]; rfl, by simp at h0; omega, by simp; omega, fun q hq => ?_⟩
      have := h4 q hq
      refine ⟨by have := this.1; simp at this ⊢; omega, fun k hk => ?_⟩
      rcases this.2 k hk with h | h
      · rcases List.mem_append.mp h with h | h
        · exact .inl h
        · rw [List.mem_singleton] at h; subst h; exact .inr (List.mem_cons_self ..)
      · exact .inr (List.mem_cons_of_mem _ h)
theorem split_cl {sep : Str} {s : Nat} (e : cl sep = [s]) (hk : sep.cps.all (· < 256) = true) (x : Str) : (Txt.split x sep).map cl = TL.spl [s] 0 [] (cl x) := by
  have h := TL.split_spl x sep (by rw [show TL.tl sep = [s] from e]; simp) (TL.kind_ok hk)
  rw [show TL.tl sep = [s] from e] at h
  exact h
theorem map_cl_inj {l m : List Str} (h : l.map cl = m.map cl) : l = m := TL.map_tl_inj h
theorem strOk_sub {x y : Str} (h : PyData.strOk x = true) (hs : ∀ k ∈ cl y, k ∈ cl x) : PyData.strOk y = true := strOk_of fun k hk => by
  have hk2 := hs k hk
  unfold PyData.strOk at h
  rw [Array.all_eq_true'] at h
  exact of_decide_eq_true (h k (Array.mem_toList_iff.mp hk2))
structure SplitOk (s : Nat) (x : Str) (ps : List Str) : Prop where
  back : ∃ p r, ps = p :: r ∧ cl p ++ (r.map fun q => s :: cl q).flatten = cl x
  few : ps.length ≤ x.length + 1
  small : ∀ q ∈ ps, q.length ≤ x.length ∧ (PyData.strOk x = true → PyData.strOk q = true)
theorem split_ok {sep : Str} {s : Nat} (e : cl sep = [s]) (hk : sep.cps.all (· < 256) = true) (x : Str) : SplitOk s x (Txt.split x sep) := by
  obtain ⟨p, r, h1, h2, _, h3, h4⟩ := cuts_of s (cl x) []
  have h := split_cl e hk x
  rw [h1] at h
  match hs : Txt.split x sep, h with
  | q :: t, h =>
    rw [List.map_cons, List.cons.injEq] at h
    obtain ⟨rfl, rfl⟩ := h
    refine ⟨⟨q, t, rfl, ?_⟩, ?_, fun z hz => ?_⟩
    · rw [List.map_map] at h2; exact h2
    · rw [List.length_map, cl_len] at h3; rw [List.length_cons]; omega
    · have := h4 (cl z) (by rw [← List.map_cons]; exact List.mem_map_of_mem hz)
      refine ⟨by have := this.1; rw [cl_len, cl_len] at this; simpa using this, fun ho => strOk_sub ho fun k hk => ?_⟩
      rcases this.2 k hk with h | h
      · cases h
      · exact h
  | [], h => simp at h
theorem SplitOk.gd {s : Nat} {x : Str} {ps : List Str} (h : SplitOk s x ps) {n L : Nat} (ho : PyData.strOk x = true) (hl : x.length + 1 ≤ L) : Gd (n + 1) L (.tuple (ps.map PyData.str)) := .tuple (by rw [List.length_map]; have := h.few; omega) fun d hd => by
  obtain ⟨q, hq, rfl⟩ := List.mem_map.mp hd
  have := h.small q hq
  exact .str (by have := this.1; omega) (this.2 ho)
/-- cut behind the first sign -/
theorem split_first {sep : Str} {s : Nat} (e : cl sep = [s]) (hk : sep.cps.all (· < 256) = true) {x y : Str} (hx : cl x = s :: cl y) : Txt.split x sep = Str.ofString "" :: Txt.split y sep := by
  apply map_cl_inj
  rw [split_cl e hk, hx, spl_step, if_pos rfl, List.map_cons, split_cl e hk, cl_empty]
theorem bar_k : bar.cps.all (· < 256) = true := by decide +kernel
/-- the body that a text writes -/
def readB (x : Str) : Option (List Str) :=
  let ps := (Txt.split x bar).tail
  if isBodyD (.tuple (ps.map PyData.str)) = true ∧ cl x = (ps.map fun q => 124 :: cl q).flatten then some ps else none
def readD : D → Option (List Str) | .str x => readB x | _ => none
def textW : D := .str (Str.ofString "text")
def dueOf (d : D) : D := match readD d with | some ps => bodyD ps | none => textW
theorem lines_of {ps : List Str} (h : isBodyD (.tuple (ps.map PyData.str)) = true) : ps.length ≤ 60 ∧ Lines ps := by
  have h' : (decide ((ps.map PyData.str).length ≤ 60) && (ps.map PyData.str).all isLineD) = true := h
  rw [Bool.and_eq_true, decide_eq_true_eq, List.length_map, List.all_eq_true] at h'
  exact ⟨h'.1, fun x hx => lineB_iff.mp (h'.2 _ (List.mem_map_of_mem hx))⟩
theorem readB_ok {x : Str} {ps : List Str} (h : readB x = some ps) : ps.length ≤ 60 ∧ Lines ps := by
  unfold readB at h
  dsimp only at h
  split at h
  · rename_i hc
    cases h
    exact lines_of hc.1
  · cases h
theorem readD_ok {d : D} {ps : List Str} (h : readD d = some ps) : ps.length ≤ 60 ∧ Lines ps := by
  cases d <;> first | exact readB_ok h | cases h
theorem due_sh (d : D) : Sh 1 (dueOf d) := by
  unfold dueOf
  split
  · rename_i ps h
    exact sh_sheet (readD_ok h).2
  · exact .str (by decide +kernel)
theorem readB_text {xs : List Str} (h : Lines xs) (hl : xs.length ≤ 60) : readB (bodyText xs) = some xs := by
  have hb := cl_bodyText xs
  have hs : Txt.split (bodyText xs) bar = Str.ofString "" :: xs := by
    cases hxs : xs with
    | nil =>
      apply map_cl_inj
      rw [split_cl cl_bar bar_k, cl_bodyText]
      exact (show TL.spl [124] 0 [] [] = [cl (Str.ofString "")] by rw [TL.spl_nil, cl_empty])
    | cons a r =>
      rw [← hxs]
      have hne : xs ≠ [] := by rw [hxs]; simp
      have e : cl (bodyText xs) = 124 :: cl (cutS (bodyText xs) (some 1) none) := by
        rw [cl_cut, hb, bodyText_join hne, show ((1 : Int)) = ((1 : Nat) : Int) from rfl, cut_from _ 1 (by simp)]; rfl
      rw [split_first cl_bar bar_k e, body_back hne h]
  unfold readB
  simp only [hs, List.tail_cons]
  rw [if_pos ⟨body_is h hl, hb⟩]
/-- by its first sign -/
theorem readB_nil : readB (Str.ofString "") = some [] := by
  have h := readB_text (xs := []) (fun _ h => nomatch h) (by decide)
  rwa [show bodyText [] = Str.ofString "" from str_ext (by rw [cl_bodyText, cl_empty]; rfl)] at h
theorem readB_other {x : Str} {k : Nat} {r : List Nat} (h : cl x = k :: r) (hk : k ≠ 124) : readB x = none := by
  unfold readB
  dsimp only
  rw [if_neg]
  rintro ⟨_, e⟩
  rw [h] at e
  match hp : (Txt.split x bar).tail, e with
  | [], e => rw [List.map_nil, List.flatten_nil] at e; cases e
  | a :: s, e => rw [List.map_cons, List.flatten_cons, List.cons_append] at e; exact hk (List.cons.inj e).1
theorem readB_bar {x y : Str} (h : cl x = 124 :: cl y) : readB x = if isBodyD (.tuple ((Txt.split y bar).map PyData.str)) = true then some (Txt.split y bar) else none := by
  have hs := split_first cl_bar bar_k h
  unfold readB
  simp only [hs, List.tail_cons]
  obtain ⟨p, r, e, hb⟩ := (split_ok cl_bar bar_k y).back
  have : cl x = ((Txt.split y bar).map fun q => 124 :: cl q).flatten := by rw [h, e, List.map_cons, List.flatten_cons, List.cons_append, hb]
  simp only [this, and_true]
/-! the word of a refusal -/
def wordTab : List (Str × Nat) := [(Str.ofString "office", 0), (Str.ofString "days", 1), (Str.ofString "desk", 2), (Str.ofString "house", 3), (Str.ofString "body", 4), (Str.ofString "name", 5), (Str.ofString "letter", 6), (Str.ofString "now", 7), (Str.ofString "draft", 8), (Str.ofString "many", 9), (Str.ofString "long", 10), (Str.ofString "count", 11), (Str.ofString "line", 12), (Str.ofString "text", 13), (Str.ofString "copy", 14), (Str.ofString "slip", 15), (Str.ofString "twice", 16), (Str.ofString "lacks", 24), (Str.ofString "number", 17), (Str.ofString "thing", 18), (Str.ofString "gone", 19), (Str.ofString "answer", 20), (Str.ofString "day", 21), (Str.ofString "left", 22), (Str.ofString "row", 23)]
def wordItem (n : Nat) (p : Str × Nat) : D := .tuple [.str p.1, .bool (decide (n = p.2))]
def wordsAt (n : Nat) (l : List (Str × Nat)) : List Str := (l.filter fun p => decide (n = p.2)).map (·.1)
def wordOf (n : Nat) : Str := (wordsAt n wordTab).headD (Str.ofString "")
theorem words_one : ∀ n, n < 25 → wordsAt n wordTab = [wordOf n] := by decide +kernel
def ds_law_word : DsX := fun args ρ Qd _ => ∃ n, args = [.exc ⟨n, []⟩] ∧ ρ = [] ∧ n < 25 ∧ Qd (.d (.str (wordOf n))) []
theorem len_law_word : ∀ args ρ Qd Ed, ds_law_word args ρ Qd Ed → args.length = 1 := by
  rintro args ρ Qd Ed ⟨_, rfl, _⟩; rfl
def a_law_word_15 : AZ :=
  (zRet (q2x (qLift (aOp fIx (aVar 2) (aC (.int 0))))))
def a_law_word_13 : AZ :=
  (zSeq (zIf (q2xt (qOr (qLiftT (aTest (aOp fNe (aCall fLen (aCons (aVar 2) aNil)) (aC (.int 1))))) (qNot (qTest (qIsX 25 (fun _ => true) (qVar 0))))))
      (zRet (q2x (qLift (aC (.str (Str.ofString "other"))))))
      zNext)
      a_law_word_15)
def a_law_word_12 : AZ :=
  (zSeq (zSet 2 (q2x (qLift (aLc (aiList (aVar 1)) (agTup 2 (agCons (agName 3) (agCons (agName 4) agNil))) (aTest (aVar 4)) (aVar 3) [3, 4]))))
      a_law_word_13)
def a_law_word_11 : AZ :=
  (zSeq (zSet 1 (q2x (qOp fAdd (qLift (aVar 1)) (qLst (qCons (qTup (qCons (qLift (aC (.str (Str.ofString "left")))) (qCons (qIsX 25 (fun k => decide (k = 22)) (qVar 0)) qNil))) (qCons (qTup (qCons (qLift (aC (.str (Str.ofString "row")))) (qCons (qIsX 25 (fun k => decide (k = 23)) (qVar 0)) qNil))) qNil))))))
      a_law_word_12)
def a_law_word_10 : AZ :=
  (zSeq (zSet 1 (q2x (qOp fAdd (qLift (aVar 1)) (qLst (qCons (qTup (qCons (qLift (aC (.str (Str.ofString "answer")))) (qCons (qIsX 25 (fun k => decide (k = 20)) (qVar 0)) qNil))) (qCons (qTup (qCons (qLift (aC (.str (Str.ofString "day")))) (qCons (qIsX 25 (fun k => decide (k = 21)) (qVar 0)) qNil))) qNil))))))
      a_law_word_11)
def a_law_word_9 : AZ :=
  (zSeq (zSet 1 (q2x (qOp fAdd (qLift (aVar 1)) (qLst (qCons (qTup (qCons (qLift (aC (.str (Str.ofString "thing")))) (qCons (qIsX 25 (fun k => decide (k = 18)) (qVar 0)) qNil))) (qCons (qTup (qCons (qLift (aC (.str (Str.ofString "gone")))) (qCons (qIsX 25 (fun k => decide (k = 19)) (qVar 0)) qNil))) qNil))))))
      a_law_word_10)
def a_law_word_8 : AZ :=
  (zSeq (zSet 1 (q2x (qOp fAdd (qLift (aVar 1)) (qLst (qCons (qTup (qCons (qLift (aC (.str (Str.ofString "lacks")))) (qCons (qIsX 25 (fun k => decide (k = 24)) (qVar 0)) qNil))) (qCons (qTup (qCons (qLift (aC (.str (Str.ofString "number")))) (qCons (qIsX 25 (fun k => decide (k = 17)) (qVar 0)) qNil))) qNil))))))
      a_law_word_9)
def a_law_word_7 : AZ :=
  (zSeq (zSet 1 (q2x (qOp fAdd (qLift (aVar 1)) (qLst (qCons (qTup (qCons (qLift (aC (.str (Str.ofString "copy")))) (qCons (qIsX 25 (fun k => decide (k = 14)) (qVar 0)) qNil))) (qCons (qTup (qCons (qLift (aC (.str (Str.ofString "slip")))) (qCons (qIsX 25 (fun k => decide (k = 15)) (qVar 0)) qNil))) (qCons (qTup (qCons (qLift (aC (.str (Str.ofString "twice")))) (qCons (qIsX 25 (fun k => decide (k = 16)) (qVar 0)) qNil))) qNil)))))))
      a_law_word_8)
def a_law_word_6 : AZ :=
  (zSeq (zSet 1 (q2x (qOp fAdd (qLift (aVar 1)) (qLst (qCons (qTup (qCons (qLift (aC (.str (Str.ofString "count")))) (qCons (qIsX 25 (fun k => decide (k = 11)) (qVar 0)) qNil))) (qCons (qTup (qCons (qLift (aC (.str (Str.ofString "line")))) (qCons (qIsX 25 (fun k => decide (k = 12)) (qVar 0)) qNil))) (qCons (qTup (qCons (qLift (aC (.str (Str.ofString "text")))) (qCons (qIsX 25 (fun k => decide (k = 13)) (qVar 0)) qNil))) qNil)))))))
      a_law_word_7)
def a_law_word_5 : AZ :=
  (zSeq (zSet 1 (q2x (qOp fAdd (qLift (aVar 1)) (qLst (qCons (qTup (qCons (qLift (aC (.str (Str.ofString "long")))) (qCons (qIsX 25 (fun k => decide (k = 10)) (qVar 0)) qNil))) qNil)))))
      a_law_word_6)
def a_law_word_4 : AZ :=
  (zSeq (zSet 1 (q2x (qOp fAdd (qLift (aVar 1)) (qLst (qCons (qTup (qCons (qLift (aC (.str (Str.ofString "draft")))) (qCons (qIsX 25 (fun k => decide (k = 8)) (qVar 0)) qNil))) (qCons (qTup (qCons (qLift (aC (.str (Str.ofString "many")))) (qCons (qIsX 25 (fun k => decide (k = 9)) (qVar 0)) qNil))) qNil))))))
      a_law_word_5)
def a_law_word_3 : AZ :=
  (zSeq (zSet 1 (q2x (qOp fAdd (qLift (aVar 1)) (qLst (qCons (qTup (qCons (qLift (aC (.str (Str.ofString "letter")))) (qCons (qIsX 25 (fun k => decide (k = 6)) (qVar 0)) qNil))) (qCons (qTup (qCons (qLift (aC (.str (Str.ofString "now")))) (qCons (qIsX 25 (fun k => decide (k = 7)) (qVar 0)) qNil))) qNil))))))
      a_law_word_4)
def a_law_word_2 : AZ :=
  (zSeq (zSet 1 (q2x (qOp fAdd (qLift (aVar 1)) (qLst (qCons (qTup (qCons (qLift (aC (.str (Str.ofString "house")))) (qCons (qIsX 25 (fun k => decide (k = 3)) (qVar 0)) qNil))) (qCons (qTup (qCons (qLift (aC (.str (Str.ofString "body")))) (qCons (qIsX 25 (fun k => decide (k = 4)) (qVar 0)) qNil))) (qCons (qTup (qCons (qLift (aC (.str (Str.ofString "name")))) (qCons (qIsX 25 (fun k => decide (k = 5)) (qVar 0)) qNil))) qNil)))))))
      a_law_word_3)
def a_law_word : AZ :=
  (zSeq (zSet 1 (q2x (qLst (qCons (qTup (qCons (qLift (aC (.str (Str.ofString "office")))) (qCons (qIsX 25 (fun k => decide (k = 0)) (qVar 0)) qNil))) (qCons (qTup (qCons (qLift (aC (.str (Str.ofString "days")))) (qCons (qIsX 25 (fun k => decide (k = 1)) (qVar 0)) qNil))) (qCons (qTup (qCons (qLift (aC (.str (Str.ofString "desk")))) (qCons (qIsX 25 (fun k => decide (k = 2)) (qVar 0)) qNil))) qNil))))))
      a_law_word_2)
theorem vc_law_word : ∀ args ρ Qd Xd, ds_law_word args ρ Qd Xd → ρ.length = 0 ∧ a_law_word { nx := fun s => Qd (.d .none) (s.r.take 0), rt := retX 0 Qd, ex := fun e s => Xd e (s.r.take 0) } ⟨startX N_law_word.length args, ρ ++ List.replicate 0 .gone, []⟩ := by
  rintro args ρ Qd Xd ⟨n, rfl, rfl, hn, hq⟩
  refine ⟨rfl, ?_⟩
  show a_law_word _ ⟨[.exc ⟨n, []⟩, .un, .un, .un, .un], [], []⟩
  unfold a_law_word
  walk_at "vz"
  simp only [hn, true_and]
  refine ⟨by decide, by decide, by decide, by decide, ?_⟩
  show a_law_word_2 _ ⟨[.exc ⟨n, []⟩, .d (.list ((wordTab.take 3).map (wordItem n))), .un, .un, .un], [], []⟩
  unfold a_law_word_2
  walk_at "vz"
  simp only [hn, true_and]
  refine ⟨by decide, by decide, by decide, by decide, by decide, ?_⟩
  show a_law_word_3 _ ⟨[.exc ⟨n, []⟩, .d (.list ((wordTab.take 6).map (wordItem n))), .un, .un, .un], [], []⟩
  unfold a_law_word_3
  walk_at "vz"
  simp only [hn, true_and]
  refine ⟨by decide, by decide, by decide, by decide, ?_⟩
  show a_law_word_4 _ ⟨[.exc ⟨n, []⟩, .d (.list ((wordTab.take 8).map (wordItem n))), .un, .un, .un], [], []⟩
  unfold a_law_word_4
  walk_at "vz"
  simp only [hn, true_and]
  refine ⟨by decide, by decide, by decide, by decide, ?_⟩
  show a_law_word_5 _ ⟨[.exc ⟨n, []⟩, .d (.list ((wordTab.take 10).map (wordItem n))), .un, .un, .un], [], []⟩
  unfold a_law_word_5
  walk_at "vz"
  simp only [hn, true_and]
  refine ⟨by decide, by decide, by decide, ?_⟩
  show a_law_word_6 _ ⟨[.exc ⟨n, []⟩, .d (.list ((wordTab.take 11).map (wordItem n))), .un, .un, .un], [], []⟩
  unfold a_law_word_6
  walk_at "vz"
  simp only [hn, true_and]
  refine ⟨by decide, by decide, by decide, by decide, by decide, ?_⟩
  show a_law_word_7 _ ⟨[.exc ⟨n, []⟩, .d (.list ((wordTab.take 14).map (wordItem n))), .un, .un, .un], [], []⟩
  unfold a_law_word_7
  walk_at "vz"
  simp only [hn, true_and]
  refine ⟨by decide, by decide, by decide, by decide, by decide, ?_⟩
  show a_law_word_8 _ ⟨[.exc ⟨n, []⟩, .d (.list ((wordTab.take 17).map (wordItem n))), .un, .un, .un], [], []⟩
  unfold a_law_word_8
  walk_at "vz"
  simp only [hn, true_and]
  refine ⟨by decide, by decide, by decide, by decide, ?_⟩
  show a_law_word_9 _ ⟨[.exc ⟨n, []⟩, .d (.list ((wordTab.take 19).map (wordItem n))), .un, .un, .un], [], []⟩
  unfold a_law_word_9
  walk_at "vz"
  simp only [hn, true_and]
  refine ⟨by decide, by decide, by decide, by decide, ?_⟩
  show a_law_word_10 _ ⟨[.exc ⟨n, []⟩, .d (.list ((wordTab.take 21).map (wordItem n))), .un, .un, .un], [], []⟩
  unfold a_law_word_10
  walk_at "vz"
  simp only [hn, true_and]
  refine ⟨by decide, by decide, by decide, by decide, ?_⟩
  show a_law_word_11 _ ⟨[.exc ⟨n, []⟩, .d (.list ((wordTab.take 23).map (wordItem n))), .un, .un, .un], [], []⟩
  unfold a_law_word_11
  walk_at "vz"
  simp only [hn, true_and]
  refine ⟨by decide, by decide, by decide, by decide, ?_⟩
  show a_law_word_12 _ ⟨[.exc ⟨n, []⟩, .d (.list ((wordTab.take 25).map (wordItem n))), .un, .un, .un], [], []⟩
  rw [show wordTab.take 25 = wordTab from rfl]
  unfold a_law_word_12
  walk_at "vz"
  refine ⟨by decide, fun k acc => acc = (wordsAt n (wordTab.take k)).map PyData.str, rfl, ?_, ?_⟩
  · rintro k d acc hd rfl
    obtain ⟨p, hp, rfl⟩ := map_at hd
    unfold wordItem
    walk_at "vz"
    unfold wordsAt
    rw [take_at hp, List.filter_append, List.map_append, List.map_append]
    split
    · rename_i h
      rw [List.filter_cons_of_pos (by simpa using h)]; rfl
    · rename_i h
      rw [List.filter_cons_of_neg (by simpa using h)]; simp
  · rintro acc rfl
    rw [List.take_length, words_one n hn]
    unfold a_law_word_13
    walk_at "vz"
    simp only [hn, true_and]
    refine ite_no (by decide) (ite_no (by decide) ?_)
    unfold a_law_word_15
    walk_at "vz"
    exact hq
def ds_need_text : DsX := fun args ρ Qd Xd => ∃ (d : D) (n L : Nat), args = [.d d] ∧ ρ = [] ∧ Gd n L d ∧ (isStr d = false → Xd ⟨13, []⟩ []) ∧ (isStr d = true → Qd (.d .none) [])
theorem len_need_text : ∀ args ρ Qd Xd, ds_need_text args ρ Qd Xd → args.length = 1 := by
  rintro args ρ Qd Xd ⟨_, _, _, rfl, _⟩; rfl
def a_need_text : AZ :=
  (zIf (q2xt (qLiftT (aNot (aTest (aIsi "str" (aVar 0))))))
      (zRaise 13)
      zNext)
theorem vc_need_text : ∀ args ρ Qd Xd, ds_need_text args ρ Qd Xd → ρ.length = 0 ∧ a_need_text { nx := fun s => Qd (.d .none) (s.r.take 0), rt := retX 0 Qd, ex := fun e s => Xd e (s.r.take 0) } ⟨startX N_need_text.length args, ρ ++ List.replicate 0 .gone, []⟩ := by
  rintro args ρ Qd Xd ⟨d, n, L, rfl, rfl, hd, h1, h2⟩
  refine ⟨rfl, ?_⟩
  show a_need_text _ ⟨[.d d], [], []⟩
  unfold a_need_text
  walk_at "vz"
  refine ⟨isStr d, kit_str hd.nd, ?_⟩
  cases h : isStr d
  · exact ite_yes rfl (h1 h)
  · exact ite_no (by decide) (h2 h)
def ds_read_body : DsX := fun args ρ Qd Xd => ∃ (d : D) (n L : Nat), args = [.d d] ∧ ρ = [] ∧ Gd n L d ∧ n ≤ 50 ∧ L ≤ 90000 ∧ (readD d = none → Xd ⟨13, []⟩ []) ∧ ∀ xs, readD d = some xs → Qd (.d (bodyD xs)) []
theorem len_read_body : ∀ args ρ Qd Xd, ds_read_body args ρ Qd Xd → args.length = 1 := by
  rintro args ρ Qd Xd ⟨_, _, _, rfl, _⟩; rfl
def a_read_body_6 : AZ :=
  (zSet 1 (q2x (qLift (aCall fTuple (aCons (aM1 fSplit (aSl (aVar 0) (aoSome (aC (.int 1))) aoNo) (aC (.str (Str.ofString "|")))) aNil)))))
def a_read_body_9 : AZ :=
  (zRet (q2x (qLift (aVar 1))))
def a_read_body_7 : AZ :=
  (zSeq (zIf (q2xt (qLiftT (aNot (aTest (aCall ds_is_body (aCons (aVar 1) aNil))))))
      (zRaise 13)
      zNext)
      a_read_body_9)
def a_read_body_3 : AZ :=
  (zSeq (zIf (q2xt (qLiftT (aTest (aOp fNe (aVar 0) (aC (.str (Str.ofString "")))))))
      (zSeq (zIf (q2xt (qLiftT (aTest (aOp fNe (aOp fIx (aVar 0) (aC (.int 0))) (aC (.str (Str.ofString "|")))))))
      (zRaise 13)
      zNext)
      a_read_body_6)
      zNext)
      a_read_body_7)
def a_read_body_2 : AZ :=
  (zSeq (zSet 1 (q2x (qLift (aTup aNil))))
      a_read_body_3)
def a_read_body : AZ :=
  (zSeq (zDrop (q2x (qCall ds_need_text (qCons (qLift (aVar 0)) qNil))))
      a_read_body_2)
theorem vc_read_body : ∀ args ρ Qd Xd, ds_read_body args ρ Qd Xd → ρ.length = 0 ∧ a_read_body { nx := fun s => Qd (.d .none) (s.r.take 0), rt := retX 0 Qd, ex := fun e s => Xd e (s.r.take 0) } ⟨startX N_read_body.length args, ρ ++ List.replicate 0 .gone, []⟩ := by
  rintro args ρ Qd Xd ⟨d, n, L, rfl, rfl, hd, hn, hL, h1, h2⟩
  refine ⟨rfl, ?_⟩
  show a_read_body _ ⟨[.d d, .un], [], []⟩
  unfold a_read_body
  walk_at "vz"
  refine ⟨d, n, L, rfl, rfl, hd, fun hs => h1 ?_, fun hs => ?_⟩
  · cases d <;> first | rfl | cases hs
  obtain ⟨x, rfl⟩ : ∃ x, d = .str x := by
    cases d <;> first | exact ⟨_, rfl⟩ | cases hs
  have hx : x.length ≤ L ∧ PyData.strOk x = true := by cases hd; exact ⟨by assumption, by assumption⟩
  have h1' : readB x = none → Xd ⟨13, []⟩ [] := h1
  have h2' : ∀ xs, readB x = some xs → Qd (.d (bodyD xs)) [] := h2
  unfold a_read_body_2
  walk_at "vz"
  unfold a_read_body_3
  walk_at "vz"
  refine ne_str ?_
  have fin : ∀ ps : List Str, Gd 1 100000 (.tuple (ps.map PyData.str)) → (readB x = if isBodyD (.tuple (ps.map PyData.str)) = true then some ps else none) → a_read_body_7 { nx := fun s => Qd (.d .none) (s.r.take 0), rt := retX 0 Qd, ex := fun e s => Xd e (s.r.take 0) } ⟨[.d (.str x), .d (bodyD ps)], [], []⟩ := fun ps hg hr => by
    unfold a_read_body_7
    walk_at "vz"
    refine dsof hg (by decide) (by decide) ?_
    walk_at "vz"
    cases hb : isBodyD (.tuple (ps.map PyData.str))
    · rw [if_neg (by rw [hb]; decide)] at hr
      exact ite_yes rfl (h1' hr)
    · rw [if_pos hb] at hr
      refine ite_no (by decide) ?_
      unfold a_read_body_9
      walk_at "vz"
      exact h2' _ hr
  by_cases he : x = Str.ofString ""
  · refine ite_no (by simp [he]) ?_
    exact fin [] (.tuple (by simp) (fun _ h => nomatch h)) (by rw [he, readB_nil]; rfl)
  · refine ite_yes (by simpa using he) ?_
    match hc : cl x with
    | [] => exact (he (str_ext (by rw [hc, cl_empty]))).elim
    | k :: r =>
      refine ixs_first (sl_of (by omega)) (k := k) (by rw [hc]; rfl) (ne_str ?_)
      by_cases hk : k = 124
      · subst hk
        refine ite_no (by decide +kernel) ?_
        unfold a_read_body_6
        walk_at "vz"
        have hcut : cl x = 124 :: cl (cutS x (some 1) none) := by
          rw [cl_cut, hc, show ((1 : Int)) = ((1 : Nat) : Int) from rfl, cut_from _ 1 (by simp)]; rfl
        refine ⟨sl_of (by omega), (by decide +kernel), sl_of (Nat.le_trans (Nat.add_le_add_right (cutS_len' ..) 2) (by omega)), ?_⟩
        refine fin _ ((split_ok cl_bar bar_k _).gd (strOk_cut hx.2) ?_) (readB_bar hcut)
        exact Nat.le_trans (Nat.add_le_add_right (cutS_len' ..) 1) (by omega)
      · refine ite_yes ?_ (h1' (readB_other hc hk))
        rw [Bool.not_eq_true', decide_eq_false_iff_not]
        intro e
        have := congrArg cl e
        rw [cl_one, show cl (Str.ofString "|") = [124] by decide +kernel] at this
        exact hk (List.cons.inj this).1
/-! numbers and edits that a text writes -/
def numOf (l : List Nat) : Option Nat := if l ≠ [] ∧ l.length ≤ 6 ∧ (l.head? = some 48 → l = [48]) then some (NumText.digitsVal l) else none
def digs (x : Str) : List Nat := (cl x).takeWhile digit
def sgn (x : Str) : Str := cutS x (some ((digs x).length : Int)) (some ((digs x).length + 1 : Int))
def rst (x : Str) : Str := cutS x (some ((digs x).length + 1 : Int)) none
def readE (x : Str) : Option Ed := match numOf (digs x) with
  | none => none
  | some k => if sgn x = Str.ofString "+" then (readB (rst x)).map (Ed.put k) else if sgn x = Str.ofString "-" ∧ rst x = Str.ofString "" then some (.drop k) else if sgn x = Str.ofString "=" then some (.turn k (rst x)) else none
def ds_read_number : DsX := fun args ρ Qd Xd => ∃ (w : Str), args = [.d (.str w)] ∧ ρ = [] ∧ w.length ≤ 100000 ∧ (cl w).all digit = true ∧ (numOf (cl w) = none → Xd ⟨13, []⟩ []) ∧ ∀ k, numOf (cl w) = some k → Qd (.d (.int (k : Int))) []
theorem len_read_number : ∀ args ρ Qd Xd, ds_read_number args ρ Qd Xd → args.length = 1 := by
  rintro args ρ Qd Xd ⟨_, rfl, _⟩; rfl
def a_read_number_5 : AZ :=
  (zRet (q2x (qLift (aCall fIntS (aCons (aVar 0) aNil)))))
def a_read_number_3 : AZ :=
  (zSeq (zIf (q2xt (qLiftT (aAnd (aTest (aOp fEq (aOp fIx (aVar 0) (aC (.int 0))) (aC (.str (Str.ofString "0"))))) (aTest (aOp fNe (aVar 0) (aC (.str (Str.ofString "0"))))))))
      (zRaise 13)
      zNext)
      a_read_number_5)
def a_read_number : AZ :=
  (zSeq (zIf (q2xt (qLiftT (aOr (aTest (aOp fEq (aVar 0) (aC (.str (Str.ofString ""))))) (aOr (aTest (aOp fGt (aCall fLen (aCons (aVar 0) aNil)) (aC (.int 6)))) (aNot (aTest (aCall fAll (aCons (aLc (aiStr (aVar 0)) (agName 1) atYes (aOp fInS (aVar 1) (aC (.str (Str.ofString "0123456789")))) [1]) aNil))))))))
      (zRaise 13)
      zNext)
      a_read_number_3)
theorem vc_read_number : ∀ args ρ Qd Xd, ds_read_number args ρ Qd Xd → ρ.length = 0 ∧ a_read_number { nx := fun s => Qd (.d .none) (s.r.take 0), rt := retX 0 Qd, ex := fun e s => Xd e (s.r.take 0) } ⟨startX N_read_number.length args, ρ ++ List.replicate 0 .gone, []⟩ := by
  rintro args ρ Qd Xd ⟨w, rfl, rfl, hl, hd, h1, h2⟩
  refine ⟨rfl, ?_⟩
  show a_read_number _ ⟨[.d (.str w), .un], [], []⟩
  unfold a_read_number
  walk_at "vz"
  by_cases he : w = Str.ofString ""
  · refine eq_str (ite_yes (by simpa using he) (h1 ?_))
    subst he
    rw [cl_empty]; rfl
  refine eq_str (ite_no (by simpa using he) ⟨sl_of (by omega), ?_⟩)
  have hne : cl w ≠ [] := fun e => he (str_ext (by rw [e, cl_empty]))
  by_cases h6 : 6 < w.length
  · refine ite_yes (by omega) (h1 ?_)
    unfold numOf
    rw [if_neg]
    rintro ⟨_, e, _⟩
    rw [cl_len] at e; omega
  refine ite_no (by omega) ⟨sl_of ?_, fun i acc => acc = List.replicate i (PyData.bool true), rfl, ?_, ?_⟩
  · show (Fc.signs w).length ≤ _
    unfold Fc.signs
    rw [List.length_map, cl_len]; omega
  · rintro i d acc hdd rfl
    obtain ⟨c, hc, rfl⟩ := signs_at hdd
    refine ⟨c, _, rfl, rfl, ?_⟩
    rw [in_digits, List.all_eq_true.mp hd c (mem_get hc)]
    exact List.replicate_succ'.symm
  · rintro acc rfl
    refine ⟨List.replicate _ true, (List.map_replicate ..).symm, ?_⟩
    rw [show (List.replicate (Fc.signs w).length true).all id = true by simp]
    refine ite_no (by decide) ?_
    unfold a_read_number_3
    walk_at "vz"
    have fin : ((cl w).head? = some 48 → cl w = [48]) → a_read_number_5 { nx := fun s => Qd (.d .none) (s.r.take 0), rt := retX 0 Qd, ex := fun e s => Xd e (s.r.take 0) } ⟨[.d (.str w), .un], [], []⟩ := fun hz => by
      unfold a_read_number_5
      walk_at "vz"
      refine ⟨_, intText_digits (fun c hc => ?_) hne (by omega), by omega, h2 _ ?_⟩
      · exact digit_ne (List.all_eq_true.mp hd c hc)
      · unfold numOf
        rw [if_pos ⟨hne, by rw [cl_len]; omega, hz⟩]
    obtain ⟨c, r, hcr⟩ : ∃ c r, cl w = c :: r := by
      match h : cl w, hne with
      | c :: r, _ => exact ⟨c, r, rfl⟩
    refine ixs_first (sl_of (by omega)) (k := c) (by rw [hcr]; rfl) (eq_str ?_)
    by_cases h0 : (⟨#[c]⟩ : Str) = Str.ofString "0"
    · have c48 : c = 48 := by
        have := congrArg cl h0
        rw [cl_one, show cl (Str.ofString "0") = [48] by decide +kernel] at this
        exact (List.cons.inj this).1
      refine ite_yes (by simpa using h0) (ne_str ?_)
      by_cases hw : w = Str.ofString "0"
      · refine ite_no (by simp [hw]) (fin fun _ => ?_)
        rw [hw]; decide +kernel
      · refine ite_yes (by simpa using hw) (h1 ?_)
        unfold numOf
        rw [if_neg]
        rintro ⟨_, _, e⟩
        rw [hcr, c48] at e
        have e := e rfl
        refine hw (str_ext ?_)
        rw [hcr, c48, e]; decide +kernel
    · refine ite_no (by simpa using h0) ?_
      refine fin fun e => ?_
      rw [hcr] at e
      have : c = 48 := by simpa using e
      subst this
      exact (h0 (by decide +kernel)).elim
def ds_read_edit : DsX := fun args ρ Qd Xd => ∃ (x : Str), args = [.d (.str x)] ∧ ρ = [] ∧ x.length ≤ 90000 ∧ PyData.strOk x = true ∧ (readE x = none → Xd ⟨13, []⟩ []) ∧ ∀ e, readE x = some e → Qd (.d e.d) []
theorem len_read_edit : ∀ args ρ Qd Xd, ds_read_edit args ρ Qd Xd → args.length = 1 := by
  rintro args ρ Qd Xd ⟨_, rfl, _⟩; rfl
def a_read_edit_3 : AZ :=
  (zAug (· + ·) 1 (qLift (aC (.int 1))))
def a_read_edit_13 : AZ :=
  (zRaise 13)
def a_read_edit_11 : AZ :=
  (zSeq (zIf (q2xt (qLiftT (aTest (aOp fEq (aVar 3) (aC (.str (Str.ofString "=")))))))
      (zRet (q2x (qLift (aTup (aCons (aC (.str (Str.ofString "turn"))) (aCons (aVar 2) (aCons (aVar 4) aNil)))))))
      zNext)
      a_read_edit_13)
def a_read_edit_9 : AZ :=
  (zSeq (zIf (q2xt (qLiftT (aAnd (aTest (aOp fEq (aVar 3) (aC (.str (Str.ofString "-"))))) (aTest (aOp fEq (aVar 4) (aC (.str (Str.ofString ""))))))))
      (zRet (q2x (qLift (aTup (aCons (aC (.str (Str.ofString "drop"))) (aCons (aVar 2) aNil))))))
      zNext)
      a_read_edit_11)
def a_read_edit_7 : AZ :=
  (zSeq (zIf (q2xt (qLiftT (aTest (aOp fEq (aVar 3) (aC (.str (Str.ofString "+")))))))
      (zRet (q2x (qTup (qCons (qLift (aC (.str (Str.ofString "put")))) (qCons (qLift (aVar 2)) (qCons (qCall ds_read_body (qCons (qLift (aVar 4)) qNil)) qNil))))))
      zNext)
      a_read_edit_9)
def a_read_edit_6 : AZ :=
  (zSeq (zSet 4 (q2x (qLift (aSl (aVar 0) (aoSome (aOp fAdd (aVar 1) (aC (.int 1)))) aoNo))))
      a_read_edit_7)
def a_read_edit_5 : AZ :=
  (zSeq (zSet 3 (q2x (qLift (aSl (aVar 0) (aoSome (aVar 1)) (aoSome (aOp fAdd (aVar 1) (aC (.int 1))))))))
      a_read_edit_6)
def a_read_edit_4 : AZ :=
  (zSeq (zSet 2 (q2x (qCall ds_read_number (qCons (qLift (aSl (aVar 0) aoNo (aoSome (aVar 1)))) qNil))))
      a_read_edit_5)
def a_read_edit_2 : AZ :=
  (zSeq (zWhile (q2xt (qLiftT (aAnd (aTest (aOp fLt (aVar 1) (aCall fLen (aCons (aVar 0) aNil)))) (aTest (aOp fInS (aOp fIx (aVar 0) (aVar 1)) (aC (.str (Str.ofString "0123456789"))))))))
      a_read_edit_3)
      a_read_edit_4)
def a_read_edit : AZ :=
  (zSeq (zSet 1 (q2x (qLift (aC (.int 0)))))
      a_read_edit_2)
theorem tw_get {l : List Nat} {i : Nat} (h : i < (l.takeWhile digit).length) : ∃ c, l[i]? = some c ∧ digit c = true := by
  induction l generalizing i with
  | nil => simp at h
  | cons a r ih =>
    rw [List.takeWhile_cons] at h
    by_cases ha : digit a = true
    · rw [if_pos ha, List.length_cons] at h
      cases i with
      | zero => exact ⟨a, rfl, ha⟩
      | succ j => exact ih (by omega)
    · rw [if_neg ha] at h; simp at h
theorem tw_end {l : List Nat} {c : Nat} (h : l[(l.takeWhile digit).length]? = some c) : digit c = false := by
  induction l with
  | nil => simp at h
  | cons a r ih =>
    rw [List.takeWhile_cons] at h
    by_cases ha : digit a = true
    · rw [if_pos ha, List.length_cons] at h
      exact ih (by simpa using h)
    · rw [if_neg ha] at h
      have : a = c := by simpa using h
      rw [← this]; simpa using ha
theorem tw_le (l : List Nat) : (l.takeWhile digit).length ≤ l.length := by
  induction l with
  | nil => simp
  | cons a r ih =>
    rw [List.takeWhile_cons]
    split
    · simp only [List.length_cons]; omega
    · simp
theorem tw_take (l : List Nat) : l.take (l.takeWhile digit).length = l.takeWhile digit := by
  induction l with
  | nil => rfl
  | cons a r ih =>
    rw [List.takeWhile_cons]
    by_cases ha : digit a = true
    · rw [if_pos ha, List.length_cons, List.take_succ_cons, ih]
    · rw [if_neg ha]; rfl
theorem tw_all (l : List Nat) : (l.takeWhile digit).all digit = true := by
  induction l with
  | nil => rfl
  | cons a r ih =>
    rw [List.takeWhile_cons]
    by_cases ha : digit a = true
    · rw [if_pos ha, List.all_cons, ha, ih]; rfl
    · rw [if_neg ha]; rfl
theorem digs_le (x : Str) : (digs x).length ≤ x.length := by rw [← cl_len]; exact tw_le _
theorem cl_digs (x : Str) : cl (cutS x none (some ((digs x).length : Int))) = digs x := by
  unfold digs
  rw [cl_cut, cut_to _ _ (tw_le _)]
  exact tw_take _
theorem vc_read_edit : ∀ args ρ Qd Xd, ds_read_edit args ρ Qd Xd → ρ.length = 0 ∧ a_read_edit { nx := fun s => Qd (.d .none) (s.r.take 0), rt := retX 0 Qd, ex := fun e s => Xd e (s.r.take 0) } ⟨startX N_read_edit.length args, ρ ++ List.replicate 0 .gone, []⟩ := by
  rintro args ρ Qd Xd ⟨x, rfl, rfl, hl, hk, h1, h2⟩
  refine ⟨rfl, ?_⟩
  show a_read_edit _ ⟨[.d (.str x), .un, .un, .un, .un], [], []⟩
  unfold a_read_edit
  walk_at "vz"
  unfold a_read_edit_2
  walk_at "vz"
  have hz : x.length ≤ sizeLine := sl_of (by omega)
  have hle := digs_le x
  have fin : a_read_edit_4 { nx := fun s => Qd (.d .none) (s.r.take 0), rt := retX 0 Qd, ex := fun e s => Xd e (s.r.take 0) } ⟨[.d (.str x), .d (.int ((digs x).length : Int)), .un, .un, .un], [], []⟩ := by
    unfold a_read_edit_4
    walk_at "vz"
    refine ⟨hz, _, rfl, rfl, Nat.le_trans (cutS_len' ..) (by omega), by rw [cl_digs]; exact tw_all _, fun h => h1 ?_, fun k hkk => ?_⟩
    · rw [cl_digs] at h
      unfold readE
      rw [h]
    rw [cl_digs] at hkk
    have hR : readE x = if sgn x = Str.ofString "+" then (readB (rst x)).map (Ed.put k) else if sgn x = Str.ofString "-" ∧ rst x = Str.ofString "" then some (.drop k) else if sgn x = Str.ofString "=" then some (.turn k (rst x)) else none := by
      unfold readE
      rw [hkk]
    walk_at "vz"
    unfold a_read_edit_5
    walk_at "vz"
    refine ⟨hz, ?_⟩
    unfold a_read_edit_6
    walk_at "vz"
    refine ⟨hz, ?_⟩
    unfold a_read_edit_7
    walk_at "vz"
    show fEq (.str (sgn x)) _ _
    refine eq_str ?_
    by_cases hp : sgn x = Str.ofString "+"
    · rw [if_pos hp] at hR
      refine ite_yes (by simpa using hp) ?_
      refine ⟨.str (rst x), 0, 90000, rfl, rfl, .str (Nat.le_trans (cutS_len' ..) hl) (strOk_cut hk), by decide, by decide, fun h => h1 ?_, fun xs h => ⟨_, rfl, (show 3 ≤ sizeLine by decide), h2 (.put k xs) ?_⟩⟩
      · have h : readB (rst x) = none := h
        rw [hR, h]; rfl
      · have h : readB (rst x) = some xs := h
        rw [hR, h]; rfl
    rw [if_neg hp] at hR
    refine ite_no (by simpa using hp) ?_
    unfold a_read_edit_9
    walk_at "vz"
    show fEq (.str (sgn x)) _ _
    have f11 : ¬ (sgn x = Str.ofString "-" ∧ rst x = Str.ofString "") → a_read_edit_11 { nx := fun s => Qd (.d .none) (s.r.take 0), rt := retX 0 Qd, ex := fun e s => Xd e (s.r.take 0) } ⟨[.d (.str x), .d (.int ((digs x).length : Int)), .d (.int (k : Int)), .d (.str (sgn x)), .d (.str (rst x))], [], []⟩ := fun hm => by
      rw [if_neg hm] at hR
      unfold a_read_edit_11
      walk_at "vz"
      refine eq_str ?_
      by_cases hq : sgn x = Str.ofString "="
      · rw [if_pos hq] at hR
        exact ite_yes (by simpa using hq) ⟨by decide, h2 (.turn k (rst x)) hR⟩
      · rw [if_neg hq] at hR
        refine ite_no (by simpa using hq) ?_
        unfold a_read_edit_13
        walk_at "vz"
        exact h1 hR
    refine eq_str ?_
    by_cases hm : sgn x = Str.ofString "-"
    · refine ite_yes (by simpa using hm) ?_
      show fEq (.str (rst x)) _ _
      refine eq_str ?_
      by_cases hr : rst x = Str.ofString ""
      · rw [if_pos ⟨hm, hr⟩] at hR
        exact ite_yes (by simpa using hr) ⟨by decide, h2 (.drop k) hR⟩
      · exact ite_no (by simpa using hr) (f11 fun h => hr h.2)
    · exact ite_no (by simpa using hm) (f11 fun h => hm h.1)
  refine ⟨fun m s => ∃ i : Nat, i + m = (digs x).length ∧ s = ⟨[.d (.str x), .d (.int (i : Int)), .un, .un, .un], [], []⟩, ⟨_, 0, Nat.zero_add _, rfl⟩, ?_⟩
  rintro m s' ⟨i, him, rfl⟩
  walk_at "vz"
  refine ⟨hz, ?_⟩
  by_cases hi : i < x.length
  · refine ite_yes (by omega) (ix_str hz (by omega) (by omega) fun d hd => ?_)
    rw [Int.toNat_natCast] at hd
    refine ⟨d, _, rfl, rfl, ?_⟩
    rw [in_digits]
    by_cases hm : m = 0
    · have e0 : i = (digs x).length := by omega
      subst e0
      rw [tw_end hd]
      exact ite_no Bool.false_ne_true fin
    · obtain ⟨c, hc, hcd⟩ := tw_get (l := cl x) (i := i) (show i < (digs x).length by omega)
      rw [hd] at hc
      cases hc
      rw [hcd]
      refine ite_yes rfl ?_
      unfold a_read_edit_3
      walk_at "vz"
      exact ⟨m - 1, by omega, i + 1, by omega, rfl⟩
  · have e0 : i = (digs x).length := by omega
    subst e0
    exact ite_no (by omega) fin
def allE : List Str → Option (List Ed)
  | [] => some []
  | p :: r => match readE p with
    | none => none
    | some e => match allE r with
      | none => none
      | some es => some (e :: es)
theorem allE_snoc (p : Str) : ∀ l : List Str, allE (l ++ [p]) = match allE l with | none => none | some es => (match readE p with | none => none | some e => some (es ++ [e]))
  | [] => by
    show (match readE p with | none => none | some e => match allE [] with | none => none | some es => some (e :: es)) = _
    cases readE p <;> rfl
  | q :: r => by
    show (match readE q with | none => none | some e => match allE (r ++ [p]) with | none => none | some es => some (e :: es)) = match (match readE q with | none => none | some e => match allE r with | none => none | some es => some (e :: es)) with | none => none | some es => _
    rw [allE_snoc p r]
    cases readE q with
    | none => rfl
    | some e =>
      cases allE r with
      | none => rfl
      | some es => cases readE p <;> rfl
theorem allE_no {p : Str} : ∀ {l : List Str}, p ∈ l → readE p = none → allE l = none
  | q :: r, hm, h => by
    show (match readE q with | none => none | some e => match allE r with | none => none | some es => some (e :: es)) = none
    rcases List.mem_cons.mp hm with e | hm
    · rw [← e, h]
    · rw [allE_no hm h]
      cases readE q <;> rfl
theorem allE_mem : ∀ {l : List Str} {es : List Ed}, allE l = some es → es.length = l.length ∧ ∀ e ∈ es, ∃ p ∈ l, readE p = some e
  | [], es, h => by cases h; exact ⟨rfl, fun _ h => nomatch h⟩
  | q :: r, es, h => by
    have h : (match readE q with | none => none | some e => match allE r with | none => none | some es => some (e :: es)) = some es := h
    cases hq : readE q with
    | none => rw [hq] at h; cases h
    | some e =>
      cases hr : allE r with
      | none => rw [hq, hr] at h; cases h
      | some es' =>
        rw [hq, hr] at h
        cases h
        obtain ⟨h1, h2⟩ := allE_mem hr
        refine ⟨by rw [List.length_cons, List.length_cons, h1], fun z hz => ?_⟩
        rcases List.mem_cons.mp hz with rfl | hz
        · exact ⟨q, List.mem_cons_self, hq⟩
        · obtain ⟨p, hp, e2⟩ := h2 z hz
          exact ⟨p, List.mem_cons_of_mem _ hp, e2⟩
def readDs (x : Str) : Option (List Ed) := if x = Str.ofString "" then some [] else allE (Txt.split x semi)
def goodDr (es : List Ed) : Option (List Ed) := if isDraftD 60 (draftD es) = true then some es else none
def readDr : D → Option (List Ed)
  | .str x => (readDs x).bind goodDr
  | _ => none
def ds_read_draft : DsX := fun args ρ Qd Xd => ∃ (d : D) (n L : Nat), args = [.d d] ∧ ρ = [] ∧ Gd n L d ∧ n ≤ 50 ∧ L ≤ 80000 ∧ (readDr d = none → Xd ⟨13, []⟩ []) ∧ ∀ es, readDr d = some es → Qd (.d (draftD es)) []
theorem len_read_draft : ∀ args ρ Qd Xd, ds_read_draft args ρ Qd Xd → args.length = 1 := by
  rintro args ρ Qd Xd ⟨_, _, _, rfl, _⟩; rfl
def a_read_draft_7 : AZ :=
  (zRet (q2x (qLift (aVar 1))))
def a_read_draft_5 : AZ :=
  (zSeq (zIf (q2xt (qLiftT (aNot (aTest (aCall ds_is_draft (aCons (aC (.tuple (List.replicate 60 (.str (Str.ofString "a"))))) (aCons (aVar 1) aNil)))))))
      (zRaise 13)
      zNext)
      a_read_draft_7)
def a_read_draft_3 : AZ :=
  (zSeq (zIf (q2xt (qLiftT (aTest (aOp fNe (aVar 0) (aC (.str (Str.ofString "")))))))
      (zSet 1 (q2x (qTupleOf (qFrz (qLcX (xiList (qLift (aM1 fSplit (aVar 0) (aC (.str (Str.ofString ";")))))) (xgName 2) qYes (qCall ds_read_edit (qCons (qLift (aVar 2)) qNil)) [2])))))
      zNext)
      a_read_draft_5)
def a_read_draft_2 : AZ :=
  (zSeq (zSet 1 (q2x (qLift (aTup aNil))))
      a_read_draft_3)
def a_read_draft : AZ :=
  (zSeq (zDrop (q2x (qCall ds_need_text (qCons (qLift (aVar 0)) qNil))))
      a_read_draft_2)
theorem semi_k : semi.cps.all (· < 256) = true := by decide +kernel
theorem readE_gd {p : Str} {e : Ed} (hl : p.length ≤ 90000) (hk : PyData.strOk p = true) (h : readE p = some e) : Gd 2 100000 e.d := by
  unfold readE at h
  cases hn : numOf (digs p) with
  | none => rw [hn] at h; cases h
  | some k =>
    rw [hn] at h
    dsimp only at h
    have w : ∀ s : String, (Str.ofString s).length ≤ 100000 → PyData.strOk (Str.ofString s) = true → Gd 1 100000 (.str (Str.ofString s)) := fun s a b => .str a b
    by_cases hp : sgn p = Str.ofString "+"
    · rw [if_pos hp] at h
      cases hb : readB (rst p) with
      | none => rw [hb] at h; cases h
      | some xs =>
        rw [hb] at h
        cases h
        obtain ⟨h1, h2⟩ := readB_ok hb
        refine .tuple (by simp) fun d hd => ?_
        simp only [List.mem_cons, List.not_mem_nil, or_false] at hd
        rcases hd with rfl | rfl | rfl
        · exact .str (by decide +kernel) (by decide +kernel)
        · exact .int _
        · exact (Gd.of_body (n := 0) (L := 60) h2 (by decide) h1).mono (by decide) (show 60 ≤ 100000 by decide)
    · rw [if_neg hp] at h
      by_cases hm : sgn p = Str.ofString "-" ∧ rst p = Str.ofString ""
      · rw [if_pos hm] at h
        cases h
        refine .tuple (by simp) fun d hd => ?_
        simp only [List.mem_cons, List.not_mem_nil, or_false] at hd
        rcases hd with rfl | rfl
        · exact .str (by decide +kernel) (by decide +kernel)
        · exact .int _
      · rw [if_neg hm] at h
        by_cases hq : sgn p = Str.ofString "="
        · rw [if_pos hq] at h
          cases h
          refine .tuple (by simp) fun d hd => ?_
          simp only [List.mem_cons, List.not_mem_nil, or_false] at hd
          rcases hd with rfl | rfl | rfl
          · exact .str (by decide +kernel) (by decide +kernel)
          · exact .int _
          · exact .str (Nat.le_trans (cutS_len' ..) (by omega)) (strOk_cut hk)
        · rw [if_neg hq] at h; cases h
theorem readDs_gd {x : Str} {es : List Ed} (hl : x.length ≤ 80000) (hk : PyData.strOk x = true) (h : readDs x = some es) : Gd 3 100000 (draftD es) := by
  unfold readDs at h
  by_cases he : x = Str.ofString ""
  · rw [if_pos he] at h; cases h
    exact .tuple (by simp) fun _ h => nomatch h
  · rw [if_neg he] at h
    obtain ⟨h1, h2⟩ := allE_mem h
    have sp := split_ok cl_semi semi_k x
    refine .tuple (by rw [List.length_map, h1]; have := sp.few; omega) fun d hd => ?_
    obtain ⟨e, he, rfl⟩ := List.mem_map.mp hd
    obtain ⟨p, hp, e2⟩ := h2 e he
    exact readE_gd (Nat.le_trans (sp.small p hp).1 (by omega)) ((sp.small p hp).2 hk) e2
theorem viewL_eds : ∀ es : List Ed, viewL (es.map fun e => M.d e.d) = some (es.map Ed.d)
  | [] => rfl
  | e :: r => by simp [viewL, viewM, viewL_eds r]
theorem view_eds (es : List Ed) : viewM (M.nd Kd.lst (es.map fun e => M.d e.d)) = some (.list (es.map Ed.d)) := by
  simp only [viewM, viewL_eds es]
theorem vc_read_draft : ∀ args ρ Qd Xd, ds_read_draft args ρ Qd Xd → ρ.length = 0 ∧ a_read_draft { nx := fun s => Qd (.d .none) (s.r.take 0), rt := retX 0 Qd, ex := fun e s => Xd e (s.r.take 0) } ⟨startX N_read_draft.length args, ρ ++ List.replicate 0 .gone, []⟩ := by
  rintro args ρ Qd Xd ⟨d, n, L, rfl, rfl, hd, hn, hL, h1, h2⟩
  refine ⟨rfl, ?_⟩
  show a_read_draft _ ⟨[.d d, .un, .un], [], []⟩
  unfold a_read_draft
  walk_at "vz"
  refine ⟨d, n, L, rfl, rfl, hd, fun hs => h1 ?_, fun hs => ?_⟩
  · cases d <;> first | rfl | cases hs
  obtain ⟨x, rfl⟩ : ∃ x, d = .str x := by
    cases d <;> first | exact ⟨_, rfl⟩ | cases hs
  have hx : x.length ≤ L ∧ PyData.strOk x = true := by cases hd; exact ⟨by assumption, by assumption⟩
  unfold a_read_draft_2
  walk_at "vz"
  have fin : ∀ (c : Cl) (es : List Ed), readDs x = some es → a_read_draft_5 { nx := fun s => Qd (.d .none) (s.r.take 0), rt := retX 0 Qd, ex := fun e s => Xd e (s.r.take 0) } ⟨[.d (.str x), .d (draftD es), c], [], []⟩ := fun c es hes => by
    have hR : readDr (.str x) = goodDr es := by
      show (readDs x).bind goodDr = _
      rw [hes]; rfl
    unfold a_read_draft_5
    walk_at "vz"
    refine ⟨_, _, 3, 100000, rfl, readDs_gd (by omega) hx.2 hes, by decide, by decide, ?_⟩
    rw [List.length_replicate]
    cases hb : isDraftD 60 (draftD es)
    · exact ite_yes rfl (h1 (by rw [hR]; unfold goodDr; rw [if_neg (by rw [hb]; decide)]))
    · refine ite_no (by decide) ?_
      unfold a_read_draft_7
      walk_at "vz"
      exact h2 es (by rw [hR]; unfold goodDr; rw [if_pos hb])
  unfold a_read_draft_3
  walk_at "vz"
  refine ne_str ?_
  by_cases he : x = Str.ofString ""
  · refine ite_no (by simp [he]) (fin _ [] ?_)
    unfold readDs
    rw [if_pos he]
  refine ite_yes (by simpa using he) ?_
  have hR0 : readDs x = allE (Txt.split x semi) := by
    unfold readDs
    rw [if_neg he]
  have sp := split_ok cl_semi semi_k x
  unfold qLcX
  walk_at "vz"
  refine ⟨(by decide +kernel), sl_of (Nat.le_trans (Nat.add_le_add_right hx.1 2) (by omega)), ?_⟩
  refine ⟨by rw [List.length_map]; exact sl_of (Nat.le_trans sp.few (by omega)), fun i acc => ∃ es, allE ((Txt.split x semi).take i) = some es ∧ acc = es.map (fun e => M.d e.d), ⟨[], rfl, rfl⟩, ?_, ?_⟩
  · rintro i d acc hd' ⟨es, h3, rfl⟩
    obtain ⟨p, hp, rfl⟩ := map_at hd'
    have sm := sp.small p (mem_get hp)
    refine ⟨p, rfl, rfl, Nat.le_trans sm.1 (by omega), sm.2 hx.2, fun h => h1 ?_, fun e h => ?_⟩
    · show (readDs x).bind goodDr = none
      rw [hR0, allE_no (mem_get hp) h]; rfl
    · refine ⟨es ++ [e], ?_, by rw [List.map_append]; rfl⟩
      rw [take_at hp, allE_snoc, h3, h]
  · rintro acc ⟨es, h3, rfl⟩
    rw [List.length_map, List.take_length] at h3
    exact ⟨.list (es.map Ed.d), view_eds es, es.map Ed.d, rfl, fin _ es (by rw [hR0]; exact h3)⟩
def dueDr (d : D) : D := match readDr d with | some es => draftD es | none => textW
def ds_law_tried : Ds := fun ds Q => ∃ (d : D) (n L : Nat), ds = [d] ∧ Gd n L d ∧ n ≤ 50 ∧ L ≤ 80000 ∧ Q (dueDr d)
theorem len_law_tried : ∀ ds Qd, ds_law_tried ds Qd → ds.length = 1 := by rintro ds Qd ⟨_, _, _, rfl, _⟩; rfl
def a_law_tried_4 : AZ :=
  (zSet 2 (q2x (qCall ds_read_draft (qCons (qLift (aVar 0)) qNil))))
def a_law_tried_7 : AZ :=
  (zRet (q2x (qIf (qTest (qIsN false (qVar 1))) (qLift (aVar 2)) (qCallN ds_law_word (qCons (qVar 1) qNil)))))
def a_law_tried_3 : AZ :=
  (zSeq (zTry 3 1 25
      a_law_tried_4)
      a_law_tried_7)
def a_law_tried_2 : AZ :=
  (zSeq (zSet 2 (q2x (qLift (aC .none))))
      a_law_tried_3)
def a_law_tried : AZ :=
  (zSeq (zSet 1 (q2x (qLift (aC .none))))
      a_law_tried_2)
theorem vc_law_tried : ∀ ds Qd, ds_law_tried ds Qd → a_law_tried { nx := fun _ => Qd .none, rt := rtP Qd } ⟨startX N_law_tried.length (ds.map Cl.d), List.replicate 0 .gone, []⟩ := by
  rintro ds Qd ⟨d, n, L, rfl, hd, hn, hL, hq⟩
  show a_law_tried _ ⟨[.d d, .un, .un, .un], [], []⟩
  unfold a_law_tried
  walk_at "vz"
  unfold a_law_tried_2
  walk_at "vz"
  unfold a_law_tried_3
  simp only [zSeq, zTry]
  unfold a_law_tried_4
  walk_at "vz"
  unfold dueDr at hq
  refine ⟨d, n, L, rfl, rfl, hd, hn, hL, fun hnone => ?_, fun xs hsome => ?_⟩
  · rw [hnone] at hq
    unfold a_law_tried_7
    walk_at "vz"
    exact ⟨13, rfl, rfl, by decide, hq⟩
  · rw [hsome] at hq
    unfold a_law_tried_7
    walk_at "vz"
    exact ite_yes (by decide) hq
def ds_law_due : Ds := ds_law_tried
theorem len_law_due : ∀ ds Qd, ds_law_due ds Qd → ds.length = 1 := len_law_tried
def lnum (l : List Nat) : Bool := !decide (l = []) && decide (l.length ≤ 2) && (!decide (l.head? = some 48) || decide (l = [48]))
def barsOf (x : Str) : List Nat := ((Txt.split x bar).tail.map fun q => 124 :: cl q).flatten
def lawE (x : Str) : Option Ed :=
  if lnum (digs x) = true then
    if sgn x = Str.ofString "-" then (if rst x = Str.ofString "" then some (.drop (NumText.digitsVal (digs x))) else none)
    else if sgn x = Str.ofString "=" then some (.turn (NumText.digitsVal (digs x)) (rst x))
    else if sgn x = Str.ofString "+" ∧ cl (rst x) = barsOf (rst x) then some (.put (NumText.digitsVal (digs x)) (Txt.split (rst x) bar).tail)
    else none
  else none
def optE : Option Ed → D | none => .none | some e => e.d
def ds_law_edit : Ds := fun ds Q => ∃ x : Str, ds = [.str x] ∧ x.length ≤ 90000 ∧ PyData.strOk x = true ∧ Q (optE (lawE x))
theorem len_law_edit : ∀ ds Qd, ds_law_edit ds Qd → ds.length = 1 := by rintro ds Qd ⟨_, rfl, _⟩; rfl
def a_law_edit_11 : AS :=
  (aRet (aIf (aAnd (aTest (aOp fEq (aVar 3) (aC (.str (Str.ofString "+"))))) (aTest (aOp fEq (aVar 4) (aM1 fJoin (aC (.str (Str.ofString ""))) (aLc (aiTup (aVar 5)) (agName 6) atYes (aOp fAdd (aC (.str (Str.ofString "|"))) (aVar 6)) [6]))))) (aTup (aCons (aC (.str (Str.ofString "put"))) (aCons (aCall fIntS (aCons (aVar 1) aNil)) (aCons (aVar 5) aNil)))) (aC .none)))
def a_law_edit_10 : AS :=
  (aSeq (aSet 5 (aCall fTuple (aCons (aSl (aM1 fSplit (aVar 4) (aC (.str (Str.ofString "|")))) (aoSome (aC (.int 1))) aoNo) aNil)))
      a_law_edit_11)
def a_law_edit_8 : AS :=
  (aSeq (aIfS (aTest (aOp fEq (aVar 3) (aC (.str (Str.ofString "=")))))
      (aRet (aTup (aCons (aC (.str (Str.ofString "turn"))) (aCons (aCall fIntS (aCons (aVar 1) aNil)) (aCons (aVar 4) aNil)))))
      aNext)
      a_law_edit_10)
def a_law_edit_6 : AS :=
  (aSeq (aIfS (aTest (aOp fEq (aVar 3) (aC (.str (Str.ofString "-")))))
      (aRet (aIf (aTest (aOp fEq (aVar 4) (aC (.str (Str.ofString ""))))) (aTup (aCons (aC (.str (Str.ofString "drop"))) (aCons (aCall fIntS (aCons (aVar 1) aNil)) aNil))) (aC .none)))
      aNext)
      a_law_edit_8)
def a_law_edit_5 : AS :=
  (aSeq (aSet 4 (aSl (aVar 0) (aoSome (aOp fAdd (aCall fLen (aCons (aVar 1) aNil)) (aC (.int 1)))) aoNo))
      a_law_edit_6)
def a_law_edit_4 : AS :=
  (aSeq (aSet 3 (aSl (aVar 0) (aoSome (aCall fLen (aCons (aVar 1) aNil))) (aoSome (aOp fAdd (aCall fLen (aCons (aVar 1) aNil)) (aC (.int 1))))))
      a_law_edit_5)
def a_law_edit_2 : AS :=
  (aSeq (aIfS (aOr (aTest (aOp fEq (aVar 1) (aC (.str (Str.ofString ""))))) (aOr (aTest (aOp fGt (aCall fLen (aCons (aVar 1) aNil)) (aC (.int 2)))) (aTest (aOp fNe (aCall fStrI (aCons (aCall fIntS (aCons (aVar 1) aNil)) aNil)) (aVar 1)))))
      (aRet (aC .none))
      aNext)
      a_law_edit_4)
def a_law_edit : AS :=
  (aSeq (aSet 1 (aSl (aVar 0) aoNo (aoSome (aCall fMinL (aCons (aOp fAdd (aLc (aiRng1 (aCons (aCall fLen (aCons (aVar 0) aNil)) aNil)) (agName 2) (aTest (aOp fNotInS (aOp fIx (aVar 0) (aVar 2)) (aC (.str (Str.ofString "0123456789"))))) (aVar 2) [2]) (aLst (aCons (aCall fLen (aCons (aVar 0) aNil)) aNil))) aNil)))))
      a_law_edit_2)
theorem num_one : ∀ i : Nat, i < 10 → decide (numS (NumText.digitsVal [48 + i]) = ⟨#[48 + i]⟩) = true := by decide +kernel
theorem num_two : ∀ i : Nat, i < 10 → ∀ j : Nat, j < 10 → decide (numS (NumText.digitsVal [48 + i, 48 + j]) = ⟨#[48 + i, 48 + j]⟩) = !decide (i = 0) := by decide +kernel
theorem num_small : ∀ i : Nat, i < 10 → ∀ j : Nat, j < 10 → NumText.digitsVal [48 + i, 48 + j] = 10 * i + j := fun i _ j _ => by
  show (0 * 10 + (48 + i - 48)) * 10 + (48 + j - 48) = _
  omega
theorem num_lead {w : Str} (hd : (cl w).all digit = true) (h1 : cl w ≠ []) (h2 : (cl w).length ≤ 2) : decide (numS (NumText.digitsVal (cl w)) = w) = (!decide ((cl w).head? = some 48) || decide (cl w = [48])) := by
  have hw : w = ⟨(cl w).toArray⟩ := str_ext rfl
  match hc : cl w, h1, h2 with
  | [a], _, _ =>
    rw [hc] at hd hw
    have ha := digit_ne (List.all_eq_true.mp hd a (by simp))
    obtain ⟨i, rfl⟩ : ∃ i, a = 48 + i := ⟨a - 48, by omega⟩
    rw [hw, show decide (numS (NumText.digitsVal [48 + i]) = ⟨[48 + i].toArray⟩) = true from num_one i (by omega)]
    by_cases h0 : i = 0
    · subst h0; rfl
    · simp [h0]
  | [a, b], _, _ =>
    rw [hc] at hd hw
    have ha := digit_ne (List.all_eq_true.mp hd a (by simp))
    have hb := digit_ne (List.all_eq_true.mp hd b (by simp))
    obtain ⟨i, rfl⟩ : ∃ i, a = 48 + i := ⟨a - 48, by omega⟩
    obtain ⟨j, rfl⟩ : ∃ j, b = 48 + j := ⟨b - 48, by omega⟩
    rw [hw, show decide (numS (NumText.digitsVal [48 + i, 48 + j]) = ⟨[48 + i, 48 + j].toArray⟩) = !decide (i = 0) from num_two i (by omega) j (by omega)]
    simp
theorem num_lt {l : List Nat} (hd : l.all digit = true) (h2 : l.length ≤ 2) : NumText.digitsVal l < 100 := by
  match l, h2 with
  | [], _ => decide
  | [a], _ =>
    have ha := digit_ne (List.all_eq_true.mp hd a (by simp))
    show 0 * 10 + (a - 48) < 100
    omega
  | [a, b], _ =>
    have ha := digit_ne (List.all_eq_true.mp hd a (by simp))
    have hb := digit_ne (List.all_eq_true.mp hd b (by simp))
    show (0 * 10 + (a - 48)) * 10 + (b - 48) < 100
    omega
theorem sum_bars : ∀ r : List Str, ((r.map (bar ++ ·)).map (·.length)).sum = ((r.map fun q => 124 :: cl q).flatten).length
  | [] => rfl
  | y :: r => by
    rw [List.map_cons, List.map_cons, List.sum_cons, List.map_cons, List.flatten_cons, List.length_append, sum_bars r, len_append, show bar.length = 1 by decide +kernel, List.length_cons, cl_len]
    omega
theorem vc_law_edit : ∀ ds Qd, ds_law_edit ds Qd → a_law_edit { nx := fun _ => Qd .none, rt := Qd } (startE N_law_edit.length (ds.map Cell.d)) := by
  rintro ds Qd ⟨x, rfl, hl, hk, hq⟩
  show a_law_edit _ [.d (.str x), .un, .un, .un, .un, .un, .un]
  unfold a_law_edit
  walk_at "vd"
  have hz : x.length ≤ sizeLine := sl_of (by omega)
  have hle := digs_le x
  refine ⟨hz, (by unfold InRg; omega), by rw [rngD_len]; exact sl_of (by omega), fun i acc => ∃ ns : List Nat, acc = ns.map (fun n : Nat => PyData.int (n : Int)) ∧ (∀ n ∈ ns, n < i ∧ ∃ c, (cl x)[n]? = some c ∧ digit c = false) ∧ (∀ n c, n < i → (cl x)[n]? = some c → digit c = false → n ∈ ns) ∧ ns.length ≤ i, ⟨[], rfl, (fun _ h => nomatch h), fun _ _ h => absurd h (Nat.not_lt_zero _), Nat.le_refl _⟩, ?_, ?_⟩
  · rintro i d acc hd ⟨ns, rfl, h1, h2, h3⟩
    obtain ⟨hi, rfl⟩ := rng_at hd
    rw [Int.toNat_natCast] at hi
    refine ix_str hz (by omega) (by omega) fun c hc => ?_
    rw [Int.toNat_natCast] at hc
    refine ⟨c, _, rfl, rfl, ?_⟩
    rw [in_digits]
    cases hcd : digit c
    · refine ite_yes rfl ⟨ns ++ [i], by rw [List.map_append]; rfl, fun n hn => ?_, fun n c' hn hc' hd' => ?_, by rw [List.length_append]; simp; omega⟩
      · rcases List.mem_append.mp hn with hn | hn
        · obtain ⟨a, b⟩ := h1 n hn
          exact ⟨by omega, b⟩
        · rw [List.mem_singleton] at hn; subst hn
          exact ⟨by omega, c, hc, hcd⟩
      · by_cases e : n = i
        · rw [e]; exact List.mem_append_right _ (List.mem_singleton.mpr rfl)
        · exact List.mem_append_left _ (h2 n c' (by omega) hc' hd')
    · refine ite_no (by decide) ⟨ns, rfl, fun n hn => ?_, fun n c' hn hc' hd' => ?_, by omega⟩
      · obtain ⟨a, b⟩ := h1 n hn
        exact ⟨by omega, b⟩
      · by_cases e : n = i
        · subst e
          rw [hc] at hc'; cases hc'
          rw [hcd] at hd'; cases hd'
        · exact h2 n c' (by omega) hc' hd'
  · rintro acc ⟨ns, rfl, h1, h2, h3⟩
    rw [rngD_len, Int.toNat_natCast] at h1 h2 h3
    refine ⟨hz, by decide, by rw [List.length_map]; exact sl_of (by omega), (ns.map fun n : Nat => (n : Int)) ++ [(x.length : Int)], by rw [List.map_append, List.map_map]; rfl, by simp, fun m hm hmin => ?_⟩
    have e : m = ((digs x).length : Int) := by
      have lo : ((digs x).length : Int) ≤ m := by
        rcases List.mem_append.mp hm with hm | hm
        · obtain ⟨n, hn, rfl⟩ := List.mem_map.mp hm
          obtain ⟨_, c, hc, hcd⟩ := h1 n hn
          refine Int.ofNat_le.mpr (Nat.le_of_not_lt fun hlt => ?_)
          obtain ⟨c', hc', hd'⟩ := tw_get (l := cl x) (i := n) hlt
          rw [hc] at hc'; cases hc'
          rw [hcd] at hd'; cases hd'
        · rw [List.mem_singleton] at hm; subst hm
          omega
      have hi : m ≤ ((digs x).length : Int) := by
        by_cases hlt : (digs x).length < x.length
        · obtain ⟨c, hc⟩ : ∃ c, (cl x)[(digs x).length]? = some c := ⟨_, List.getElem?_eq_getElem (by rw [cl_len]; exact hlt)⟩
          exact hmin _ (List.mem_append_left _ (List.mem_map.mpr ⟨_, h2 _ c hlt hc (tw_end hc), rfl⟩))
        · have := hmin _ (List.mem_append_right _ (List.mem_singleton.mpr rfl))
          omega
      omega
    subst e
    refine ⟨hz, ?_⟩
    have hw := cl_digs x
    have hall := tw_all (cl x)
    have hall : (digs x).all digit = true := hall
    clear hm hmin h1 h2 h3
    generalize hW : cutS x none (some ((digs x).length : Int)) = w at hw
    have hwl : w.length = (digs x).length := by rw [← cl_len, hw]
    have hno : lnum (digs x) = false → Qd .none := fun h => by
      unfold lawE at hq
      rw [if_neg (by rw [h]; decide)] at hq
      exact hq
    unfold a_law_edit_2
    walk_at "vd"
    by_cases he : digs x = []
    · refine eq_str (ite_yes ?_ (hno ?_))
      · rw [decide_eq_true_eq]; exact str_ext (by rw [hw, he, cl_empty])
      · rw [he]; rfl
    refine eq_str (ite_no ?_ ⟨sl_of (by omega), ?_⟩)
    · rw [decide_eq_true_eq]
      intro e
      rw [← hw, e, cl_empty] at he
      exact he rfl
    by_cases h2 : 2 < (digs x).length
    · refine ite_yes (by omega) (hno ?_)
      unfold lnum
      rw [decide_eq_false (show ¬ (digs x).length ≤ 2 by omega)]
      simp
    have hlt := num_lt hall (by omega)
    refine ite_no (by omega) ⟨_, intText_digits (fun c hc => digit_ne (List.all_eq_true.mp hall c (by rw [← hw]; exact hc))) (by show cl w ≠ []; rw [hw]; exact he) (by omega), by omega, ?_⟩
    show fStrI [.int ((NumText.digitsVal (cl w) : Nat) : Int)] _
    rw [hw]
    refine ⟨by rw [Int.natAbs_natCast]; exact Nat.lt_of_le_of_lt (Nat.log2_le_self _) (by omega), ne_str ?_⟩
    have hlead := num_lead (w := w) (by rw [hw]; exact hall) (by rw [hw]; exact he) (by rw [hw]; omega)
    rw [hw] at hlead
    show ite ((!decide (numS (NumText.digitsVal (digs x)) = w)) = true) _ _
    have hln : lnum (digs x) = (!decide ((digs x).head? = some 48) || decide (digs x = [48])) := by
      unfold lnum
      rw [decide_eq_false he, decide_eq_true (show (digs x).length ≤ 2 by omega)]
      simp
    rw [hlead, ← hln]
    cases hl2 : lnum (digs x)
    · exact ite_yes rfl (hno hl2)
    refine ite_no (by decide) ?_
    unfold lawE at hq
    rw [if_pos hl2] at hq
    have hI : ∀ Q : D → Prop, Q (.int ((NumText.digitsVal (digs x) : Nat) : Int)) → fIntS [.str w] Q := fun Q h =>
      ⟨_, intText_digits (fun c hc => digit_ne (List.all_eq_true.mp hall c (by rw [← hw]; exact hc))) (by show cl w ≠ []; rw [hw]; exact he) (by omega), by omega, (by
        show Q (.int ((NumText.digitsVal (cl w) : Nat) : Int))
        rw [hw]; exact h)⟩
    generalize NumText.digitsVal (digs x) = k at hI hq
    unfold a_law_edit_4
    walk_at "vd"
    refine ⟨sl_of (by omega), sl_of (by omega), hz, ?_⟩
    rw [hwl]
    show a_law_edit_5 _ [.d (.str x), .d (.str w), .un, .d (.str (sgn x)), .un, .un, .un]
    unfold a_law_edit_5
    walk_at "vd"
    refine ⟨sl_of (by omega), hz, ?_⟩
    rw [hwl]
    show a_law_edit_6 _ [.d (.str x), .d (.str w), .un, .d (.str (sgn x)), .d (.str (rst x)), .un, .un]
    have hrl : (rst x).length ≤ 90000 := Nat.le_trans (cutS_len' ..) hl
    have hrk : PyData.strOk (rst x) = true := strOk_cut hk
    generalize sgn x = sg at hq ⊢
    generalize rst x = rs at hq hrl hrk ⊢
    unfold a_law_edit_6
    walk_at "vd"
    refine eq_str ?_
    by_cases hm : sg = Str.ofString "-"
    · rw [if_pos hm] at hq
      refine ite_yes (by simpa using hm) (eq_str ?_)
      by_cases hr : rs = Str.ofString ""
      · rw [if_pos hr] at hq
        refine ite_yes (by simpa using hr) ?_
        exact hI _ ⟨by decide, hq⟩
      · rw [if_neg hr] at hq
        exact ite_no (by simpa using hr) hq
    rw [if_neg hm] at hq
    refine ite_no (by simpa using hm) ?_
    unfold a_law_edit_8
    walk_at "vd"
    refine eq_str ?_
    by_cases hp : sg = Str.ofString "="
    · rw [if_pos hp] at hq
      refine ite_yes (by simpa using hp) (hI _ ⟨by decide, hq⟩)
    rw [if_neg hp] at hq
    refine ite_no (by simpa using hp) ?_
    have hsm := split_ok cl_bar bar_k rs
    obtain ⟨p, r, e, hb⟩ := hsm.back
    have hfew := hsm.few
    have ect : cut ((Txt.split rs bar).map PyData.str) (some 1) none = (Txt.split rs bar).tail.map PyData.str := by
      rw [show (1 : Int) = ((1 : Nat) : Int) from rfl, cut_from _ 1 (by rw [e]; simp), e]; rfl
    have hsum : (((Txt.split rs bar).tail.map (bar ++ ·)).map (·.length)).sum ≤ 90000 := by
      rw [e, List.tail_cons, sum_bars]
      have : (cl p).length + ((r.map fun q => 124 :: cl q).flatten).length = rs.length := by
        rw [← List.length_append, hb, cl_len]
      omega
    have hpl : (Txt.split rs bar).tail.length ≤ 90001 := by rw [List.length_tail]; omega
    have hsub : ∀ y ∈ (Txt.split rs bar).tail, y.length ≤ 90000 := fun y hy => Nat.le_trans (hsm.small y (List.mem_of_mem_tail hy)).1 hrl
    unfold a_law_edit_10
    walk_at "vd"
    refine ⟨by decide +kernel, sl_of (by omega), ?_⟩
    show a_law_edit_11 _ [.d (.str x), .d (.str w), .un, .d (.str sg), .d (.str rs), .d (.tuple (cut ((Txt.split rs bar).map PyData.str) (some 1) none)), .un]
    rw [ect]
    unfold barsOf at hq
    generalize (Txt.split rs bar).tail = ps at hq hsum hpl hsub ⊢
    unfold a_law_edit_11
    walk_at "vd"
    refine eq_str ?_
    by_cases hg : sg = Str.ofString "+"
    · refine ite_yes (by simpa using hg) ?_
      rw [List.length_map]
      refine ⟨sl_of (by omega), fun i acc => acc = (ps.take i).map fun x => PyData.str (bar ++ x), rfl, ?_, ?_⟩
      · rintro i d acc hd rfl
        obtain ⟨y, hyi, rfl⟩ := map_at hd
        have hly := hsub y (mem_get hyi)
        refine ⟨sl_of (by rw [show (Str.ofString "|").length = 1 by decide +kernel]; omega), ?_⟩
        dsimp only
        rw [take_at hyi, List.map_append]; rfl
      · rintro acc rfl
        rw [List.take_length]
        refine ⟨ps.map (bar ++ ·), .inl (by rw [List.map_map]; rfl), ?_, ?_⟩
        · rw [show (Str.ofString "").length = 0 by decide +kernel]
          simp only [Nat.mul_zero, Nat.zero_mul, Nat.add_zero, Nat.zero_add]
          exact sl_of (by omega)
        · refine eq_str ?_
          by_cases hxe : cl rs = (ps.map fun q => 124 :: cl q).flatten
          · rw [if_pos ⟨hg, hxe⟩] at hq
            refine ite_yes (decide_eq_true (str_ext (show cl rs = cl (bodyText ps) by rw [cl_bodyText, hxe]))) (hI _ ⟨by decide, hq⟩)
          · rw [if_neg fun z => hxe z.2] at hq
            refine ite_no ?_ hq
            rw [decide_eq_true_eq]
            intro z
            refine hxe ?_
            rw [z]
            exact cl_bodyText ps
    · rw [if_neg fun z => hg z.1] at hq
      exact ite_no (by simpa using hg) hq
theorem dig_ge : ∀ (l : List Nat) (a : Nat), a ≤ l.foldl (fun acc c => acc * 10 + (c - 48)) a
  | [], a => Nat.le_refl _
  | c :: r, a => Nat.le_trans (by omega) (dig_ge r (a * 10 + (c - 48)))
theorem dig_big {l : List Nat} (hd : l.all digit = true) (h3 : 2 < l.length) (hz : l.head? = some 48 → l = [48]) : 100 ≤ NumText.digitsVal l := by
  match l, h3 with
  | a :: b :: c :: r, _ =>
    have ha := digit_ne (List.all_eq_true.mp hd a (by simp))
    have ha' : a ≠ 48 := fun e => by
      have := hz (by rw [e]; rfl)
      simp at this
    show 100 ≤ r.foldl _ (((0 * 10 + (a - 48)) * 10 + (b - 48)) * 10 + (c - 48))
    exact Nat.le_trans (by omega) (dig_ge r _)
theorem ed_at {e : Ed} (h : isEditD 60 e.d = true) : e.at ≤ 60 := by
  cases e with
  | put k xs =>
    have h : isEditD 60 (.tuple [.str wPut, .int (k : Int), bodyD xs]) = true := h
    rw [ed_three] at h
    simp only [Bool.and_eq_true, Bool.or_eq_true, decide_eq_true_eq] at h
    show k ≤ 60
    omega
  | drop k =>
    have h : isEditD 60 (.tuple [.str wDrop, .int (k : Int)]) = true := h
    rw [ed_two] at h
    simp only [Bool.and_eq_true, decide_eq_true_eq] at h
    show k ≤ 60
    omega
  | turn k x =>
    have h : isEditD 60 (.tuple [.str wTurn, .int (k : Int), .str x]) = true := h
    rw [ed_three] at h
    simp only [Bool.and_eq_true, Bool.or_eq_true, decide_eq_true_eq] at h
    show k ≤ 60
    omega
theorem ed_body {k : Nat} {xs : List Str} (h : isEditD 60 (Ed.put k xs).d = true) : isBodyD (.tuple (xs.map PyData.str)) = true := by
  have h : isEditD 60 (.tuple [.str wPut, .int (k : Int), .tuple (xs.map PyData.str)]) = true := h
  rw [ed_three] at h
  simp only [Bool.and_eq_true, Bool.or_eq_true, decide_eq_true_eq] at h
  rcases h.2 with h | h
  · exact absurd h.2.2 (by simp [isLineD])
  · exact h.2.2.1
theorem sg_ne : Str.ofString "+" ≠ Str.ofString "-" ∧ Str.ofString "+" ≠ Str.ofString "=" ∧ Str.ofString "-" ≠ Str.ofString "=" := by decide +kernel
theorem lnum_iff {l : List Nat} : lnum l = true ↔ l ≠ [] ∧ l.length ≤ 2 ∧ (l.head? = some 48 → l = [48]) := by
  unfold lnum
  simp only [Bool.and_eq_true, Bool.not_eq_true', decide_eq_false_iff_not, decide_eq_true_eq, Bool.or_eq_true]
  constructor
  · rintro ⟨⟨a, b⟩, c⟩
    exact ⟨a, b, fun e => c.resolve_left fun n => n e⟩
  · rintro ⟨a, b, c⟩
    refine ⟨⟨a, b⟩, ?_⟩
    by_cases e : l.head? = some 48
    · exact .inr (c e)
    · exact .inl e
theorem read_law {p : Str} {e : Ed} (h : isEditD 60 e.d = true) : readE p = some e ↔ lawE p = some e := by
  have hall : (digs p).all digit = true := tw_all _
  have hat := ed_at h
  unfold readE lawE
  by_cases hl : lnum (digs p) = true
  · obtain ⟨a, b, c⟩ := lnum_iff.mp hl
    have hn : numOf (digs p) = some (NumText.digitsVal (digs p)) := by
      unfold numOf
      rw [if_pos ⟨a, by omega, c⟩]
    rw [hn, if_pos hl]
    dsimp only
    generalize NumText.digitsVal (digs p) = k
    generalize sgn p = sg
    generalize rst p = rs
    by_cases h1 : sg = Str.ofString "+"
    · subst h1
      rw [if_pos rfl, if_neg sg_ne.1, if_neg sg_ne.2.1]
      unfold readB barsOf
      dsimp only
      by_cases hx : cl rs = ((Txt.split rs bar).tail.map fun q => 124 :: cl q).flatten
      · by_cases hb : isBodyD (.tuple ((Txt.split rs bar).tail.map PyData.str)) = true
        · rw [if_pos (And.intro hb hx), if_pos (And.intro rfl hx)]; rfl
        · rw [if_neg (show ¬ (isBodyD (.tuple ((Txt.split rs bar).tail.map PyData.str)) = true ∧ _) from fun z => hb z.1), if_pos (And.intro rfl hx)]
          refine ⟨fun z => (nomatch z), fun z => ?_⟩
          cases z
          exact absurd (ed_body h) hb
      · rw [if_neg (show ¬ (isBodyD (.tuple ((Txt.split rs bar).tail.map PyData.str)) = true ∧ _) from fun z => hx z.2), if_neg (show ¬ (Str.ofString "+" = Str.ofString "+" ∧ _) from fun z => hx z.2)]; rfl
    · rw [if_neg h1]
      by_cases h2 : sg = Str.ofString "-"
      · subst h2
        rw [if_pos rfl]
        by_cases hr : rs = Str.ofString ""
        · rw [if_pos ⟨rfl, hr⟩, if_pos hr]
        · rw [if_neg fun z => hr z.2, if_neg hr, if_neg sg_ne.2.2]
      · rw [if_neg fun z => h2 z.1, if_neg h2]
        by_cases h3 : sg = Str.ofString "="
        · rw [if_pos h3, if_pos h3]
        · rw [if_neg h3, if_neg h3, if_neg fun z => h1 z.1]
  · rw [if_neg hl]
    refine ⟨fun z => ?_, fun z => (nomatch z)⟩
    unfold numOf at z
    by_cases hc : digs p ≠ [] ∧ (digs p).length ≤ 6 ∧ ((digs p).head? = some 48 → digs p = [48])
    · rw [if_pos hc] at z
      have h3 : 2 < (digs p).length := Nat.lt_of_not_le fun le => hl (lnum_iff.mpr ⟨hc.1, le, hc.2.2⟩)
      have big := dig_big hall h3 hc.2.2
      generalize NumText.digitsVal (digs p) = k at z big
      dsimp only at z
      exfalso
      have : e.at = k := by
        split at z
        · cases hb : readB (rst p) with
          | none => rw [hb] at z; cases z
          | some xs => rw [hb] at z; cases z; rfl
        · split at z
          · cases z; rfl
          · split at z
            · cases z; rfl
            · cases z
      omega
    · rw [if_neg hc] at z; cases z
theorem all_law : ∀ {ps : List Str} {es : List Ed}, (∀ e ∈ es, isEditD 60 e.d = true) → (allE ps = some es ↔ ps.map lawE = es.map some)
  | [], [], _ => ⟨fun _ => rfl, fun _ => rfl⟩
  | [], e :: r, _ => by constructor <;> intro h <;> cases h
  | p :: ps, [], _ => by
    refine ⟨fun h => ?_, fun h => by cases h⟩
    have := (allE_mem h).1
    cases this
  | p :: ps, e :: es, hg => by
    have h1 := read_law (p := p) (hg e List.mem_cons_self)
    have h2 := all_law (ps := ps) (es := es) fun e h => hg e (List.mem_cons_of_mem _ h)
    rw [List.map_cons, List.map_cons, List.cons.injEq, ← h1, ← h2]
    show (match readE p with | none => none | some e => match allE ps with | none => none | some es => some (e :: es)) = some (e :: es) ↔ _
    cases hr : readE p with
    | none => simp
    | some e' =>
      cases ha : allE ps with
      | none => simp
      | some es' => simp
theorem dr_good {es : List Ed} (h : isDraftD 60 (draftD es) = true) : ∀ e ∈ es, isEditD 60 e.d = true := fun e he => by
  have h : (decide ((es.map Ed.d).length ≤ 20) && ((es.map Ed.d).all (isEditD 60) && decide (((es.map Ed.d).map plD).Pairwise (· < ·)))) = true := h
  simp only [Bool.and_eq_true] at h
  exact List.all_eq_true.mp h.2.1 _ (List.mem_map_of_mem he)
theorem due_some {x : Str} {es : List Ed} (hx : x ≠ Str.ofString "") (h : (Txt.split x semi).map lawE = es.map some) : dueDr (.str x) = if isDraftD 60 (draftD es) = true then draftD es else textW := by
  have hR : readDs x = allE (Txt.split x semi) := by unfold readDs; rw [if_neg hx]
  show (match (readDs x).bind goodDr with | some es => draftD es | none => textW) = _
  rw [hR]
  by_cases hd : isDraftD 60 (draftD es) = true
  · rw [(all_law (dr_good hd)).mpr h, if_pos hd]
    show (match goodDr es with | some es => draftD es | none => textW) = _
    unfold goodDr
    rw [if_pos hd]
  · rw [if_neg hd]
    cases ha : allE (Txt.split x semi) with
    | none => rfl
    | some es' =>
      show (match goodDr es' with | some es => draftD es | none => textW) = _
      unfold goodDr
      by_cases hd' : isDraftD 60 (draftD es') = true
      · have h' := (all_law (dr_good hd')).mp ha
        rw [h] at h'
        have : es = es' := by
          have := congrArg (List.filterMap id) h'
          simpa using this
        rw [this] at hd
        exact absurd hd' hd
      · rw [if_neg hd']
theorem due_none {x : Str} {p : Str} (hx : x ≠ Str.ofString "") (hp : p ∈ Txt.split x semi) (h : lawE p = none) : dueDr (.str x) = textW := by
  have hR : readDs x = allE (Txt.split x semi) := by unfold readDs; rw [if_neg hx]
  show (match (readDs x).bind goodDr with | some es => draftD es | none => textW) = _
  rw [hR]
  cases ha : allE (Txt.split x semi) with
  | none => rfl
  | some es' =>
    show (match goodDr es' with | some es => draftD es | none => textW) = _
    unfold goodDr
    by_cases hd' : isDraftD 60 (draftD es') = true
    · have h' := (all_law (dr_good hd')).mp ha
      have hm : none ∈ (Txt.split x semi).map lawE := h ▸ List.mem_map_of_mem hp
      rw [h'] at hm
      obtain ⟨e, _, z⟩ := List.mem_map.mp hm
      cases z
    · rw [if_neg hd']
theorem lawE_gd {p : Str} (hl : p.length ≤ 90000) (hk : PyData.strOk p = true) : Gd 2 100000 (optE (lawE p)) := by
  unfold lawE
  have w3 : ∀ (s : Str) (k : Nat) (d : D), s.length ≤ 100000 → PyData.strOk s = true → Gd 1 100000 d → Gd 2 100000 (.tuple [.str s, .int (k : Int), d]) := fun s k d a b c => .tuple (by simp) fun z hz => by
    simp only [List.mem_cons, List.not_mem_nil, or_false] at hz
    rcases hz with rfl | rfl | rfl
    · exact .str a b
    · exact .int _
    · exact c
  split
  · split
    · split
      · refine .tuple (by simp) fun z hz => ?_
        simp only [List.mem_cons, List.not_mem_nil, or_false] at hz
        rcases hz with rfl | rfl
        · exact .str (by decide +kernel) (by decide +kernel)
        · exact .int _
      · exact .none
    · split
      · exact w3 wTurn _ _ (by decide +kernel) (by decide +kernel) (.str (Nat.le_trans (cutS_len' ..) (by omega)) (strOk_cut hk))
      · split
        · refine w3 wPut _ _ (by decide +kernel) (by decide +kernel) ?_
          have sp := split_ok cl_bar bar_k (rst p)
          have hr : (rst p).length ≤ 90000 := Nat.le_trans (cutS_len' ..) hl
          refine .tuple (by rw [List.length_map, List.length_tail]; have := sp.few; omega) fun d hd => ?_
          obtain ⟨q, hq, rfl⟩ := List.mem_map.mp hd
          have := sp.small q (List.mem_of_mem_tail hq)
          exact .str (by have := this.1; omega) (this.2 (strOk_cut hk))
        · exact .none
  · exact .none
def a_law_due_5 : AS :=
  (aRet (aIf (aAnd (aTest (aOp fNotInD (aC .none) (aVar 1))) (aTest (aCall ds_law_is_draft (aCons (aVar 3) (aCons (aC (.int 60)) aNil))))) (aVar 3) (aC (.str (Str.ofString "text")))))
def a_law_due_4 : AS :=
  (aSeq (aSet 3 (aCall fTuple (aCons (aVar 1) aNil)))
      a_law_due_5)
def a_law_due_3 : AS :=
  (aSeq (aSet 1 (aIf (aTest (aOp fNe (aVar 0) (aC (.str (Str.ofString ""))))) (aLc (aiList (aM1 fSplit (aVar 0) (aC (.str (Str.ofString ";"))))) (agName 2) atYes (aCall ds_law_edit (aCons (aVar 2) aNil)) [2]) (aLst aNil)))
      a_law_due_4)
def a_law_due : AS :=
  (aSeq (aIfS (aNot (aTest (aIsi "str" (aVar 0))))
      (aRet (aC (.str (Str.ofString "text"))))
      aNext)
      a_law_due_3)
theorem none_any : ∀ es : List Ed, ((es.map some).map optE).any (fun z => PyData.eqv z .none) = false
  | [] => rfl
  | e :: r => by
    rw [List.map_cons, List.map_cons, List.any_cons, none_any r]
    cases e <;> rfl
theorem vc_law_due : ∀ ds Qd, ds_law_due ds Qd → a_law_due { nx := fun _ => Qd .none, rt := Qd } (startE N_law_due.length (ds.map Cell.d)) := by
  rintro ds Qd ⟨d, n, L, rfl, hd, hn, hL, hq⟩
  show a_law_due _ [.d d, .un, .un, .un]
  unfold a_law_due
  walk_at "vc"
  refine ⟨isStr d, kit_str hd.nd, ?_⟩
  cases hs : isStr d
  · refine ite_yes rfl ?_
    rw [show dueDr d = textW by cases d <;> first | rfl | cases hs] at hq
    exact hq
  refine ite_no (by decide) ?_
  obtain ⟨x, rfl⟩ : ∃ x, d = .str x := by
    cases d <;> first | exact ⟨_, rfl⟩ | cases hs
  have hx : x.length ≤ L ∧ PyData.strOk x = true := by cases hd; exact ⟨by assumption, by assumption⟩
  have fin : ∀ os : List (Option Ed), os.length ≤ 90000 → (∀ o ∈ os, Gd 2 100000 (optE o)) → (∀ es : List Ed, os = es.map some → Qd (if isDraftD 60 (draftD es) = true then draftD es else textW)) → ((none : Option Ed) ∈ os → Qd textW) → a_law_due_4 { nx := fun _ => Qd .none, rt := Qd } [.d (.str x), .d (.list (os.map optE)), .un, .un] := fun os ho hg h1 h2 => by
    unfold a_law_due_4
    walk_at "vc"
    unfold a_law_due_5
    walk_at "vc"
    have hsh : Sh 3 (.list (os.map optE)) := .list fun d hd => by
      obtain ⟨o, ho, rfl⟩ := List.mem_map.mp hd
      exact (hg o ho).sh
    refine ⟨_, rfl, (Sh.none (n := 0)).shaped (by decide), hsh.shaped (by decide), ?_⟩
    by_cases hno : (none : Option Ed) ∈ os
    · have : (os.map optE).any (fun z => PyData.eqv z .none) = true := List.any_eq_true.mpr ⟨.none, List.mem_map.mpr ⟨none, hno, rfl⟩, rfl⟩
      rw [this]
      exact ite_no (by decide) (h2 hno)
    · obtain ⟨es, rfl⟩ : ∃ es : List Ed, os = es.map some := by
        refine ⟨os.filterMap id, ?_⟩
        clear h1 h2 ho hg hsh
        induction os with
        | nil => rfl
        | cons o r ih =>
          cases o with
          | none => exact absurd List.mem_cons_self hno
          | some e =>
            exact congrArg (some e :: ·) (ih fun z => hno (List.mem_cons_of_mem _ z))
      rw [none_any]
      have eD : (es.map some).map optE = es.map Ed.d := by rw [List.map_map]; rfl
      refine ite_yes rfl ?_
      rw [eD]
      refine ⟨draftD es, 3, 100000, 60, rfl, .tuple (by rw [List.length_map] at ho ⊢; omega) fun d hd => ?_, by decide, by decide, by decide, ?_⟩
      · obtain ⟨e, he, rfl⟩ := List.mem_map.mp hd
        exact hg (some e) (List.mem_map_of_mem he)
      · have h1 := h1 es rfl
        cases hb : isDraftD 60 (draftD es)
        · rw [if_neg (by rw [hb]; decide)] at h1
          exact ite_no (by decide) h1
        · rw [if_pos hb] at h1
          exact ite_yes rfl h1
  unfold a_law_due_3
  walk_at "vc"
  refine ne_str ?_
  by_cases he : x = Str.ofString ""
  · refine ite_no (by simp [he]) ⟨by decide, ?_⟩
    refine fin [] (by decide) (fun _ h => nomatch h) (fun es h => ?_) (fun h => nomatch h)
    have : es = [] := by cases es with | nil => rfl | cons a b => cases h
    subst this
    have : dueDr (.str x) = draftD [] := by rw [he]; rfl
    rw [this] at hq
    exact hq
  · refine ite_yes (by simpa using he) ?_
    have sp := split_ok cl_semi semi_k x
    have hfew := sp.few
    refine ⟨(by decide +kernel), sl_of (by omega), ?_⟩
    show _ ∧ _
    rw [List.length_map]
    refine ⟨sl_of (show (Txt.split x semi).length ≤ _ by omega), fun i acc => acc = ((Txt.split x semi).take i).map fun p => optE (lawE p), rfl, ?_, ?_⟩
    · rintro i d acc hd rfl
      obtain ⟨p, hp, rfl⟩ := map_at hd
      have sm := sp.small p (mem_get hp)
      refine ⟨p, rfl, Nat.le_trans sm.1 (by omega), sm.2 hx.2, ?_⟩
      dsimp only
      rw [take_at hp, List.map_append]; rfl
    · rintro acc rfl
      rw [show (Txt.split x (Str.ofString ";")).length = (Txt.split x semi).length from rfl, List.take_length, show ((Txt.split x semi).map fun p => optE (lawE p)) = ((Txt.split x semi).map lawE).map optE by rw [List.map_map]; rfl]
      refine fin _ (by rw [List.length_map]; omega) (fun o ho => ?_) (fun es h => ?_) (fun h => ?_)
      · obtain ⟨p, hp, rfl⟩ := List.mem_map.mp ho
        have sm := sp.small p hp
        exact lawE_gd (Nat.le_trans sm.1 (by omega)) (sm.2 hx.2)
      · rw [due_some he h] at hq; exact hq
      · obtain ⟨p, hp, h⟩ := List.mem_map.mp h
        rw [due_none he hp h] at hq; exact hq
def a_law_12 : AZ :=
  (zSet 7 (q2x (qLift (aOp fAdd (aOp fAdd (aSl (aVar 7) aoNo (aoSome (aVar 9))) (aVar 10)) (aSl (aVar 7) (aoSome (aOp fAdd (aVar 9) (aCallT ds_law_draw 1 (aCons (aC (.int 2)) aNil)))) aoNo)))))
def a_law_11 : AZ :=
  (zSeq (zSet 10 (q2x (qLift (aOp fIx (aLst (aCons (aC (.str (Str.ofString "0"))) (aCons (aC (.str (Str.ofString "1"))) (aCons (aC (.str (Str.ofString "-"))) (aCons (aC (.str (Str.ofString "+"))) (aCons (aC (.str (Str.ofString "="))) (aCons (aC (.str (Str.ofString "|"))) (aCons (aC (.str (Str.ofString ";"))) (aCons (aC (.str (Str.ofString " "))) (aCons (aC (.str (Str.ofString "a"))) (aCons (aC (.str (Str.ofString "A"))) (aCons (aC (.str (Str.ofString ""))) aNil)))))))))))) (aCallT ds_law_draw 1 (aCons (aC (.int 11)) aNil))))))
      a_law_12)
def a_law_10 : AZ :=
  (zSeq (zSet 9 (q2x (qLift (aCallT ds_law_draw 1 (aCons (aOp fAdd (aCall fLen (aCons (aVar 7) aNil)) (aC (.int 1))) aNil)))))
      a_law_11)
def a_law_13 : AZ :=
  (zAppend 0 (qVar 5) (qLift (aVar 7)))
def a_law_9 : AZ :=
  (zSeq (zFor (xiRng1 (qCons (qLift (aOp fAdd (aC (.int 1)) (aCallT ds_law_draw 1 (aCons (aC (.int 2)) aNil)))) qNil)) (xgName 8)
      a_law_10)
      a_law_13)
def a_law_8 : AZ :=
  (zSeq (zSet 7 (q2x (qLift (aVar 3))))
      a_law_9)
def a_law_16 : AZ :=
  (zIf (q2xt (qLiftT (aOr (aTest (aOp fNe (aVar 12) (aCall ds_law_due (aCons (aVar 11) aNil)))) (aNot (aTest (aIsi2 "str" "tuple" (aVar 12)))))))
      (zRet (q2x (qLift (aC (.bool false)))))
      zNext)
def a_law_15 : AZ :=
  (zSeq (zSet 12 (q2x (qLift (aCall ds_law_tried (aCons (aVar 11) aNil)))))
      a_law_16)
def a_law_14 : AZ :=
  (zFreeze 5 0 (zFor (xiList (qVar 5)) (xgName 11)
      a_law_15))
def a_law_7 : AZ :=
  (zSeq (zFor (xiRng1 (qCons (qLift (aC (.int 6))) qNil)) (xgName 6)
      a_law_8)
      a_law_14)
def a_law_6 : AZ :=
  (zFreeze 5 0 (zSeq (zSetNew 5 0 (q2x (qCatNew (qVar 5) (qLift (aLst (aCons (aOp fAdd (aC (.str (Str.ofString "0"))) (aVar 3)) (aCons (aC (.str (Str.ofString "00-"))) (aCons (aC (.str (Str.ofString "60+|a"))) (aCons (aC (.str (Str.ofString "60-"))) (aCons (aC (.str (Str.ofString "61+|a"))) (aCons (aC (.str (Str.ofString "59=a"))) (aCons (aOp fAdd (aOp fMulP (aC (.str (Str.ofString "1"))) (aC (.int 30))) (aC (.str (Str.ofString "-")))) (aCons (aC (.str (Str.ofString "3+"))) (aCons (aC (.str (Str.ofString "3="))) (aCons (aC (.str (Str.ofString "3-a"))) (aCons (aC (.str (Str.ofString "+|a"))) aNil))))))))))))))))
      a_law_7))
def a_law_5 : AZ :=
  (zSeq (zSetNew 5 0 (q2x (qNewL (qCons (qLift (aVar 3)) (qCons (qLift (aM1 fJoin (aC (.str (Str.ofString ";"))) (aRevL (aVar 4)))) (qCons (qLift (aM1 fJoin (aC (.str (Str.ofString ";"))) (aOp fAdd (aVar 4) (aSl (aVar 4) aoNo (aoSome (aC (.int 1))))))) (qCons (qLift (aOp fAdd (aVar 3) (aC (.str (Str.ofString ";"))))) (qCons (qLift (aOp fAdd (aC (.str (Str.ofString ";"))) (aVar 3))) (qCons (qLift (aCallT (ds_law_any 3) 1 (aCons (aC (.int 2)) aNil))) qNil)))))))))
      a_law_6)
def a_law_4 : AZ :=
  (zSeq (zSet 4 (q2x (qLift (aM1 fSplit (aVar 3) (aC (.str (Str.ofString ";")))))))
      a_law_5)
def a_law_3 : AZ :=
  (zSeq (zSet 3 (q2x (qLift (aCall ds_draft_text (aCons (aCallT ds_law_a_draft 1 (aCons (aOp fIx (aLst (aCons (aCallT ds_law_draw 1 (aCons (aC (.int 5)) aNil)) (aCons (aC (.int 60)) aNil))) (aOp fDiv (aCallT ds_law_draw 1 (aCons (aC (.int 5)) aNil)) (aC (.int 4)))) (aCons (aOp fAdd (aC (.int 1)) (aCallT ds_law_draw 1 (aCons (aC (.int 4)) aNil))) aNil))) aNil)))))
      a_law_4)
def a_law_18 : AZ :=
  (zRet (q2x (qLift (aC (.bool true)))))
def a_law : AZ :=
  (zSeq (zFor (xiRng1 (qCons (qLift (aC (.int 8))) qNil)) (xgName 2)
      a_law_3)
      a_law_18)
theorem ntext {x : Str} {body : List Str} (h : x = bodyText body) (hb : body.length ≤ 60) (hl : Lines body) : x.length ≤ 1860 ∧ PyData.strOk x = true := by
  subst h
  have := bodyText_len hl
  refine ⟨by omega, strOk_of fun k hk => ?_⟩
  rw [cl_bodyText, List.mem_flatten] at hk
  obtain ⟨l, hl', hk⟩ := hk
  obtain ⟨y, hy, rfl⟩ := List.mem_map.mp hl'
  rcases List.mem_cons.mp hk with rfl | hk
  · decide
  · have h2 := (hl y hy).ok
    unfold PyData.strOk at h2
    rw [Array.all_eq_true'] at h2
    exact of_decide_eq_true (h2 k (Array.mem_toList_iff.mp hk))
theorem joinL_mem {S : List Nat} {k : Nat} : ∀ {ps : List (List Nat)}, k ∈ TL.joinL S ps → k ∈ S ∨ ∃ p ∈ ps, k ∈ p
  | [], h => by simp [TL.joinL] at h
  | [p], h => by
    simp only [TL.joinL] at h
    exact .inr ⟨p, List.mem_singleton.mpr rfl, h⟩
  | p :: q :: r, h => by
    simp only [TL.joinL, List.mem_append] at h
    rcases h with h | h | h
    · exact .inr ⟨p, List.mem_cons_self, h⟩
    · exact .inl h
    · rcases joinL_mem h with z | ⟨y, hy, z⟩
      · exact .inl z
      · exact .inr ⟨y, List.mem_cons_of_mem _ hy, z⟩
theorem joinL_sum {S : List Nat} : ∀ ps : List (List Nat), (TL.joinL S ps).length ≤ (ps.map (·.length)).sum + ps.length * S.length
  | [] => by simp [TL.joinL]
  | [p] => by simp [TL.joinL]
  | p :: q :: r => by
    have h := joinL_sum (S := S) (q :: r)
    simp only [TL.joinL, List.length_append, List.map_cons, List.sum_cons, List.length_cons, Nat.succ_mul] at h ⊢
    omega
theorem cl_joinS (ps : List Str) : cl (Txt.join semi ps) = TL.joinL [59] (ps.map cl) := by
  rw [TL.join_eq]
  have t := TL.tl_join semi ps
  rw [show TL.tl semi = [59] from cl_semi] at t
  exact t
theorem join_ok {ps : List Str} {m : Nat} (hs : (ps.map (·.length)).sum ≤ m) (hk : ∀ p ∈ ps, PyData.strOk p = true) : (Txt.join semi ps).length ≤ m + ps.length ∧ PyData.strOk (Txt.join semi ps) = true := by
  refine ⟨?_, strOk_of fun k hm => ?_⟩
  · rw [← cl_len, cl_joinS]
    have := joinL_sum (S := [59]) (ps.map cl)
    rw [List.map_map, show ((fun x : List Nat => x.length) ∘ cl) = (fun x : Str => x.length) from funext fun x => cl_len x, List.length_map] at this
    simp only [List.length_cons, List.length_nil] at this
    omega
  · rw [cl_joinS] at hm
    rcases joinL_mem hm with z | ⟨y, hy, z⟩
    · simp at z; subst z; decide
    · obtain ⟨p, hp, rfl⟩ := List.mem_map.mp hy
      have h2 := hk p hp
      unfold PyData.strOk at h2
      rw [Array.all_eq_true'] at h2
      exact of_decide_eq_true (h2 k (Array.mem_toList_iff.mp z))
theorem num_strOk : ∀ k : Nat, k ≤ 60 → PyData.strOk (numS k) = true := by decide +kernel
theorem ed_strOk {e : Ed} (h : e.Ok 60) : PyData.strOk (edText e) = true := by
  have hn := num_strOk _ (Ed.at_le h)
  cases e with
  | put k xs => exact strOk_append (strOk_append hn (by decide +kernel)) (ntext rfl (Nat.le_trans h.2.2.1 (by decide)) h.2.2.2).2
  | drop k => exact strOk_append hn (by decide +kernel)
  | turn k x => exact strOk_append (strOk_append hn (by decide +kernel)) h.2.ok
theorem dr_text {es : List Ed} (hl : es.length ≤ 20) (h : ∀ e ∈ es, e.Ok 60) : (draftText es).length ≤ 5000 ∧ PyData.strOk (draftText es) = true := by
  refine ⟨draftText_len hl h, (join_ok (ps := es.map edText) (m := _) (Nat.le_refl _) fun p hp => ?_).2⟩
  obtain ⟨e, he, rfl⟩ := List.mem_map.mp hp
  exact ed_strOk (h e he)
theorem sum_cl : ∀ r : List Str, (r.map (·.length)).sum + r.length = ((r.map fun q => 59 :: cl q).flatten).length
  | [] => rfl
  | y :: r => by
    rw [List.map_cons, List.sum_cons, List.map_cons, List.flatten_cons, List.length_append, ← sum_cl r, List.length_cons, List.length_cons, cl_len]
    omega
theorem split_sum (x : Str) : ((Txt.split x semi).map (·.length)).sum ≤ x.length := by
  obtain ⟨p, r, e, hb⟩ := (split_ok cl_semi semi_k x).back
  have := congrArg List.length hb
  rw [List.length_append, ← sum_cl r, cl_len, cl_len] at this
  rw [e, List.map_cons, List.sum_cons]
  omega
theorem due_gd {d : D} {n L : Nat} (h : Gd n L d) (hL : L ≤ 80000) : Gd 3 100000 (dueDr d) := by
  unfold dueDr
  cases d with
  | str x =>
    show Gd 3 100000 (match (readDs x).bind goodDr with | some es => draftD es | none => textW)
    have hx : x.length ≤ L ∧ PyData.strOk x = true := by cases h; exact ⟨by assumption, by assumption⟩
    cases hr : readDs x with
    | none => exact .str (by decide +kernel) (by decide +kernel)
    | some es =>
      show Gd 3 100000 (match goodDr es with | some es => draftD es | none => textW)
      unfold goodDr
      by_cases hd : isDraftD 60 (draftD es) = true
      · rw [if_pos hd]; exact readDs_gd (Nat.le_trans hx.1 hL) hx.2 hr
      · rw [if_neg hd]; exact .str (by decide +kernel) (by decide +kernel)
  | _ => exact .str (by decide +kernel) (by decide +kernel)
theorem vc_law : a_law { nx := fun _ => False, rt := rtP fun d => d = .bool true } ⟨.un :: .tape :: List.replicate 11 .un, List.replicate 1 .gone, []⟩ := by
  show a_law _ ⟨[.un, .tape, .un, .un, .un, .un, .un, .un, .un, .un, .un, .un, .un], [.gone], []⟩
  unfold a_law
  walk_at "vz"
  refine ⟨⟨by decide, by decide⟩, fun _ s => ∃ c2 c3 c4 c5 c6 c7 c8 c9 c10 c11 c12 r, s = (⟨[.un, .tape, c2, c3, c4, c5, c6, c7, c8, c9, c10, c11, c12], [r], []⟩ : Sx), ⟨_, _, _, _, _, _, _, _, _, _, _, _, rfl⟩, ?_, ?_⟩
  · rintro i d s hd ⟨c2, c3, c4, c5, c6, c7, c8, c9, c10, c11, c12, r, rfl⟩
    unfold a_law_3
    walk_at "vz"
    refine ⟨by decide, by decide, fun r r0 r1 => ⟨by decide, by decide, by decide, fun s s0 s1 => ⟨wide200 (by decide) (by decide), ix_list (by omega) (by simp; omega) fun m hm => ?_⟩⟩⟩
    obtain ⟨mn, rfl, m1⟩ : ∃ mn : Nat, m = .int (mn : Int) ∧ mn ≤ 60 := by
      have h := mem_get hm
      simp only [List.mem_cons, List.not_mem_nil, or_false] at h
      rcases h with rfl | rfl
      · exact ⟨r.toNat, by rw [Int.toNat_of_nonneg r0], by omega⟩
      · exact ⟨60, rfl, by decide⟩
    refine ⟨by decide, by decide, fun q q0 q1 => ⟨mn, _, rfl, by omega, by omega, by omega, fun es hes0 => ⟨es, rfl, hes0.to m1, ?_⟩⟩⟩
    have hes := hes0.to m1
    have hl := hes.len
    obtain ⟨xl, xo⟩ := dr_text hl hes.ok
    generalize draftText es = x at xl xo
    have sp := split_ok cl_semi semi_k x
    have hfew := sp.few
    have hsum := split_sum x
    unfold a_law_4
    walk_at "vz"
    refine ⟨(by decide +kernel), sl_of (by omega), ?_⟩
    show a_law_5 _ ⟨[.un, .tape, .d d, .d (.str x), .d (.list ((Txt.split x semi).map PyData.str)), c5, c6, c7, c8, c9, c10, c11, c12], [_], []⟩
    have hps : ∀ p ∈ Txt.split x semi, PyData.strOk p = true := fun p hp => (sp.small p hp).2 xo
    generalize Txt.split x semi = ps at hps hfew hsum
    have b1 : (Str.ofString ";").length = 1 := by decide +kernel
    have b2 : PyData.strOk (Str.ofString ";") = true := by decide +kernel
    have rest7 : ∀ ds : List D, ds.length ≤ 17 → (∀ e ∈ ds, Gd 3 40000 e) → ∀ c6 c7 c8 c9 c10 c11 c12, a_law_7
        { nx := fun s => ∃ c2 c3 c4 c5 c6 c7 c8 c9 c10 c11 c12 r, s = (⟨[.un, .tape, c2, c3, c4, c5, c6, c7, c8, c9, c10, c11, c12], [r], []⟩ : Sx), rt := rtP fun d => d = .bool true, bk := a_law_18 { nx := fun _ => False, rt := rtP fun d => d = .bool true }, ct := fun s => ∃ c2 c3 c4 c5 c6 c7 c8 c9 c10 c11 c12 r, s = (⟨[.un, .tape, c2, c3, c4, c5, c6, c7, c8, c9, c10, c11, c12], [r], []⟩ : Sx) }
        ⟨[.un, .tape, .d d, .d (.str x), .d (.list (ps.map PyData.str)), .at 0 [], c6, c7, c8, c9, c10, c11, c12], [.nd .lst (ds.map M.d)], []⟩ := fun ds hdl hds c6 c7 c8 c9 c10 c11 c12 => by
      unfold a_law_7
      walk_at "vz"
      refine ⟨⟨by decide, by decide⟩, fun i s => ∃ ds c6 c7 c8 c9 c10, s = (⟨[.un, .tape, .d d, .d (.str x), .d (.list (ps.map PyData.str)), .at 0 [], c6, c7, c8, c9, c10, c11, c12], [.nd .lst (ds.map M.d)], []⟩ : Sx) ∧ ds.length ≤ 17 + i ∧ ∀ e ∈ ds, Gd 3 40000 e, ⟨ds, _, _, _, _, _, rfl, hdl, hds⟩, ?_, ?_⟩
      · rintro i e s he ⟨ds, c6, c7, c8, c9, c10, rfl, hdl, hds⟩
        obtain ⟨hi, rfl⟩ := rng_at he
        unfold a_law_8
        walk_at "vz"
        unfold a_law_9
        walk_at "vz"
        refine ⟨by decide, by decide, fun w w0 w1 => ⟨(by unfold InRg; omega), fun j s => ∃ z c8 c9 c10, s = (⟨[.un, .tape, .d d, .d (.str x), .d (.list (ps.map PyData.str)), .at 0 [], .d (.int (i : Int)), .d (.str z), c8, c9, c10, c11, c12], [.nd .lst (ds.map M.d)], []⟩ : Sx) ∧ ((j = 0 → z.length ≤ 5000) ∧ (j ≤ 1 → z.length ≤ 10001) ∧ z.length ≤ 20003) ∧ PyData.strOk z = true, ⟨x, _, _, _, rfl, ⟨fun _ => xl, fun _ => by omega, by omega⟩, xo⟩, ?_, ?_⟩⟩
        · rintro j e s he2 ⟨z, c8, c9, c10, rfl, hzl, hzo⟩
          obtain ⟨hj, rfl⟩ := rng_at he2
          have hj : j < 2 := by omega
          unfold a_law_10
          walk_at "vz"
          refine ⟨sl_of (by omega), by omega, by omega, fun k k0 k1 => ?_⟩
          unfold a_law_11
          walk_at "vz"
          refine ⟨by decide, by decide, by decide, fun t t0 t1 => ix_list t0 (by simpa using t1) fun sg hsg => ?_⟩
          obtain ⟨y, rfl, y1, y2⟩ : ∃ y : Str, sg = .str y ∧ y.length ≤ 1 ∧ PyData.strOk y = true := by
            have h := mem_get hsg
            simp only [List.mem_cons, List.not_mem_nil, or_false] at h
            rcases h with rfl | rfl | rfl | rfl | rfl | rfl | rfl | rfl | rfl | rfl | rfl <;> exact ⟨_, rfl, by decide +kernel, by decide +kernel⟩
          unfold a_law_12
          walk_at "vz"
          obtain ⟨z0, z1, z2⟩ := hzl
          have hz1 : z.length ≤ 10001 := z1 (by omega)
          have l1 := cutS_len' z none (some k)
          refine ⟨sl_of (by omega), sl_of (by omega), by decide, by decide, fun r r0 r1 => ?_⟩
          have l2 := cutS_len' z (some (k + r)) none
          have l3 : (cutS z none (some k) ++ y ++ cutS z (some (k + r)) none).length ≤ 2 * z.length + 1 := by
            rw [len_append, len_append]; omega
          refine ⟨sl_of (by omega), sl_of (by rw [len_append]; omega), _, _, _, _, rfl, ⟨fun h => h.elim, fun h => ?_, by omega⟩, strOk_append (strOk_append (strOk_cut hzo) y2) (strOk_cut hzo)⟩
          have := z0 (by omega)
          omega
        · rintro s ⟨z, c8, c9, c10, rfl, hzl, hzo⟩
          unfold a_law_13
          walk_at "vz"
          have hi : i < 6 := hi
          exact ⟨Nat.lt_of_lt_of_le (show ds.length < 1000000 by omega) (by decide), ds ++ [.str z], _, _, _, _, _, (by rw [List.map_append]; rfl), (by rw [List.length_append]; simp only [List.length_cons, List.length_nil]; omega), all_snoc hds (.str (by omega) hzo)⟩
      · rintro s ⟨ds, c6, c7, c8, c9, c10, rfl, hdl, hds⟩
        rw [rngD_len] at hdl
        unfold a_law_14
        walk_at "vz"
        refine ⟨_, _, rfl, (by have h := view_lstM (fun d : D => d) ds; rw [List.map_id'] at h; exact h), ?_⟩
        refine ⟨fun i s => ∃ c11 c12, s = (⟨[.un, .tape, .d d, .d (.str x), .d (.list (ps.map PyData.str)), .d (.list ds), killR 0 c6, killR 0 c7, killR 0 c8, killR 0 c9, killR 0 c10, c11, c12], [.gone], []⟩ : Sx), ⟨_, _, rfl⟩, ?_, ?_⟩
        · rintro i e s he ⟨c11, c12, rfl⟩
          have hg := hds e (mem_get he)
          unfold a_law_15
          walk_at "vz"
          refine ⟨e, 3, 40000, rfl, hg, by decide, by decide, ?_⟩
          dsimp only
          have hdue := due_gd hg (by decide)
          unfold a_law_16
          walk_at "vz"
          refine ⟨e, 3, 40000, rfl, hg, by decide, by decide, ne_same hdue.sh (by decide) (ite_no Bool.false_ne_true ?_)⟩
          have hk : ∃ b b', kitB (tyD (dueDr e)) "str" = some b ∧ kitB (tyD (dueDr e)) "tuple" = some b' ∧ (!(b || b')) = false := by
            unfold dueDr
            split
            · exact ⟨false, true, by rfl, by rfl, rfl⟩
            · exact ⟨true, false, by rfl, by rfl, rfl⟩
          obtain ⟨b, b', h1, h2, h3⟩ := hk
          exact ⟨b, b', h1, h2, ite_no (by rw [h3]; decide) ⟨_, _, rfl⟩⟩
        · rintro s ⟨c11, c12, rfl⟩
          exact ⟨_, _, _, _, _, _, _, _, _, _, _, _, rfl⟩
    have rest : ∀ ds : List D, ds.length ≤ 6 → (∀ e ∈ ds, Gd 3 40000 e) → ∀ c6 c7 c8 c9 c10 c11 c12, a_law_6
        { nx := fun s => ∃ c2 c3 c4 c5 c6 c7 c8 c9 c10 c11 c12 r, s = (⟨[.un, .tape, c2, c3, c4, c5, c6, c7, c8, c9, c10, c11, c12], [r], []⟩ : Sx), rt := rtP fun d => d = .bool true, bk := a_law_18 { nx := fun _ => False, rt := rtP fun d => d = .bool true }, ct := fun s => ∃ c2 c3 c4 c5 c6 c7 c8 c9 c10 c11 c12 r, s = (⟨[.un, .tape, c2, c3, c4, c5, c6, c7, c8, c9, c10, c11, c12], [r], []⟩ : Sx) }
        ⟨[.un, .tape, .d d, .d (.str x), .d (.list (ps.map PyData.str)), .at 0 [], c6, c7, c8, c9, c10, c11, c12], [.nd .lst (ds.map M.d)], []⟩ := fun ds hdl hds c6 c7 c8 c9 c10 c11 c12 => by
      unfold a_law_6
      walk_at "vz"
      refine ⟨_, _, rfl, (by have h := view_lstM (fun d : D => d) ds; rw [List.map_id'] at h; exact h), ?_⟩
      unfold qCatNew
      walk_at "vz"
      refine ⟨sl_of (by rw [show (Str.ofString "0").length = 1 by decide +kernel]; omega), by decide, by decide, by decide +kernel, by decide +kernel, by decide, ds, _, rfl, rfl, sl_of (by simp only [List.length_cons, List.length_nil]; omega), ?_⟩
      refine rest7 _ (by rw [List.length_append]; simp only [List.length_cons, List.length_nil]; omega) ?_ _ _ _ _ _ _ _
      intro e he
      rcases List.mem_append.mp he with he | he
      · exact hds e he
      · simp only [List.mem_cons, List.not_mem_nil, or_false] at he
        rcases he with rfl | rfl | rfl | rfl | rfl | rfl | rfl | rfl | rfl | rfl | rfl <;>
          first
            | exact .str (by decide +kernel) (by decide +kernel)
            | exact .str (by rw [len_append, show (Str.ofString "0").length = 1 by decide +kernel]; omega) (strOk_append (by decide +kernel) xo)
    have hsum2 : ∀ qs : List Str, (∀ q ∈ qs, PyData.strOk q = true) → ∀ m, (qs.map (·.length)).sum ≤ m → qs.length ≤ 10010 → m ≤ 10010 → ((Txt.join semi qs).length ≤ 40000 ∧ PyData.strOk (Txt.join semi qs) = true) ∧ (qs.map (·.length)).sum + qs.length * 1 ≤ sizeLine := fun qs hq m hm hl1 hl2 => by
      obtain ⟨a, b⟩ := join_ok hm hq
      exact ⟨⟨by omega, b⟩, sl_of (by omega)⟩
    unfold a_law_5
    walk_at "vz"
    have hrev : (ps.reverse.map (·.length)).sum ≤ x.length := by rw [List.map_reverse, List.sum_reverse]; exact hsum
    obtain ⟨⟨ja1, ja2⟩, ja3⟩ := hsum2 ps.reverse (fun q hq => hps q (List.mem_reverse.mp hq)) _ hrev (by rw [List.length_reverse]; omega) (by omega)
    refine ⟨ps.reverse, .inl (by rw [List.map_reverse]), by rw [b1]; exact ja3, ?_⟩
    have ect : cut (ps.map PyData.str) none (some 1) = (ps.take 1).map PyData.str := by
      rw [show (1 : Int) = ((1 : Nat) : Int) from rfl]
      cases ps with
      | nil => rfl
      | cons a r => rw [cut_to _ 1 (by simp)]; rfl
    rw [ect, List.length_map]
    have ht1 : (ps.take 1).length ≤ 1 := by rw [List.length_take]; omega
    have hs2 : ((ps ++ ps.take 1).map (·.length)).sum ≤ 10000 := by
      rw [List.map_append, List.sum_append]
      have : ((ps.take 1).map (·.length)).sum ≤ (ps.map (·.length)).sum := by
        cases ps with
        | nil => simp
        | cons a r => simp
      omega
    obtain ⟨⟨jb1, jb2⟩, jb3⟩ := hsum2 (ps ++ ps.take 1) (fun q hq => (List.mem_append.mp hq).elim (hps q) fun h => hps q (List.mem_of_mem_take h)) _ hs2 (by rw [List.length_append]; omega) (by omega)
    refine ⟨sl_of (by omega), ps ++ ps.take 1, .inl (by rw [List.map_append]), by rw [b1]; exact jb3, sl_of (by omega), sl_of (by omega), ?_⟩
    refine ⟨2, rfl, by decide, fun y hy => ⟨by decide, ?_⟩⟩
    refine rest [_, _, _, _, _, _] (by simp) ?_ _ _ _ _ _ _ _
    intro e he
    simp only [List.mem_cons, List.not_mem_nil, or_false] at he
    rcases he with rfl | rfl | rfl | rfl | rfl | rfl
    · exact .str (by omega) xo
    · exact .str ja1 ja2
    · exact .str jb1 jb2
    · exact .str (by rw [len_append]; omega) (strOk_append xo b2)
    · exact .str (by rw [len_append]; omega) (strOk_append b2 xo)
    · exact hy.mono (by decide) (by decide)
  · rintro s ⟨c2, c3, c4, c5, c6, c7, c8, c9, c10, c11, c12, r, rfl⟩
    unfold a_law_18
    walk_at "vz"
structure Tx (K : PySem.W.Frag) (mg : Str → Option Value) where
  f_is_number : Addr
  fd_is_number : FuncData
  d_is_number : Df K mg "is_number" s_is_number ps_is_number f_is_number fd_is_number
  f_is_line : Addr
  fd_is_line : FuncData
  d_is_line : Df K mg "is_line" s_is_line ps_is_line f_is_line fd_is_line
  f_is_body : Addr
  fd_is_body : FuncData
  d_is_body : Df K mg "is_body" s_is_body ps_is_body f_is_body fd_is_body
  f_place_of : Addr
  fd_place_of : FuncData
  d_place_of : Df K mg "place_of" s_place_of ps_place_of f_place_of fd_place_of
  f_is_edit : Addr
  fd_is_edit : FuncData
  d_is_edit : Df K mg "is_edit" s_is_edit ps_is_edit f_is_edit fd_is_edit
  f_is_draft : Addr
  fd_is_draft : FuncData
  d_is_draft : Df K mg "is_draft" s_is_draft ps_is_draft f_is_draft fd_is_draft
  f_body_text : Addr
  fd_body_text : FuncData
  d_body_text : Df K mg "body_text" s_body_text ps_body_text f_body_text fd_body_text
  f_edit_text : Addr
  fd_edit_text : FuncData
  d_edit_text : Df K mg "edit_text" s_edit_text ps_edit_text f_edit_text fd_edit_text
  f_draft_text : Addr
  fd_draft_text : FuncData
  d_draft_text : Df K mg "draft_text" s_draft_text ps_draft_text f_draft_text fd_draft_text
  f_need_text : Addr
  fd_need_text : FuncData
  d_need_text : Df K mg "need_text" s_need_text ps_need_text f_need_text fd_need_text
  f_read_number : Addr
  fd_read_number : FuncData
  d_read_number : Df K mg "read_number" s_read_number ps_read_number f_read_number fd_read_number
  f_read_body : Addr
  fd_read_body : FuncData
  d_read_body : Df K mg "read_body" s_read_body ps_read_body f_read_body fd_read_body
  f_read_edit : Addr
  fd_read_edit : FuncData
  d_read_edit : Df K mg "read_edit" s_read_edit ps_read_edit f_read_edit fd_read_edit
  f_read_draft : Addr
  fd_read_draft : FuncData
  d_read_draft : Df K mg "read_draft" s_read_draft ps_read_draft f_read_draft fd_read_draft
  f_law_draw : Addr
  fd_law_draw : FuncData
  d_law_draw : Df K mg "_law_draw" s_law_draw ps_law_draw f_law_draw fd_law_draw
  f_law_whole : Addr
  fd_law_whole : FuncData
  d_law_whole : Df K mg "_law_whole" s_law_whole ps_law_whole f_law_whole fd_law_whole
  f_law_word : Addr
  fd_law_word : FuncData
  d_law_word : Df K mg "_law_word" s_law_word ps_law_word f_law_word fd_law_word
  f_law_a_line : Addr
  fd_law_a_line : FuncData
  d_law_a_line : Df K mg "_law_a_line" s_law_a_line ps_law_a_line f_law_a_line fd_law_a_line
  f_law_an_edit : Addr
  fd_law_an_edit : FuncData
  d_law_an_edit : Df K mg "_law_an_edit" s_law_an_edit ps_law_an_edit f_law_an_edit fd_law_an_edit
  f_law_a_draft : Addr
  fd_law_a_draft : FuncData
  d_law_a_draft : Df K mg "_law_a_draft" s_law_a_draft ps_law_a_draft f_law_a_draft fd_law_a_draft
  f_law_any : Addr
  fd_law_any : FuncData
  d_law_any : Df K mg "_law_any" s_law_any ps_law_any f_law_any fd_law_any
  f_law_is_line : Addr
  fd_law_is_line : FuncData
  d_law_is_line : Df K mg "_law_is_line" s_law_is_line ps_law_is_line f_law_is_line fd_law_is_line
  f_law_is_body : Addr
  fd_law_is_body : FuncData
  d_law_is_body : Df K mg "_law_is_body" s_law_is_body ps_law_is_body f_law_is_body fd_law_is_body
  f_law_is_edit : Addr
  fd_law_is_edit : FuncData
  d_law_is_edit : Df K mg "_law_is_edit" s_law_is_edit ps_law_is_edit f_law_is_edit fd_law_is_edit
  f_law_is_draft : Addr
  fd_law_is_draft : FuncData
  d_law_is_draft : Df K mg "_law_is_draft" s_law_is_draft ps_law_is_draft f_law_is_draft fd_law_is_draft
  f_law_tried : Addr
  fd_law_tried : FuncData
  d_law_tried : Df K mg "_law_tried" s_law_tried ps_law_tried f_law_tried fd_law_tried
  f_law_edit : Addr
  fd_law_edit : FuncData
  d_law_edit : Df K mg "_law_edit" s_law_edit ps_law_edit f_law_edit fd_law_edit
  f_law_due : Addr
  fd_law_due : FuncData
  d_law_due : Df K mg "_law_due" s_law_due ps_law_due f_law_due fd_law_due
  b_ValueError : mg "ValueError" = none
  b_all : mg "all" = none
  b_bool : mg "bool" = none
  b_int : mg "int" = none
  b_isinstance : mg "isinstance" = none
  b_len : mg "len" = none
  b_list : mg "list" = none
  b_max : mg "max" = none
  b_min : mg "min" = none
  b_range : mg "range" = none
  b_set : mg "set" = none
  b_sorted : mg "sorted" = none
  b_str : mg "str" = none
  b_tuple : mg "tuple" = none
  g_SMALL : ∃ u, mg "SMALL" = some u ∧ RelV (.str (Str.ofString "abcdefghijklmnopqrstuvwxyz")) u
  g_MOST_SIGNS : ∃ u, mg "MOST_SIGNS" = some u ∧ RelV (.int 30) u
  g_MOST_LINES : ∃ u, mg "MOST_LINES" = some u ∧ RelV (.int 60) u
  g_MOST_PUT : ∃ u, mg "MOST_PUT" = some u ∧ RelV (.int 5) u
  g_MOST_EDITS : ∃ u, mg "MOST_EDITS" = some u ∧ RelV (.int 20) u
  g_FIGURES : ∃ u, mg "FIGURES" = some u ∧ RelV (.str (Str.ofString "0123456789")) u
  g_MOST_FIGURES : ∃ u, mg "MOST_FIGURES" = some u ∧ RelV (.int 6) u
  a_LONGEST : Addr
  g_LONGEST : mg "LONGEST" = some (.ref a_LONGEST)
  r_LONGEST : ∀ G, Rv K G (.ref a_LONGEST) (.tuple (List.replicate 60 (.str (Str.ofString "a"))))
  c_FairError : Addr
  g_FairError : mg "FairError" = some (.ref c_FairError)
  c_NoOffice : Addr
  g_NoOffice : mg "NoOffice" = some (.ref c_NoOffice)
  c_NoDays : Addr
  g_NoDays : mg "NoDays" = some (.ref c_NoDays)
  c_NoDesk : Addr
  g_NoDesk : mg "NoDesk" = some (.ref c_NoDesk)
  c_NoHouse : Addr
  g_NoHouse : mg "NoHouse" = some (.ref c_NoHouse)
  c_NoBody : Addr
  g_NoBody : mg "NoBody" = some (.ref c_NoBody)
  c_NoName : Addr
  g_NoName : mg "NoName" = some (.ref c_NoName)
  c_NoLetter : Addr
  g_NoLetter : mg "NoLetter" = some (.ref c_NoLetter)
  c_NotNow : Addr
  g_NotNow : mg "NotNow" = some (.ref c_NotNow)
  c_NoDraft : Addr
  g_NoDraft : mg "NoDraft" = some (.ref c_NoDraft)
  c_TooMany : Addr
  g_TooMany : mg "TooMany" = some (.ref c_TooMany)
  c_TooLong : Addr
  g_TooLong : mg "TooLong" = some (.ref c_TooLong)
  c_NoCount : Addr
  g_NoCount : mg "NoCount" = some (.ref c_NoCount)
  c_NoLine : Addr
  g_NoLine : mg "NoLine" = some (.ref c_NoLine)
  c_NoText : Addr
  g_NoText : mg "NoText" = some (.ref c_NoText)
  c_NoCopy : Addr
  g_NoCopy : mg "NoCopy" = some (.ref c_NoCopy)
  c_NoSlip : Addr
  g_NoSlip : mg "NoSlip" = some (.ref c_NoSlip)
  c_Twice : Addr
  g_Twice : mg "Twice" = some (.ref c_Twice)
  c_NoNumber : Addr
  g_NoNumber : mg "NoNumber" = some (.ref c_NoNumber)
  c_NoThing : Addr
  g_NoThing : mg "NoThing" = some (.ref c_NoThing)
  c_Gone : Addr
  g_Gone : mg "Gone" = some (.ref c_Gone)
  c_NoAnswer : Addr
  g_NoAnswer : mg "NoAnswer" = some (.ref c_NoAnswer)
  c_NoDay : Addr
  g_NoDay : mg "NoDay" = some (.ref c_NoDay)
  c_NothingLeft : Addr
  g_NothingLeft : mg "NothingLeft" = some (.ref c_NothingLeft)
  c_NoRow : Addr
  g_NoRow : mg "NoRow" = some (.ref c_NoRow)
  c_Lacks : Addr
  g_Lacks : mg "Lacks" = some (.ref c_Lacks)
  ec : excTab K c_FairError [c_NoOffice, c_NoDays, c_NoDesk, c_NoHouse, c_NoBody, c_NoName, c_NoLetter, c_NotNow, c_NoDraft, c_TooMany, c_TooLong, c_NoCount, c_NoLine, c_NoText, c_NoCopy, c_NoSlip, c_Twice, c_NoNumber, c_NoThing, c_Gone, c_NoAnswer, c_NoDay, c_NothingLeft, c_NoRow, c_Lacks] = true
  er_NoText : excRaise K c_NoText = true
def csT {K : PySem.W.Frag} {mg : Str → Option Value} (T : Tx K mg) : List Addr := [T.c_NoOffice, T.c_NoDays, T.c_NoDesk, T.c_NoHouse, T.c_NoBody, T.c_NoName, T.c_NoLetter, T.c_NotNow, T.c_NoDraft, T.c_TooMany, T.c_TooLong, T.c_NoCount, T.c_NoLine, T.c_NoText, T.c_NoCopy, T.c_NoSlip, T.c_Twice, T.c_NoNumber, T.c_NoThing, T.c_Gone, T.c_NoAnswer, T.c_NoDay, T.c_NothingLeft, T.c_NoRow, T.c_Lacks]
def cmT {K : PySem.W.Frag} {mg : Str → Option Value} (T : Tx K mg) : Nat → Addr := fun n => (csT T).getD n 0
theorem cmT_mem {K : PySem.W.Frag} {mg : Str → Option Value} (T : Tx K mg) {k : Nat} (h : k < 25) : cmT T k ∈ csT T := by
  unfold cmT
  rw [List.getD_eq_getElem?_getD, List.getElem?_eq_getElem (show k < (csT T).length from h)]
  exact List.getElem_mem _
theorem cmT_inj {K : PySem.W.Frag} {mg : Str → Option Value} (T : Tx K mg) {k j : Nat} (h : k < 25) (h2 : j < 25) : decide (cmT T k = cmT T j) = decide (k = j) := by
  have nd := excTab_nd T.ec
  have e : ∀ i, (hi : i < (csT T).length) → cmT T i = (csT T)[i] := fun i hi => by
    unfold cmT
    rw [List.getD_eq_getElem?_getD, List.getElem?_eq_getElem hi]; rfl
  rw [e k h, e j h2]
  refine decide_eq_decide.mpr ⟨fun z => (List.getElem_inj nd).mp z, fun z => by subst z; rfl⟩
theorem cmx_all {K : PySem.W.Frag} {mg : Str → Option Value} (T : Tx K mg) : ∀ k, k < 25 → PySem.W.exmOne K (.ref (cmT T k)) (.ref T.c_FairError) = some true := fun k h => (excTab_at T.ec (cmT_mem T h)).1.m
theorem cmx_val {K : PySem.W.Frag} {mg : Str → Option Value} (T : Tx K mg) : ∀ k, k < 25 → ExcC K (cmT T k) ∧ PySem.W.kitOne K (.ref (cmT T k)) (.type "ValueError") = some true := fun k h => ⟨(excTab_at T.ec (cmT_mem T h)).1.c, (excTab_at T.ec (cmT_mem T h)).1.v⟩
theorem cmx_kit {K : PySem.W.Frag} {mg : Str → Option Value} (T : Tx K mg) (j : Nat) (hj : j < 25) : ∀ k, k < 25 → ExcC K (cmT T k) ∧ PySem.W.kitOne K (.ref (cmT T k)) (.ref (cmT T j)) = some (decide (k = j)) := fun k h => ⟨(excTab_at T.ec (cmT_mem T h)).1.c, by rw [← cmT_inj T h hj]; exact (excTab_at T.ec (cmT_mem T h)).2 _ (cmT_mem T hj)⟩
section
variable {P : Program} {w : World} {K : PySem.W.Frag} {mg : Str → Option Value} {base : Heap}
theorem ok_law_draw (T : Tx K mg) : FnOk P w K mg base CX0 1 T.f_law_draw T.fd_law_draw ps_law_draw (spT K ds_law_draw) := by
  refine T.d_law_draw.ok (k := 0) sc_law_draw (fun vs H Q E h => spT_len len_law_draw h) (fun cdv A outer s H vs Q E hr h => ?_)
  have lc : ∀ {X : Cx} {x : Str}, X.env.scope.names.lookup x = some .local → L2.Loc X.env.scope x := fun h => .inl h
  refine ⟨_, pss_cons (ps_set (i := 2) sc_law_draw.nd rfl (.inl rfl) pe_int)
    (Evl.pss_cut (ps_if (pt_cmpR op_lt (pe_ix ix_list (pv 0) pe_int (fun _ _ => rfl)) (pv 1) (nomark _))
      (pss_cons (ps_set (i := 3) sc_law_draw.nd rfl (.inl rfl) pe_int)
      (Evl.pss_cut (ps_if (pt_cmpR op_gt (pe_callB call_len (by rfl) T.b_len (by decide +kernel) (pa_cons (pe_ix ix_list (pv 0) pe_int (fun _ _ => rfl)) pa_nil)) pe_int (nomark _))
        (pss_one (ps_set (i := 3) sc_law_draw.nd rfl (.inl rfl) (pe_ix ix_list (pe_ix ix_list (pv 0) pe_int (fun _ _ => rfl)) (pe_op op_mod (pe_ix ix_list (pv 0) pe_int (fun _ _ => rfl)) (pe_callB call_len (by rfl) T.b_len (by decide +kernel) (pa_cons (pe_ix ix_list (pv 0) pe_int (fun _ _ => rfl)) pa_nil))) (fun _ _ => rfl)))) pss_nil)
      (Evl.pss_cut (ps_if (PW.pt (pw_or (pt_cmpR op_ge (pe_ix ix_list (pv 0) pe_int (fun _ _ => rfl)) (pe_callB call_len (by rfl) T.b_len (by decide +kernel) (pa_cons (pe_ix ix_list (pv 0) pe_int (fun _ _ => rfl)) pa_nil)) (nomark _)) (pw_or1 (pt_cmpR op_lt (pv 3) (pe_op op_pow pe_int pe_int) (nomark _)))))
        (pss_cons (ps_set (i := 3) sc_law_draw.nd rfl (.inl rfl) (pe_op op_mod (pe_op op_add (pv 3) (pe_op op_mul pe_int (pe_ix ix_list (pv 0) pe_int (fun _ _ => rfl)))) (pv 2)))
        (pss_cons (ps_set (i := 3) sc_law_draw.nd rfl (.inl rfl) (pe_op op_mod (pe_op op_add (pe_op op_add (pe_op op_mul (pv 3) (pv 3)) (pe_op op_mul pe_int (pv 3))) pe_int) (pv 2)))
        (pss_one (ps_set (i := 3) sc_law_draw.nd rfl (.inl rfl) (pe_op op_mod (pe_op op_add (pe_op op_mul (pv 3) (pv 3)) pe_int) (pv 2)))))) pss_nil)
      (pss_cons (ps_asg (pe_op op_add (pe_ix ix_list (pv 0) pe_int (fun _ _ => rfl)) pe_int) (pg_sub (pv 0) pe_int set_list))
      (pss_one (ps_asg (pv 3) (pg_sub (pv 0) pe_int set_list))))))) pss_nil)
    (pss_cons (ps_set (i := 4) sc_law_draw.nd rfl (.inl rfl) (pe_op op_mod (pe_ix ix_list (pv 0) pe_int (fun _ _ => rfl)) (pv 1)))
    (pss_cons (ps_asg (pe_op op_fdivW (pe_ix ix_list (pv 0) pe_int (fun _ _ => rfl)) (pv 1)) (pg_sub (pv 0) pe_int set_list))
    (pss_one (ps_ret (pv 4)))))), ?_⟩
  obtain ⟨t, l, ns, G, us, ds, rfl, ex, gt, gl, T0, r, Qd, ⟨n, rfl, n0, n1, hq⟩, q⟩ := h
  obtain ⟨ne, hl, i0, j0, hi0, hj0, ht⟩ := T0
  cases r with
  | cons r1 r2 =>
  cases r1; cases r2
  -- behind the first if: the tape with a rest that is not negative
  refine ⟨fun σ' H' => ∃ (y : Option V) (i j : Int), σ' = [some (.ref t), some (.int n), some (.int 2305843009213693951), y, none] ∧ 0 ≤ i ∧ 0 ≤ j ∧ H' = upd H t (.lst [.ref l, .int i, .int j]), ?_, ?_⟩
  · refine ⟨.ref t, rfl, t, _, 2, .int j0, rfl, rfl, SqL.of ht, rfl, .int n, rfl, j0, n, rfl, rfl, _, rfl, ite2 (fun _ => ?_) (fun _ => ?_)⟩
    · -- a new cell
      refine ⟨fun σ' H' => ∃ y : Int, σ' = [some (.ref t), some (.int n), some (.int 2305843009213693951), some (.int y), none] ∧ H' = H, ?_, ?_⟩
      · refine ⟨.ref t, rfl, t, _, 0, .ref l, rfl, rfl, SqL.of ht, rfl, .ref l, ns.length, rfl, .inl ⟨_, SqL.of hl, by rw [List.length_map]⟩, (ns.length : Int), 0, rfl, rfl, _, rfl, ite2 (fun hp => ?_) (fun _ => ?_)⟩
        · have hp' : (0 : Int) < (ns.length : Int) := of_decide_eq_true hp
          have hm := draw_mod (x := i0) hp'
          obtain ⟨z, hz⟩ : ∃ z, ns[(i0 % (ns.length : Int)).toNat]? = some z := by
            have hlt : (i0 % (ns.length : Int)).toNat < ns.length := by omega
            exact ⟨_, List.getElem?_eq_getElem hlt⟩
          refine ⟨.ref t, rfl, t, _, 0, .ref l, rfl, rfl, SqL.of ht, rfl, .ref t, rfl, t, _, 1, .int i0, rfl, rfl, SqL.of ht, rfl, .ref t, rfl, t, _, 0, .ref l, rfl, rfl, SqL.of ht, rfl, .ref l, ns.length, rfl, .inl ⟨_, SqL.of hl, by rw [List.length_map]⟩, i0, (ns.length : Int), rfl, rfl, hp', l, ns.map V.int, i0 % (ns.length : Int), .int z, rfl, rfl, SqL.of hl, ?_, z, rfl, rfl⟩
          have e : i0 % (ns.length : Int) = (((i0 % (ns.length : Int)).toNat : Nat) : Int) := by omega
          rw [e]
          exact atI_nat (by rw [List.getElem?_map, hz]; rfl)
        · exact ⟨0, rfl, rfl⟩
      · rintro σ' H' ⟨y, rfl, eH⟩; have eH2 := eH.symm; subst eH2
        refine ⟨fun σ' H' => ∃ y : Int, 0 ≤ y ∧ σ' = [some (.ref t), some (.int n), some (.int 2305843009213693951), some (.int y), none] ∧ H' = H, ?_, ?_⟩
        · have turn : ∀ D' : Ends, D'.nx = (fun σ' H' => ∃ y : Int, 0 ≤ y ∧ σ' = [some (.ref t), some (.int n), some (.int 2305843009213693951), some (.int y), none] ∧ H' = H) → (tSeq (tAsg (tOp (rI (fun _ j => 0 < j) fun i j => V.int (i % j)) (tOp (rI0 fun i j => V.int (i + j)) (tVar 3) (tOp (rI CMul fun i j => V.int (i * j)) (tC (V.int 1000003)) (tOp (rIxL K) (tVar 0) (tC (V.int 1))))) (tVar 2)) (gName 3)) (tSeq (tAsg (tOp (rI (fun _ j => 0 < j) fun i j => V.int (i % j)) (tOp (rI0 fun i j => V.int (i + j)) (tOp (rI0 fun i j => V.int (i + j)) (tOp (rI CMul fun i j => V.int (i * j)) (tVar 3) (tVar 3)) (tOp (rI CMul fun i j => V.int (i * j)) (tC (V.int 1181783497276652981)) (tVar 3))) (tC (V.int 2049848353892358983))) (tVar 2)) (gName 3)) (tAsg (tOp (rI (fun _ j => 0 < j) fun i j => V.int (i % j)) (tOp (rI0 fun i j => V.int (i + j)) (tOp (rI CMul fun i j => V.int (i * j)) (tVar 3) (tVar 3)) (tC (V.int 1442695040888963407))) (tVar 2)) (gName 3)))) D' [some (.ref t), some (.int n), some (.int 2305843009213693951), some (.int y), none] H := fun D' hD => by
            have p0 : (0 : Int) < 2305843009213693951 := by decide
            have m1 := draw_mod (x := y + 1000003 * i0) p0
            refine ⟨.int y, rfl, .ref t, rfl, t, _, 1, .int i0, rfl, rfl, SqL.of ht, rfl, 1000003, i0, rfl, rfl, .inl ⟨by decide, by decide⟩, y, _, rfl, rfl, _, rfl, _, _, rfl, rfl, p0, ?_⟩
            obtain ⟨y1, e1⟩ : ∃ y1, (y + 1000003 * i0) % 2305843009213693951 = y1 := ⟨_, rfl⟩
            rw [e1] at m1
            have c1 := congrArg V.int e1
            have m2 := draw_mod (x := y1 * y1 + 1181783497276652981 * y1 + 2049848353892358983) p0
            refine ⟨_, rfl, _, rfl, y1, y1, c1, c1, mulP m1.1 m1.2, _, rfl, 1181783497276652981, y1, rfl, c1, .inl ⟨by decide, by decide⟩, _, _, rfl, rfl, _, _, rfl, rfl, _, rfl, _, _, rfl, rfl, p0, ?_⟩
            obtain ⟨y2, e2⟩ : ∃ y2, (y1 * y1 + 1181783497276652981 * y1 + 2049848353892358983) % 2305843009213693951 = y2 := ⟨_, rfl⟩
            rw [e2] at m2
            have c2 := congrArg V.int e2
            have m3 := draw_mod (x := y2 * y2 + 1442695040888963407) p0
            refine ⟨_, rfl, _, rfl, y2, y2, c2, c2, mulP m2.1 m2.2, _, _, rfl, rfl, _, rfl, _, _, rfl, rfl, p0, ?_⟩
            rw [hD]
            exact ⟨_, m3.1, rfl, rfl⟩
          refine ⟨.ref t, rfl, t, _, 1, .int i0, rfl, rfl, SqL.of ht, rfl, .ref t, rfl, t, _, 0, .ref l, rfl, rfl, SqL.of ht, rfl, .ref l, ns.length, rfl, .inl ⟨_, SqL.of hl, by rw [List.length_map]⟩, i0, (ns.length : Int), rfl, rfl, _, rfl, ite2 (fun _ => ?_) (fun _ => ?_)⟩
          · exact iteT (turn _ rfl)
          · refine ⟨.int y, rfl, 10, 18, rfl, rfl, ⟨by decide, by decide, by decide⟩, y, _, rfl, rfl, _, rfl, ite2 (fun _ => turn _ rfl) (fun hy => ?_)⟩
            have hy' : ¬ y < (10 : Int) ^ (18 : Int).toNat := fun z => hy (decide_eq_true z)
            have e18 : (10 : Int) ^ (18 : Int).toNat = 1000000000000000000 := by decide
            rw [e18] at hy'
            exact ⟨y, by omega, rfl, rfl⟩
        · rintro σ' H' ⟨y, hy, rfl, eH⟩; have eH2 := eH.symm; subst eH2
          refine ⟨.ref t, rfl, t, _, 1, .int i0, rfl, rfl, SqL.of ht, rfl, i0, 1, rfl, rfl, .ref t, rfl, t, _, 1, 1, rfl, rfl, ht, rfl, ?_⟩
          refine ⟨.int y, rfl, .ref t, rfl, t, _, 2, 2, rfl, rfl, upd_same, rfl, ?_⟩
          exact ⟨_, i0 + 1, y, rfl, by omega, hy, upd_upd⟩
    · refine ⟨_, i0, j0, rfl, hi0, hj0, ?_⟩
      funext b
      by_cases hb : b = t
      · subst hb; rw [upd_same]; exact ht
      · rw [upd_ne hb]
  · rintro σ' H' ⟨y, i, j, rfl, hi, hj, rfl⟩
    have ht' : upd H t (.lst [.ref l, .int i, .int j]) t = some (.lst [.ref l, .int i, .int j]) := upd_same
    have m := draw_mod (x := j) n0
    have dv := draw_div hj n0
    refine ⟨.ref t, rfl, t, _, 2, .int j, rfl, rfl, SqL.of ht', rfl, .int n, rfl, j, n, rfl, rfl, n0, ?_⟩
    refine ⟨.ref t, rfl, t, _, 2, .int j, rfl, rfl, SqL.of ht', rfl, .int n, rfl, j, n, rfl, rfl, wide200 n0 n1, .ref t, rfl, t, _, 2, 2, rfl, rfl, ht', rfl, .int (j % n), rfl, ?_⟩
    refine q _ (.int (j % n)) G _ ⟨Ex.refl _, fun b o e => ?_, fun b o hb e => ?_, fun b hb _ => hb, ne, ?_, i, j / n, hi, dv, ?_⟩ (.int _) (hq _ m.1 m.2)
    · rw [upd_upd, upd_ne (ne_of_none e gt)]; exact ex b o e
    · rw [upd_upd, upd_ne hb]; exact e
    · rw [upd_upd, upd_ne ne.symm]; exact hl
    · exact upd_same
theorem ok_is_number (T : Tx K mg) : FnOk P w K mg base CX0 1 T.f_is_number T.fd_is_number ps_is_number (spP K ds_is_number) := by
  refine T.d_is_number.ok (k := 0) sc_is_number (fun vs H Q E h => spP_len len_is_number h) (fun cdv A outer s H vs Q E hr h => ?_)
  refine ⟨_, (pss_one (ps_ret (pe_and (pe_callB (kIsi K) (by rfl) T.b_isinstance (by decide +kernel) (pa_cons (pv 0) (pa_cons (pe_bltn (v := .ty "int") (by rfl) T.b_int (by decide +kernel) rfl) pa_nil))) (pe_one (pe_not (pe_callB (kIsi K) (by rfl) T.b_isinstance (by decide +kernel) (pa_cons (pv 0) (pa_cons (pe_bltn (v := .ty "bool") (by rfl) T.b_bool (by decide +kernel) rfl) pa_nil)))))))), ?_⟩
  exact body_pure (N := N_is_number) (a := a_is_number) (fun c => (as_ret (ae_andV (ae_isi (T := "int") (ae_var 0)) (ae_notV (ae_isi (T := "bool") (ae_var 0)))))) vc_is_number h
theorem ok_is_line (T : Tx K mg) : FnOk P w K mg base CX0 1 T.f_is_line T.fd_is_line ps_is_line (spP K ds_is_line) := by
  refine T.d_is_line.ok (k := 0) sc_is_line (fun vs H Q E h => spP_len len_is_line h) (fun cdv A outer s H vs Q E hr h => ?_)
  refine ⟨_, (pss_cons (ps_if (PW.pt (pw_or (pt_not (pt_val (pe_callB (kIsi K) (by rfl) T.b_isinstance (by decide +kernel) (pa_cons (pv 0) (pa_cons (pe_bltn (v := .ty "str") (by rfl) T.b_str (by decide +kernel) rfl) pa_nil))))) (pw_or (pt_cmpR op_lt (pe_callB (kLen K) (by rfl) T.b_len (by decide +kernel) (pa_cons (pv 0) pa_nil)) pe_int (nomark _)) (pw_or1 (pt_cmpR op_gt (pe_callB (kLen K) (by rfl) T.b_len (by decide +kernel) (pa_cons (pv 0) pa_nil)) (pe_glob (v := .int 30) rfl T.g_MOST_SIGNS.choose_spec.1 T.g_MOST_SIGNS.choose_spec.2) (nomark _))))))
      (pss_one (ps_ret pe_bl))
      pss_nil)
      (pss_cons (ps_if (PW.pt (pw_or (pt_cmpR (kEq K hr.units) (pe_ix (kIx K) (pv 0) pe_int (fun _ _ => rfl)) pe_str (nomark _)) (pw_or1 (pt_cmpR (kEq K hr.units) (pe_ix (kIx K) (pv 0) (pe_un un_neg pe_int) (fun _ _ => rfl)) pe_str (nomark _)))))
      (pss_one (ps_ret pe_bl))
      pss_nil)
      (pss_one (ps_ret (pe_callB (kAll K) (by rfl) T.b_all (by decide +kernel) (pa_cons (pe_lc (own := [("sign", 1)]) (g := (gName 1)) rfl sc_is_line.nd (pi_str (pv 0)) (blkOk_by (own := [("sign", 1)]) (N := N_is_line) (sc := defScope s_is_line) (by decide +kernel)) (fun _ _ _ _ _ => (pg_name (i := 1) sc_is_line.nd rfl (by first | exact Or.inl rfl | exact Or.inr rfl))) (fun _ _ _ _ _ => pts_nil) (fun _ _ _ _ _ => (pe_or (pe_cmpR op_in_sign (pv 1) (pe_glob (v := .str (Str.ofString "abcdefghijklmnopqrstuvwxyz")) rfl T.g_SMALL.choose_spec.1 T.g_SMALL.choose_spec.2) rfl) (pe_one (pe_cmpR (kEq K hr.units) (pv 1) pe_str (nomark _)))))) pa_nil)))))), ?_⟩
  exact body_pure (N := N_is_line) (a := a_is_line) (fun c => (as_seq (as_if (at_or (at_not (at_B (ae_isi (T := "str") (ae_var 0)))) (at_or (at_test (ae_op ar_I0b (ae_cb ac_len (aa_cons (ae_var 0) aa_nil)) (ae_int 1))) (at_test (ae_op ar_I0b (ae_cb ac_len (aa_cons (ae_var 0) aa_nil)) (ae_int 30)))))
      (as_ret (ae_bl false))
      as_next)
      (as_seq (as_if (at_or (at_test (ae_op ar_eq (ae_op ar_ix (ae_var 0) (ae_int 0)) (ae_str (Str.ofString " ")))) (at_test (ae_op ar_eq (ae_op ar_ix (ae_var 0) (ae_un ar_neg (ae_int 1))) (ae_str (Str.ofString " ")))))
      (as_ret (ae_bl false))
      as_next)
      (as_ret (ae_cb ac_all (aa_cons (ae_lc (vs := [1]) (ai_str (ae_var 0)) (ag_name 1) (go_name (by decide)) at_yes (ae_orV (ae_op ar_inS (ae_var 1) (ae_str (Str.ofString "abcdefghijklmnopqrstuvwxyz"))) (ae_op ar_eq (ae_var 1) (ae_str (Str.ofString " "))))) aa_nil)))))) vc_is_line h
theorem ok_is_body (T : Tx K mg) : FnOk P w K mg base CX0 2 T.f_is_body T.fd_is_body ps_is_body (spP K ds_is_body) := by
  refine T.d_is_body.ok (k := 1) sc_is_body (fun vs H Q E h => spP_len len_is_body h) (fun cdv A outer s H vs Q E hr h => ?_)
  refine ⟨_, (pss_cons (ps_if (PW.pt (pw_or (pt_not (pt_val (pe_callB (kIsi K) (by rfl) T.b_isinstance (by decide +kernel) (pa_cons (pv 0) (pa_cons (pe_bltn (v := .ty "tuple") (by rfl) T.b_tuple (by decide +kernel) rfl) pa_nil))))) (pw_or1 (pt_cmpR op_gt (pe_callB (kLen K) (by rfl) T.b_len (by decide +kernel) (pa_cons (pv 0) pa_nil)) (pe_glob (v := .int 60) rfl T.g_MOST_LINES.choose_spec.1 T.g_MOST_LINES.choose_spec.2) (nomark _)))))
      (pss_one (ps_ret pe_bl))
      pss_nil)
      (pss_one (ps_ret (pe_callB (kAll K) (by rfl) T.b_all (by decide +kernel) (pa_cons (pe_lc (own := [("line", 1)]) (g := (gName 1)) rfl sc_is_body.nd (pi_tup (pv 0)) (blkOk_by (own := [("line", 1)]) (N := N_is_body) (sc := defScope s_is_body) (by decide +kernel)) (fun _ _ _ _ _ => (pg_name (i := 1) sc_is_body.nd rfl (by first | exact Or.inl rfl | exact Or.inr rfl))) (fun _ _ _ _ _ => pts_nil) (fun _ _ _ _ _ => (pe_call (ok_is_line T) (hr.mono (by decide)) (by rfl) T.d_is_line.m T.d_is_line.kp T.d_is_line.b .nil pass0 (pa_cons (pv 1) pa_nil)))) pa_nil))))), ?_⟩
  exact body_pure (N := N_is_body) (a := a_is_body) (fun c => (as_seq (as_if (at_or (at_not (at_B (ae_isi (T := "tuple") (ae_var 0)))) (at_test (ae_op ar_I0b (ae_cb ac_len (aa_cons (ae_var 0) aa_nil)) (ae_int 60))))
      (as_ret (ae_bl false))
      as_next)
      (as_ret (ae_cb ac_all (aa_cons (ae_lc (vs := [1]) (ai_tup (ae_var 0)) (ag_name 1) (go_name (by decide)) at_yes (ae_callP0 (aa_cons (ae_var 1) aa_nil))) aa_nil))))) vc_is_body h
theorem ok_place_of (T : Tx K mg) : FnOk P w K mg base CX0 1 T.f_place_of T.fd_place_of ps_place_of (spP K ds_place_of) := by
  refine T.d_place_of.ok (k := 0) sc_place_of (fun vs H Q E h => spP_len len_place_of h) (fun cdv A outer s H vs Q E hr h => ?_)
  refine ⟨_, (pss_one (ps_ret (pe_tup (pa_cons (pe_ix (kIx K) (pv 0) pe_int (fun _ _ => rfl)) (pa_cons (pe_callTy call_int1 (by rfl) T.b_int (by decide +kernel) (pa_cons (pe_cmpR (kNe K hr.units) (pe_ix (kIx K) (pv 0) pe_int (fun _ _ => rfl)) pe_str (nomark _)) pa_nil)) pa_nil))))), ?_⟩
  exact body_pure (N := N_place_of) (a := a_place_of) (fun c => (as_ret (ae_tup (aa_cons (ae_op ar_ix (ae_var 0) (ae_int 1)) (aa_cons (ae_cb ac_int (aa_cons (ae_op ar_ne (ae_op ar_ix (ae_var 0) (ae_int 0)) (ae_str (Str.ofString "put"))) aa_nil)) aa_nil))))) vc_place_of h
theorem ok_is_edit (T : Tx K mg) : FnOk P w K mg base CX0 3 T.f_is_edit T.fd_is_edit ps_is_edit (spP K ds_is_edit) := by
  refine T.d_is_edit.ok (k := 2) sc_is_edit (fun vs H Q E h => spP_len len_is_edit h) (fun cdv A outer s H vs Q E hr h => ?_)
  refine ⟨_, (pss_cons (ps_if (PW.pt (pw_or (pt_not (pt_val (pe_callB (kIsi K) (by rfl) T.b_isinstance (by decide +kernel) (pa_cons (pv 0) (pa_cons (pe_bltn (v := .ty "tuple") (by rfl) T.b_tuple (by decide +kernel) rfl) pa_nil))))) (pw_or (pt_cmpR op_lt (pe_callB (kLen K) (by rfl) T.b_len (by decide +kernel) (pa_cons (pv 0) pa_nil)) pe_int (nomark _)) (pw_or (pt_not (pt_val (pe_callB (kIsi K) (by rfl) T.b_isinstance (by decide +kernel) (pa_cons (pe_ix (kIx K) (pv 0) pe_int (fun _ _ => rfl)) (pa_cons (pe_bltn (v := .ty "str") (by rfl) T.b_str (by decide +kernel) rfl) pa_nil))))) (pw_or1 (pt_not (pt_val (pe_call (ok_is_number T) (hr.mono (by decide)) (by rfl) T.d_is_number.m T.d_is_number.kp T.d_is_number.b .nil pass0 (pa_cons (pe_ix (kIx K) (pv 0) pe_int (fun _ _ => rfl)) pa_nil)))))))))
      (pss_one (ps_ret pe_bl))
      pss_nil)
      (pss_cons (ps_asg (pe_slice (kSl K) (pv 0) po_none (po_some pe_int)) (pg_tup rfl (pgs_cons (pg_name (i := 2) sc_is_edit.nd rfl (by first | exact Or.inl rfl | exact Or.inr rfl)) (pgs_cons (pg_name (i := 3) sc_is_edit.nd rfl (by first | exact Or.inl rfl | exact Or.inr rfl)) pgs_nil))))
      (pss_cons (ps_if (pt_cmpR (kEq K hr.units) (pv 2) pe_str (nomark _))
      (pss_one (ps_ret (pe_and (pe_cmpR (kEq K hr.units) (pe_callB (kLen K) (by rfl) T.b_len (by decide +kernel) (pa_cons (pv 0) pa_nil)) pe_int (nomark _)) (pe_and (pe_cmpR op_le pe_int (pv 3) (nomark _)) (pe_one (pe_cmpR op_lt (pv 3) (pv 1) (nomark _)))))))
      pss_nil)
      (pss_cons (ps_if (PW.pt (pw_or (pt_cmpR (kNe K hr.units) (pe_callB (kLen K) (by rfl) T.b_len (by decide +kernel) (pa_cons (pv 0) pa_nil)) pe_int (nomark _)) (pw_or1 (pt_cmpR op_lt (pv 3) pe_int (nomark _)))))
      (pss_one (ps_ret pe_bl))
      pss_nil)
      (pss_cons (ps_if (pt_cmpR (kEq K hr.units) (pv 2) pe_str (nomark _))
      (pss_one (ps_ret (pe_and (pe_cmpR op_lt (pv 3) (pv 1) (nomark _)) (pe_one (pe_call (ok_is_line T) (hr.mono (by decide)) (by rfl) T.d_is_line.m T.d_is_line.kp T.d_is_line.b .nil pass0 (pa_cons (pe_ix (kIx K) (pv 0) pe_int (fun _ _ => rfl)) pa_nil))))))
      pss_nil)
      (pss_one (ps_ret (pe_and (pe_cmpR (kEq K hr.units) (pv 2) pe_str (nomark _)) (pe_and (pe_cmpR op_le (pv 3) (pv 1) (nomark _)) (pe_and (pe_call (ok_is_body T) (hr.mono (by decide)) (by rfl) T.d_is_body.m T.d_is_body.kp T.d_is_body.b .nil pass0 (pa_cons (pe_ix (kIx K) (pv 0) pe_int (fun _ _ => rfl)) pa_nil)) (pe_and (pe_cmpR op_le pe_int (pe_callB (kLen K) (by rfl) T.b_len (by decide +kernel) (pa_cons (pe_ix (kIx K) (pv 0) pe_int (fun _ _ => rfl)) pa_nil)) (nomark _)) (pe_one (pe_cmpR op_le (pe_callB (kLen K) (by rfl) T.b_len (by decide +kernel) (pa_cons (pe_ix (kIx K) (pv 0) pe_int (fun _ _ => rfl)) pa_nil)) (pe_glob (v := .int 5) rfl T.g_MOST_PUT.choose_spec.1 T.g_MOST_PUT.choose_spec.2) (nomark _)))))))))))))), ?_⟩
  exact body_pure (N := N_is_edit) (a := a_is_edit) (fun c => (as_seq (as_if (at_or (at_not (at_B (ae_isi (T := "tuple") (ae_var 0)))) (at_or (at_test (ae_op ar_I0b (ae_cb ac_len (aa_cons (ae_var 0) aa_nil)) (ae_int 2))) (at_or (at_not (at_B (ae_isi (T := "str") (ae_op ar_ix (ae_var 0) (ae_int 0))))) (at_not (at_B (ae_callP0 (aa_cons (ae_op ar_ix (ae_var 0) (ae_int 1)) aa_nil)))))))
      (as_ret (ae_bl false))
      as_next)
      (as_seq (as_asg (ae_sl (ae_var 0) ao_no (ao_some (ae_int 2))) (ag_tup (ags_cons (ag_name 2) (ags_cons (ag_name 3) ags_nil))))
      (as_seq (as_if (at_test (ae_op ar_eq (ae_var 2) (ae_str (Str.ofString "drop"))))
      (as_ret (ae_andV (ae_op ar_eq (ae_cb ac_len (aa_cons (ae_var 0) aa_nil)) (ae_int 2)) (ae_andV (ae_op ar_I0b (ae_int 0) (ae_var 3)) (ae_op ar_I0b (ae_var 3) (ae_var 1)))))
      as_next)
      (as_seq (as_if (at_or (at_test (ae_op ar_ne (ae_cb ac_len (aa_cons (ae_var 0) aa_nil)) (ae_int 3))) (at_test (ae_op ar_I0b (ae_var 3) (ae_int 0))))
      (as_ret (ae_bl false))
      as_next)
      (as_seq (as_if (at_test (ae_op ar_eq (ae_var 2) (ae_str (Str.ofString "turn"))))
      (as_ret (ae_andV (ae_op ar_I0b (ae_var 3) (ae_var 1)) (ae_callP0 (aa_cons (ae_op ar_ix (ae_var 0) (ae_int 2)) aa_nil))))
      as_next)
      (as_ret (ae_andV (ae_op ar_eq (ae_var 2) (ae_str (Str.ofString "put"))) (ae_andV (ae_op ar_I0b (ae_var 3) (ae_var 1)) (ae_andV (ae_callP0 (aa_cons (ae_op ar_ix (ae_var 0) (ae_int 2)) aa_nil)) (ae_andV (ae_op ar_I0b (ae_int 1) (ae_cb ac_len (aa_cons (ae_op ar_ix (ae_var 0) (ae_int 2)) aa_nil))) (ae_op ar_I0b (ae_cb ac_len (aa_cons (ae_op ar_ix (ae_var 0) (ae_int 2)) aa_nil)) (ae_int 5))))))))))))) vc_is_edit h
theorem ok_is_draft (T : Tx K mg) : FnOk P w K mg base CX0 4 T.f_is_draft T.fd_is_draft ps_is_draft (spP K ds_is_draft) := by
  refine T.d_is_draft.ok (k := 3) sc_is_draft (fun vs H Q E h => spP_len len_is_draft h) (fun cdv A outer s H vs Q E hr h => ?_)
  refine ⟨_, (pss_cons (ps_if (PW.pt (pw_or (pt_not (pt_val (pe_callB (kIsi K) (by rfl) T.b_isinstance (by decide +kernel) (pa_cons (pv 1) (pa_cons (pe_bltn (v := .ty "tuple") (by rfl) T.b_tuple (by decide +kernel) rfl) pa_nil))))) (pw_or1 (pt_cmpR op_gt (pe_callB (kLen K) (by rfl) T.b_len (by decide +kernel) (pa_cons (pv 1) pa_nil)) (pe_glob (v := .int 20) rfl T.g_MOST_EDITS.choose_spec.1 T.g_MOST_EDITS.choose_spec.2) (nomark _)))))
      (pss_one (ps_ret pe_bl))
      pss_nil)
      (pss_cons (ps_if (pt_not (pt_val (pe_callB (kAll K) (by rfl) T.b_all (by decide +kernel) (pa_cons (pe_lc (own := [("edit", 2)]) (g := (gName 2)) rfl sc_is_draft.nd (pi_tup (pv 1)) (blkOk_by (own := [("edit", 2)]) (N := N_is_draft) (sc := defScope s_is_draft) (by decide +kernel)) (fun _ _ _ _ _ => (pg_name (i := 2) sc_is_draft.nd rfl (by first | exact Or.inl rfl | exact Or.inr rfl))) (fun _ _ _ _ _ => pts_nil) (fun _ _ _ _ _ => (pe_call (ok_is_edit T) (hr.mono (by decide)) (by rfl) T.d_is_edit.m T.d_is_edit.kp T.d_is_edit.b .nil pass0 (pa_cons (pv 2) (pa_cons (pe_callB (kLen K) (by rfl) T.b_len (by decide +kernel) (pa_cons (pv 0) pa_nil)) pa_nil))))) pa_nil))))
      (pss_one (ps_ret pe_bl))
      pss_nil)
      (pss_cons (ps_set (i := 3) sc_is_draft.nd rfl (by first | exact Or.inl rfl | exact Or.inr rfl) (pe_lc (own := [("edit", 2)]) (g := (gName 2)) rfl sc_is_draft.nd (pi_tup (pv 1)) (blkOk_by (own := [("edit", 2)]) (N := N_is_draft) (sc := defScope s_is_draft) (by decide +kernel)) (fun _ _ _ _ _ => (pg_name (i := 2) sc_is_draft.nd rfl (by first | exact Or.inl rfl | exact Or.inr rfl))) (fun _ _ _ _ _ => pts_nil) (fun _ _ _ _ _ => (pe_call (ok_place_of T) (hr.mono (by decide)) (by rfl) T.d_place_of.m T.d_place_of.kp T.d_place_of.b .nil pass0 (pa_cons (pv 2) pa_nil)))))
      (pss_one (ps_ret (pe_callB (kAll K) (by rfl) T.b_all (by decide +kernel) (pa_cons (pe_lc (own := [("k", 4)]) (g := (gName 4)) rfl sc_is_draft.nd (pi_range2 (by rfl) T.b_range (pa_cons pe_int (pa_cons (pe_callB (kLen K) (by rfl) T.b_len (by decide +kernel) (pa_cons (pv 3) pa_nil)) pa_nil))) (blkOk_by (own := [("k", 4)]) (N := N_is_draft) (sc := defScope s_is_draft) (by decide +kernel)) (fun _ _ _ _ _ => (pg_name (i := 4) sc_is_draft.nd rfl (by first | exact Or.inl rfl | exact Or.inr rfl))) (fun _ _ _ _ _ => pts_nil) (fun _ _ _ _ _ => (pe_cmpR (kLtT K hr.units) (pe_ix (kIx K) (pv 3) (pe_op op_sub (pv 4) pe_int) (fun _ _ => rfl)) (pe_ix (kIx K) (pv 3) (pv 4) (fun _ _ => rfl)) (nomark _)))) pa_nil))))))), ?_⟩
  exact body_pure (N := N_is_draft) (a := a_is_draft) (fun c => (as_seq (as_if (at_or (at_not (at_B (ae_isi (T := "tuple") (ae_var 1)))) (at_test (ae_op ar_I0b (ae_cb ac_len (aa_cons (ae_var 1) aa_nil)) (ae_int 20))))
      (as_ret (ae_bl false))
      as_next)
      (as_seq (as_if (at_not (at_B (ae_cb ac_all (aa_cons (ae_lc (vs := [2]) (ai_tup (ae_var 1)) (ag_name 2) (go_name (by decide)) at_yes (ae_callP0 (aa_cons (ae_var 2) (aa_cons (ae_cb ac_len (aa_cons (ae_var 0) aa_nil)) aa_nil)))) aa_nil))))
      (as_ret (ae_bl false))
      as_next)
      (as_seq (as_set 3 (ae_lc (vs := [2]) (ai_tup (ae_var 1)) (ag_name 2) (go_name (by decide)) at_yes (ae_callP0 (aa_cons (ae_var 2) aa_nil))))
      (as_ret (ae_cb ac_all (aa_cons (ae_lc (vs := [4]) (ai_rng2 (aa_cons (ae_int 1) (aa_cons (ae_cb ac_len (aa_cons (ae_var 3) aa_nil)) aa_nil))) (ag_name 4) (go_name (by decide)) at_yes (ae_op ar_ltT (ae_op ar_ix (ae_var 3) (ae_op ar_I0i (ae_var 4) (ae_int 1))) (ae_op ar_ix (ae_var 3) (ae_var 4)))) aa_nil))))))) vc_is_draft h
theorem ok_body_text (T : Tx K mg) : FnOk P w K mg base CX0 1 T.f_body_text T.fd_body_text ps_body_text (spP K ds_body_text) := by
  refine T.d_body_text.ok (k := 0) sc_body_text (fun vs H Q E h => spP_len len_body_text h) (fun cdv A outer s H vs Q E hr h => ?_)
  refine ⟨_, (pss_one (ps_ret (pe_m1 PySem.F.slot_str_join PySem.F.type_str_join (kJoin K) pe_str (pe_lc (own := [("line", 1)]) (g := (gName 1)) rfl sc_body_text.nd (pi_tup (pv 0)) (blkOk_by (own := [("line", 1)]) (N := N_body_text) (sc := defScope s_body_text) (by decide +kernel)) (fun _ _ _ _ _ => (pg_name (i := 1) sc_body_text.nd rfl (by first | exact Or.inl rfl | exact Or.inr rfl))) (fun _ _ _ _ _ => pts_nil) (fun _ _ _ _ _ => (pe_op (kAdd K) pe_str (pv 1))))))), ?_⟩
  exact body_pure (N := N_body_text) (a := a_body_text) (fun c => (as_ret (ae_m1 am_join (ae_str (Str.ofString "")) (ae_lc (vs := [1]) (ai_tup (ae_var 0)) (ag_name 1) (go_name (by decide)) at_yes (ae_op ar_add (ae_str (Str.ofString "|")) (ae_var 1)))))) vc_body_text h
theorem ok_edit_text (T : Tx K mg) : FnOk P w K mg base CX0 2 T.f_edit_text T.fd_edit_text ps_edit_text (spP K ds_edit_text) := by
  refine T.d_edit_text.ok (k := 1) sc_edit_text (fun vs H Q E h => spP_len len_edit_text h) (fun cdv A outer s H vs Q E hr h => ?_)
  refine ⟨_, (pss_cons (ps_if (pt_cmpR (kEq K hr.units) (pe_ix (kIx K) (pv 0) pe_int (fun _ _ => rfl)) pe_str (nomark _))
      (pss_one (ps_ret (pe_op (kAdd K) (pe_op (kAdd K) (pe_callTy call_str_int (by rfl) T.b_str (by decide +kernel) (pa_cons (pe_ix (kIx K) (pv 0) pe_int (fun _ _ => rfl)) pa_nil)) pe_str) (pe_call (ok_body_text T) (hr.mono (by decide)) (by rfl) T.d_body_text.m T.d_body_text.kp T.d_body_text.b .nil pass0 (pa_cons (pe_ix (kIx K) (pv 0) pe_int (fun _ _ => rfl)) pa_nil)))))
      pss_nil)
      (pss_cons (ps_if (pt_cmpR (kEq K hr.units) (pe_ix (kIx K) (pv 0) pe_int (fun _ _ => rfl)) pe_str (nomark _))
      (pss_one (ps_ret (pe_op (kAdd K) (pe_callTy call_str_int (by rfl) T.b_str (by decide +kernel) (pa_cons (pe_ix (kIx K) (pv 0) pe_int (fun _ _ => rfl)) pa_nil)) pe_str)))
      pss_nil)
      (pss_one (ps_ret (pe_op (kAdd K) (pe_op (kAdd K) (pe_callTy call_str_int (by rfl) T.b_str (by decide +kernel) (pa_cons (pe_ix (kIx K) (pv 0) pe_int (fun _ _ => rfl)) pa_nil)) pe_str) (pe_ix (kIx K) (pv 0) pe_int (fun _ _ => rfl))))))), ?_⟩
  exact body_pure (N := N_edit_text) (a := a_edit_text) (fun c => (as_seq (as_if (at_test (ae_op ar_eq (ae_op ar_ix (ae_var 0) (ae_int 0)) (ae_str (Str.ofString "put"))))
      (as_ret (ae_op ar_add (ae_op ar_add (ae_cb ac_strI (aa_cons (ae_op ar_ix (ae_var 0) (ae_int 1)) aa_nil)) (ae_str (Str.ofString "+"))) (ae_callP0 (aa_cons (ae_op ar_ix (ae_var 0) (ae_int 2)) aa_nil))))
      as_next)
      (as_seq (as_if (at_test (ae_op ar_eq (ae_op ar_ix (ae_var 0) (ae_int 0)) (ae_str (Str.ofString "drop"))))
      (as_ret (ae_op ar_add (ae_cb ac_strI (aa_cons (ae_op ar_ix (ae_var 0) (ae_int 1)) aa_nil)) (ae_str (Str.ofString "-"))))
      as_next)
      (as_ret (ae_op ar_add (ae_op ar_add (ae_cb ac_strI (aa_cons (ae_op ar_ix (ae_var 0) (ae_int 1)) aa_nil)) (ae_str (Str.ofString "="))) (ae_op ar_ix (ae_var 0) (ae_int 2))))))) vc_edit_text h
theorem ok_draft_text (T : Tx K mg) : FnOk P w K mg base CX0 3 T.f_draft_text T.fd_draft_text ps_draft_text (spP K ds_draft_text) := by
  refine T.d_draft_text.ok (k := 2) sc_draft_text (fun vs H Q E h => spP_len len_draft_text h) (fun cdv A outer s H vs Q E hr h => ?_)
  refine ⟨_, (pss_one (ps_ret (pe_m1 PySem.F.slot_str_join PySem.F.type_str_join (kJoin K) pe_str (pe_lc (own := [("edit", 1)]) (g := (gName 1)) rfl sc_draft_text.nd (pi_tup (pv 0)) (blkOk_by (own := [("edit", 1)]) (N := N_draft_text) (sc := defScope s_draft_text) (by decide +kernel)) (fun _ _ _ _ _ => (pg_name (i := 1) sc_draft_text.nd rfl (by first | exact Or.inl rfl | exact Or.inr rfl))) (fun _ _ _ _ _ => pts_nil) (fun _ _ _ _ _ => (pe_call (ok_edit_text T) (hr.mono (by decide)) (by rfl) T.d_edit_text.m T.d_edit_text.kp T.d_edit_text.b .nil pass0 (pa_cons (pv 1) pa_nil))))))), ?_⟩
  exact body_pure (N := N_draft_text) (a := a_draft_text) (fun c => (as_ret (ae_m1 am_join (ae_str (Str.ofString ";")) (ae_lc (vs := [1]) (ai_tup (ae_var 0)) (ag_name 1) (go_name (by decide)) at_yes (ae_callP0 (aa_cons (ae_var 1) aa_nil)))))) vc_draft_text h
theorem ok_need_text (T : Tx K mg) : FnOk P w K mg base (L2.CX P w) 1 T.f_need_text T.fd_need_text ps_need_text (spX K (cmT T) true true ds_need_text) := by
  refine Fe.Df.okX (CX := L2.CX P w) T.d_need_text (k := 0) sc_need_text (fun vs H Q E h => spX_len len_need_text h) (fun cdv A outer s H vs Q E hr h => ?_)
  have tk : Takes (cxOf (L2.CX P w) P w K mg base N_need_text "need_text" (defScope s_need_text) T.f_need_text cdv A outer s H E) (fun cls d _ H => E cls d H) := takes_of rfl rfl rfl rfl
  have po := passes_of (X := cxOf (L2.CX P w) P w K mg base N_need_text "need_text" (defScope s_need_text) T.f_need_text cdv A outer s H E) rfl
  refine ⟨_, (pss_one (ps_if (pt_not (pt_val (pe_callB (kIsi K) (by rfl) T.b_isinstance (by decide +kernel) (pa_cons (pv 0) (pa_cons (pe_bltn (v := .ty "str") (by rfl) T.b_str (by decide +kernel) rfl) pa_nil)))))
      (pss_one (ps_raiseOwn T.er_NoText T.g_NoText tk))
      pss_nil)), ?_⟩
  exact body_X (cm := cmT T) (q := true) (st := true) (Nm := N_need_text) (n0 := 0) (m := 0) (a := a_need_text) (fun c hn (hl : c.lo = 0) hs => (z_if (xt_of (q_liftT (fun _ => (at_not (at_B (ae_isi (T := "str") (ae_var 0)))))))
      (z_raise 13)
      z_next)) vc_need_text h
theorem ok_read_number (T : Tx K mg) : FnOk P w K mg base (L2.CX P w) 1 T.f_read_number T.fd_read_number ps_read_number (spX K (cmT T) true true ds_read_number) := by
  refine Fe.Df.okX (CX := L2.CX P w) T.d_read_number (k := 0) sc_read_number (fun vs H Q E h => spX_len len_read_number h) (fun cdv A outer s H vs Q E hr h => ?_)
  have tk : Takes (cxOf (L2.CX P w) P w K mg base N_read_number "read_number" (defScope s_read_number) T.f_read_number cdv A outer s H E) (fun cls d _ H => E cls d H) := takes_of rfl rfl rfl rfl
  have po := passes_of (X := cxOf (L2.CX P w) P w K mg base N_read_number "read_number" (defScope s_read_number) T.f_read_number cdv A outer s H E) rfl
  refine ⟨_, (pss_cons (ps_if (PW.pt (pw_or (pt_cmpR (kEq K hr.units) (pv 0) pe_str (nomark _)) (pw_or (pt_cmpR op_gt (pe_callB (kLen K) (by rfl) T.b_len (by decide +kernel) (pa_cons (pv 0) pa_nil)) (pe_glob (v := .int 6) rfl T.g_MOST_FIGURES.choose_spec.1 T.g_MOST_FIGURES.choose_spec.2) (nomark _)) (pw_or1 (pt_not (pt_val (pe_callB (kAll K) (by rfl) T.b_all (by decide +kernel) (pa_cons (pe_lc (own := [("sign", 1)]) (g := (gName 1)) rfl sc_read_number.nd (pi_str (pv 0)) (blkOk_by (own := [("sign", 1)]) (N := N_read_number) (sc := defScope s_read_number) (by decide +kernel)) (fun _ _ _ _ _ => (pg_name (i := 1) sc_read_number.nd rfl (by first | exact Or.inl rfl | exact Or.inr rfl))) (fun _ _ _ _ _ => pts_nil) (fun _ _ _ _ _ => (pe_cmpR op_in_sign (pv 1) (pe_glob (v := .str (Str.ofString "0123456789")) rfl T.g_FIGURES.choose_spec.1 T.g_FIGURES.choose_spec.2) rfl))) pa_nil))))))))
      (pss_one (ps_raiseOwn T.er_NoText T.g_NoText tk))
      pss_nil)
      (pss_cons (ps_if (PW.pt (pw_and (pt_cmpR (kEq K hr.units) (pe_ix (kIx K) (pv 0) pe_int (fun _ _ => rfl)) pe_str (nomark _)) (pw_and1 (pt_cmpR (kNe K hr.units) (pv 0) pe_str (nomark _)))))
      (pss_one (ps_raiseOwn T.er_NoText T.g_NoText tk))
      pss_nil)
      (pss_one (ps_ret (pe_callTy call_int_str (by rfl) T.b_int (by decide +kernel) (pa_cons (pv 0) pa_nil)))))), ?_⟩
  exact body_X (cm := cmT T) (q := true) (st := true) (Nm := N_read_number) (n0 := 0) (m := 0) (a := a_read_number) (fun c hn (hl : c.lo = 0) hs => (z_seq (z_if (xt_of (q_liftT (fun _ => (at_or (at_test (ae_op ar_eq (ae_var 0) (ae_str (Str.ofString "")))) (at_or (at_test (ae_op ar_I0b (ae_cb ac_len (aa_cons (ae_var 0) aa_nil)) (ae_int 6))) (at_not (at_B (ae_cb ac_all (aa_cons (ae_lc (vs := [1]) (ai_str (ae_var 0)) (ag_name 1) (go_name (by decide)) at_yes (ae_op ar_inS (ae_var 1) (ae_str (Str.ofString "0123456789")))) aa_nil)))))))))
      (z_raise 13)
      z_next)
      (z_seq (z_if (xt_of (q_liftT (fun _ => (at_and (at_test (ae_op ar_eq (ae_op ar_ix (ae_var 0) (ae_int 0)) (ae_str (Str.ofString "0")))) (at_test (ae_op ar_ne (ae_var 0) (ae_str (Str.ofString "0"))))))))
      (z_raise 13)
      z_next)
      (z_ret (x_of (q_lift (fun _ => (ae_cb ac_intS (aa_cons (ae_var 0) aa_nil))))))))) vc_read_number h
theorem ok_read_body (T : Tx K mg) : FnOk P w K mg base (L2.CX P w) 3 T.f_read_body T.fd_read_body ps_read_body (spX K (cmT T) true true ds_read_body) := by
  refine Fe.Df.okX (CX := L2.CX P w) T.d_read_body (k := 2) sc_read_body (fun vs H Q E h => spX_len len_read_body h) (fun cdv A outer s H vs Q E hr h => ?_)
  have tk : Takes (cxOf (L2.CX P w) P w K mg base N_read_body "read_body" (defScope s_read_body) T.f_read_body cdv A outer s H E) (fun cls d _ H => E cls d H) := takes_of rfl rfl rfl rfl
  have po := passes_of (X := cxOf (L2.CX P w) P w K mg base N_read_body "read_body" (defScope s_read_body) T.f_read_body cdv A outer s H E) rfl
  refine ⟨_, (pss_cons (ps_expr (pe_callSD (ok_need_text T) (hr.mono (by decide)) (by rfl) T.d_need_text.m T.d_need_text.kp T.d_need_text.b .nil (fun σ => passAt tk σ) (pa_cons (pv 0) pa_nil)))
      (pss_cons (ps_set (i := 1) sc_read_body.nd rfl (by first | exact Or.inl rfl | exact Or.inr rfl) (pe_tup pa_nil))
      (pss_cons (ps_if (pt_cmpR (kNe K hr.units) (pv 0) pe_str (nomark _))
      (pss_cons (ps_if (pt_cmpR (kNe K hr.units) (pe_ix (kIx K) (pv 0) pe_int (fun _ _ => rfl)) pe_str (nomark _))
      (pss_one (ps_raiseOwn T.er_NoText T.g_NoText tk))
      pss_nil)
      (pss_one (ps_set (i := 1) sc_read_body.nd rfl (by first | exact Or.inl rfl | exact Or.inr rfl) (pe_callTy (kTuple K) (by rfl) T.b_tuple (by decide +kernel) (pa_cons (pe_m1 PySem.F.slot_str_split PySem.F.type_str_split mt_split (pe_slice (kSl K) (pv 0) (po_some pe_int) po_none) pe_str) pa_nil)))))
      pss_nil)
      (pss_cons (ps_if (pt_not (pt_val (pe_call (ok_is_body T) (hr.mono (by decide)) (by rfl) T.d_is_body.m T.d_is_body.kp T.d_is_body.b .nil pass0 (pa_cons (pv 1) pa_nil))))
      (pss_one (ps_raiseOwn T.er_NoText T.g_NoText tk))
      pss_nil)
      (pss_one (ps_ret (pv 1))))))), ?_⟩
  exact body_X (cm := cmT T) (q := true) (st := true) (Nm := N_read_body) (n0 := 0) (m := 0) (a := a_read_body) (fun c hn (hl : c.lo = 0) hs => (z_seq (z_drop (x_of (q_call (qa_cons (q_lift (fun _ => (ae_var 0))) qa_nil))))
      (z_seq (z_set 1 (x_of (q_lift (fun _ => (ae_tup aa_nil)))))
      (z_seq (z_if (xt_of (q_liftT (fun _ => (at_test (ae_op ar_ne (ae_var 0) (ae_str (Str.ofString "")))))))
      (z_seq (z_if (xt_of (q_liftT (fun _ => (at_test (ae_op ar_ne (ae_op ar_ix (ae_var 0) (ae_int 0)) (ae_str (Str.ofString "|")))))))
      (z_raise 13)
      z_next)
      (z_set 1 (x_of (q_lift (fun _ => (ae_cb ac_tuple (aa_cons (ae_m1 am_split (ae_sl (ae_var 0) (ao_some (ae_int 1)) ao_no) (ae_str (Str.ofString "|"))) aa_nil)))))))
      z_next)
      (z_seq (z_if (xt_of (q_liftT (fun _ => (at_not (at_B (ae_callP0 (aa_cons (ae_var 1) aa_nil)))))))
      (z_raise 13)
      z_next)
      (z_ret (x_of (q_lift (fun _ => (ae_var 1)))))))))) vc_read_body h
theorem ok_read_edit (T : Tx K mg) : FnOk P w K mg base (L2.CX P w) 4 T.f_read_edit T.fd_read_edit ps_read_edit (spX K (cmT T) true true ds_read_edit) := by
  refine Fe.Df.okX (CX := L2.CX P w) T.d_read_edit (k := 3) sc_read_edit (fun vs H Q E h => spX_len len_read_edit h) (fun cdv A outer s H vs Q E hr h => ?_)
  have tk : Takes (cxOf (L2.CX P w) P w K mg base N_read_edit "read_edit" (defScope s_read_edit) T.f_read_edit cdv A outer s H E) (fun cls d _ H => E cls d H) := takes_of rfl rfl rfl rfl
  have po := passes_of (X := cxOf (L2.CX P w) P w K mg base N_read_edit "read_edit" (defScope s_read_edit) T.f_read_edit cdv A outer s H E) rfl
  refine ⟨_, (pss_cons (ps_set (i := 1) sc_read_edit.nd rfl (by first | exact Or.inl rfl | exact Or.inr rfl) pe_int)
      (pss_cons (ps_while po (PW.pt (pw_and (pt_cmpR op_lt (pv 1) (pe_callB (kLen K) (by rfl) T.b_len (by decide +kernel) (pa_cons (pv 0) pa_nil)) (nomark _)) (pw_and1 (pt_cmpR op_in_sign (pe_ix (kIx K) (pv 0) (pv 1) (fun _ _ => rfl)) (pe_glob (v := .str (Str.ofString "0123456789")) rfl T.g_FIGURES.choose_spec.1 T.g_FIGURES.choose_spec.2) rfl))))
      (pss_one (ps_aug (i := 1) sc_read_edit.nd rfl (by first | exact Or.inl rfl | exact Or.inr rfl) pe_int ip_add)))
      (pss_cons (ps_set (i := 2) sc_read_edit.nd rfl (by first | exact Or.inl rfl | exact Or.inr rfl) (pe_callSD (ok_read_number T) (hr.mono (by decide)) (by rfl) T.d_read_number.m T.d_read_number.kp T.d_read_number.b .nil (fun σ => passAt tk σ) (pa_cons (pe_slice (kSl K) (pv 0) po_none (po_some (pv 1))) pa_nil)))
      (pss_cons (ps_set (i := 3) sc_read_edit.nd rfl (by first | exact Or.inl rfl | exact Or.inr rfl) (pe_slice (kSl K) (pv 0) (po_some (pv 1)) (po_some (pe_op (kAdd K) (pv 1) pe_int))))
      (pss_cons (ps_set (i := 4) sc_read_edit.nd rfl (by first | exact Or.inl rfl | exact Or.inr rfl) (pe_slice (kSl K) (pv 0) (po_some (pe_op (kAdd K) (pv 1) pe_int)) po_none))
      (pss_cons (ps_if (pt_cmpR (kEq K hr.units) (pv 3) pe_str (nomark _))
      (pss_one (ps_ret (pe_tup (pa_cons pe_str (pa_cons (pv 2) (pa_cons (pe_callSD (ok_read_body T) (hr.mono (by decide)) (by rfl) T.d_read_body.m T.d_read_body.kp T.d_read_body.b .nil (fun σ => passAt tk σ) (pa_cons (pv 4) pa_nil)) pa_nil))))))
      pss_nil)
      (pss_cons (ps_if (PW.pt (pw_and (pt_cmpR (kEq K hr.units) (pv 3) pe_str (nomark _)) (pw_and1 (pt_cmpR (kEq K hr.units) (pv 4) pe_str (nomark _)))))
      (pss_one (ps_ret (pe_tup (pa_cons pe_str (pa_cons (pv 2) pa_nil)))))
      pss_nil)
      (pss_cons (ps_if (pt_cmpR (kEq K hr.units) (pv 3) pe_str (nomark _))
      (pss_one (ps_ret (pe_tup (pa_cons pe_str (pa_cons (pv 2) (pa_cons (pv 4) pa_nil))))))
      pss_nil)
      (pss_one (ps_raiseOwn T.er_NoText T.g_NoText tk)))))))))), ?_⟩
  exact body_X (cm := cmT T) (q := true) (st := true) (Nm := N_read_edit) (n0 := 0) (m := 0) (a := a_read_edit) (fun c hn (hl : c.lo = 0) hs => (z_seq (z_set 1 (x_of (q_lift (fun _ => (ae_int 0)))))
      (z_seq (z_while (xt_of (q_liftT (fun _ => (at_and (at_test (ae_op ar_I0b (ae_var 1) (ae_cb ac_len (aa_cons (ae_var 0) aa_nil)))) (at_test (ae_op ar_inS (ae_op ar_ix (ae_var 0) (ae_var 1)) (ae_str (Str.ofString "0123456789"))))))))
      (z_aug 1 (q_lift (fun _ => (ae_int 1)))))
      (z_seq (z_set 2 (x_of (q_call (qa_cons (q_lift (fun _ => (ae_sl (ae_var 0) ao_no (ao_some (ae_var 1))))) qa_nil))))
      (z_seq (z_set 3 (x_of (q_lift (fun _ => (ae_sl (ae_var 0) (ao_some (ae_var 1)) (ao_some (ae_op ar_add (ae_var 1) (ae_int 1))))))))
      (z_seq (z_set 4 (x_of (q_lift (fun _ => (ae_sl (ae_var 0) (ao_some (ae_op ar_add (ae_var 1) (ae_int 1))) ao_no)))))
      (z_seq (z_if (xt_of (q_liftT (fun _ => (at_test (ae_op ar_eq (ae_var 3) (ae_str (Str.ofString "+")))))))
      (z_ret (x_of (q_tup (qa_cons (q_lift (fun _ => (ae_str (Str.ofString "put")))) (qa_cons (q_lift (fun _ => (ae_var 2))) (qa_cons (q_call (qa_cons (q_lift (fun _ => (ae_var 4))) qa_nil)) qa_nil))))))
      z_next)
      (z_seq (z_if (xt_of (q_liftT (fun _ => (at_and (at_test (ae_op ar_eq (ae_var 3) (ae_str (Str.ofString "-")))) (at_test (ae_op ar_eq (ae_var 4) (ae_str (Str.ofString ""))))))))
      (z_ret (x_of (q_lift (fun _ => (ae_tup (aa_cons (ae_str (Str.ofString "drop")) (aa_cons (ae_var 2) aa_nil)))))))
      z_next)
      (z_seq (z_if (xt_of (q_liftT (fun _ => (at_test (ae_op ar_eq (ae_var 3) (ae_str (Str.ofString "=")))))))
      (z_ret (x_of (q_lift (fun _ => (ae_tup (aa_cons (ae_str (Str.ofString "turn")) (aa_cons (ae_var 2) (aa_cons (ae_var 4) aa_nil))))))))
      z_next)
      (z_raise 13)))))))))) vc_read_edit h
theorem ok_read_draft (T : Tx K mg) : FnOk P w K mg base (L2.CX P w) 5 T.f_read_draft T.fd_read_draft ps_read_draft (spX K (cmT T) true true ds_read_draft) := by
  refine Fe.Df.okX (CX := L2.CX P w) T.d_read_draft (k := 4) sc_read_draft (fun vs H Q E h => spX_len len_read_draft h) (fun cdv A outer s H vs Q E hr h => ?_)
  have tk : Takes (cxOf (L2.CX P w) P w K mg base N_read_draft "read_draft" (defScope s_read_draft) T.f_read_draft cdv A outer s H E) (fun cls d _ H => E cls d H) := takes_of rfl rfl rfl rfl
  have po := passes_of (X := cxOf (L2.CX P w) P w K mg base N_read_draft "read_draft" (defScope s_read_draft) T.f_read_draft cdv A outer s H E) rfl
  refine ⟨_, (pss_cons (ps_expr (pe_callSD (ok_need_text T) (hr.mono (by decide)) (by rfl) T.d_need_text.m T.d_need_text.kp T.d_need_text.b .nil (fun σ => passAt tk σ) (pa_cons (pv 0) pa_nil)))
      (pss_cons (ps_set (i := 1) sc_read_draft.nd rfl (by first | exact Or.inl rfl | exact Or.inr rfl) (pe_tup pa_nil))
      (pss_cons (ps_if (pt_cmpR (kNe K hr.units) (pv 0) pe_str (nomark _))
      (pss_one (ps_set (i := 1) sc_read_draft.nd rfl (by first | exact Or.inl rfl | exact Or.inr rfl) (pe_callTy (kTuple K) (by rfl) T.b_tuple (by decide +kernel) (pa_cons (pe_lcX (own := [("part", 2)]) (g := (gName 2)) rfl sc_read_draft.nd rfl rfl tk (fun _ _ _ _ _ h => h) (pi_list (pe_m1 PySem.F.slot_str_split PySem.F.type_str_split mt_split (pv 0) pe_str)) (blkOk_by (own := [("part", 2)]) (N := N_read_draft) (sc := defScope s_read_draft) (by decide +kernel)) (fun _ _ _ _ _ => (pg_name (i := 2) sc_read_draft.nd rfl (by first | exact Or.inl rfl | exact Or.inr rfl))) (fun _ _ _ _ _ => pts_nil) (fun _ _ _ _ _ => (pe_callSD (ok_read_edit T) (hr.mono (by decide)) (by rfl) T.d_read_edit.m T.d_read_edit.kp T.d_read_edit.b .nil passX (pa_cons (pv 2) pa_nil)))) pa_nil))))
      pss_nil)
      (pss_cons (ps_if (pt_not (pt_val (pe_call (ok_is_draft T) (hr.mono (by decide)) (by rfl) T.d_is_draft.m T.d_is_draft.kp T.d_is_draft.b .nil pass0 (pa_cons (pe_glob (v := .ref T.a_LONGEST) rfl T.g_LONGEST rfl) (pa_cons (pv 1) pa_nil)))))
      (pss_one (ps_raiseOwn T.er_NoText T.g_NoText tk))
      pss_nil)
      (pss_one (ps_ret (pv 1))))))), ?_⟩
  exact body_X (cm := cmT T) (q := true) (st := true) (Nm := N_read_draft) (n0 := 0) (m := 0) (a := a_read_draft) (fun c hn (hl : c.lo = 0) hs => (z_seq (z_drop (x_of (q_call (qa_cons (q_lift (fun _ => (ae_var 0))) qa_nil))))
      (z_seq (z_set 1 (x_of (q_lift (fun _ => (ae_tup aa_nil)))))
      (z_seq (z_if (xt_of (q_liftT (fun _ => (at_test (ae_op ar_ne (ae_var 0) (ae_str (Str.ofString "")))))))
      (z_set 1 (x_of (q_tupleOf (q_frz (q_lcX (vs := [2]) (xi_list (q_lift (fun _ => (ae_m1 am_split (ae_var 0) (ae_str (Str.ofString ";")))))) (xg_name 2) (go_name (by decide)) q_yes (q_call (qa_cons (q_lift (fun _ => (ae_var 2))) qa_nil)))))))
      z_next)
      (z_seq (z_if (xt_of (q_liftT (fun _ => (at_not (at_B (ae_callP0 (aa_cons (ae_constT (d := (.tuple (List.replicate 60 (.str (Str.ofString "a"))))) (T.r_LONGEST)) (aa_cons (ae_var 1) aa_nil))))))))
      (z_raise 13)
      z_next)
      (z_ret (x_of (q_lift (fun _ => (ae_var 1)))))))))) vc_read_draft h
theorem ok_law_whole (T : Tx K mg) : FnOk P w K mg base CX0 1 T.f_law_whole T.fd_law_whole ps_law_whole (spP K ds_law_whole) := by
  refine T.d_law_whole.ok (k := 0) sc_law_whole (fun vs H Q E h => spP_len len_law_whole h) (fun cdv A outer s H vs Q E hr h => ?_)
  refine ⟨_, (pss_one (ps_ret (pe_and (pe_callB (kIsi K) (by rfl) T.b_isinstance (by decide +kernel) (pa_cons (pv 0) (pa_cons (pe_bltn (v := .ty "int") (by rfl) T.b_int (by decide +kernel) rfl) pa_nil))) (pe_one (pe_not (pe_callB (kIsi K) (by rfl) T.b_isinstance (by decide +kernel) (pa_cons (pv 0) (pa_cons (pe_bltn (v := .ty "bool") (by rfl) T.b_bool (by decide +kernel) rfl) pa_nil)))))))), ?_⟩
  exact body_pure (N := N_law_whole) (a := a_law_whole) (fun c => (as_ret (ae_andV (ae_isi (T := "int") (ae_var 0)) (ae_notV (ae_isi (T := "bool") (ae_var 0)))))) vc_law_whole h
theorem ok_law_word (T : Tx K mg) : FnOk P w K mg base CX0 1 T.f_law_word T.fd_law_word ps_law_word (spX K (cmT T) true true ds_law_word) := by
  refine T.d_law_word.ok (k := 0) sc_law_word (fun vs H Q E h => spX_len len_law_word h) (fun cdv A outer s H vs Q E hr h => ?_)
  refine ⟨_, (pss_cons (ps_set (i := 1) sc_law_word.nd rfl (by first | exact Or.inl rfl | exact Or.inr rfl) (pe_lst (pa_cons (pe_tup (pa_cons pe_str (pa_cons (pe_callB (kIsX K) (by rfl) T.b_isinstance (by decide +kernel) (pa_cons (pv 0) (pa_cons (pe_glob (v := .ref T.c_NoOffice) rfl T.g_NoOffice rfl) pa_nil))) pa_nil))) (pa_cons (pe_tup (pa_cons pe_str (pa_cons (pe_callB (kIsX K) (by rfl) T.b_isinstance (by decide +kernel) (pa_cons (pv 0) (pa_cons (pe_glob (v := .ref T.c_NoDays) rfl T.g_NoDays rfl) pa_nil))) pa_nil))) (pa_cons (pe_tup (pa_cons pe_str (pa_cons (pe_callB (kIsX K) (by rfl) T.b_isinstance (by decide +kernel) (pa_cons (pv 0) (pa_cons (pe_glob (v := .ref T.c_NoDesk) rfl T.g_NoDesk rfl) pa_nil))) pa_nil))) pa_nil)))))
      (pss_cons (ps_set (i := 1) sc_law_word.nd rfl (by first | exact Or.inl rfl | exact Or.inr rfl) (pe_op (kAdd K) (pv 1) (pe_lst (pa_cons (pe_tup (pa_cons pe_str (pa_cons (pe_callB (kIsX K) (by rfl) T.b_isinstance (by decide +kernel) (pa_cons (pv 0) (pa_cons (pe_glob (v := .ref T.c_NoHouse) rfl T.g_NoHouse rfl) pa_nil))) pa_nil))) (pa_cons (pe_tup (pa_cons pe_str (pa_cons (pe_callB (kIsX K) (by rfl) T.b_isinstance (by decide +kernel) (pa_cons (pv 0) (pa_cons (pe_glob (v := .ref T.c_NoBody) rfl T.g_NoBody rfl) pa_nil))) pa_nil))) (pa_cons (pe_tup (pa_cons pe_str (pa_cons (pe_callB (kIsX K) (by rfl) T.b_isinstance (by decide +kernel) (pa_cons (pv 0) (pa_cons (pe_glob (v := .ref T.c_NoName) rfl T.g_NoName rfl) pa_nil))) pa_nil))) pa_nil))))))
      (pss_cons (ps_set (i := 1) sc_law_word.nd rfl (by first | exact Or.inl rfl | exact Or.inr rfl) (pe_op (kAdd K) (pv 1) (pe_lst (pa_cons (pe_tup (pa_cons pe_str (pa_cons (pe_callB (kIsX K) (by rfl) T.b_isinstance (by decide +kernel) (pa_cons (pv 0) (pa_cons (pe_glob (v := .ref T.c_NoLetter) rfl T.g_NoLetter rfl) pa_nil))) pa_nil))) (pa_cons (pe_tup (pa_cons pe_str (pa_cons (pe_callB (kIsX K) (by rfl) T.b_isinstance (by decide +kernel) (pa_cons (pv 0) (pa_cons (pe_glob (v := .ref T.c_NotNow) rfl T.g_NotNow rfl) pa_nil))) pa_nil))) pa_nil)))))
      (pss_cons (ps_set (i := 1) sc_law_word.nd rfl (by first | exact Or.inl rfl | exact Or.inr rfl) (pe_op (kAdd K) (pv 1) (pe_lst (pa_cons (pe_tup (pa_cons pe_str (pa_cons (pe_callB (kIsX K) (by rfl) T.b_isinstance (by decide +kernel) (pa_cons (pv 0) (pa_cons (pe_glob (v := .ref T.c_NoDraft) rfl T.g_NoDraft rfl) pa_nil))) pa_nil))) (pa_cons (pe_tup (pa_cons pe_str (pa_cons (pe_callB (kIsX K) (by rfl) T.b_isinstance (by decide +kernel) (pa_cons (pv 0) (pa_cons (pe_glob (v := .ref T.c_TooMany) rfl T.g_TooMany rfl) pa_nil))) pa_nil))) pa_nil)))))
      (pss_cons (ps_set (i := 1) sc_law_word.nd rfl (by first | exact Or.inl rfl | exact Or.inr rfl) (pe_op (kAdd K) (pv 1) (pe_lst (pa_cons (pe_tup (pa_cons pe_str (pa_cons (pe_callB (kIsX K) (by rfl) T.b_isinstance (by decide +kernel) (pa_cons (pv 0) (pa_cons (pe_glob (v := .ref T.c_TooLong) rfl T.g_TooLong rfl) pa_nil))) pa_nil))) pa_nil))))
      (pss_cons (ps_set (i := 1) sc_law_word.nd rfl (by first | exact Or.inl rfl | exact Or.inr rfl) (pe_op (kAdd K) (pv 1) (pe_lst (pa_cons (pe_tup (pa_cons pe_str (pa_cons (pe_callB (kIsX K) (by rfl) T.b_isinstance (by decide +kernel) (pa_cons (pv 0) (pa_cons (pe_glob (v := .ref T.c_NoCount) rfl T.g_NoCount rfl) pa_nil))) pa_nil))) (pa_cons (pe_tup (pa_cons pe_str (pa_cons (pe_callB (kIsX K) (by rfl) T.b_isinstance (by decide +kernel) (pa_cons (pv 0) (pa_cons (pe_glob (v := .ref T.c_NoLine) rfl T.g_NoLine rfl) pa_nil))) pa_nil))) (pa_cons (pe_tup (pa_cons pe_str (pa_cons (pe_callB (kIsX K) (by rfl) T.b_isinstance (by decide +kernel) (pa_cons (pv 0) (pa_cons (pe_glob (v := .ref T.c_NoText) rfl T.g_NoText rfl) pa_nil))) pa_nil))) pa_nil))))))
      (pss_cons (ps_set (i := 1) sc_law_word.nd rfl (by first | exact Or.inl rfl | exact Or.inr rfl) (pe_op (kAdd K) (pv 1) (pe_lst (pa_cons (pe_tup (pa_cons pe_str (pa_cons (pe_callB (kIsX K) (by rfl) T.b_isinstance (by decide +kernel) (pa_cons (pv 0) (pa_cons (pe_glob (v := .ref T.c_NoCopy) rfl T.g_NoCopy rfl) pa_nil))) pa_nil))) (pa_cons (pe_tup (pa_cons pe_str (pa_cons (pe_callB (kIsX K) (by rfl) T.b_isinstance (by decide +kernel) (pa_cons (pv 0) (pa_cons (pe_glob (v := .ref T.c_NoSlip) rfl T.g_NoSlip rfl) pa_nil))) pa_nil))) (pa_cons (pe_tup (pa_cons pe_str (pa_cons (pe_callB (kIsX K) (by rfl) T.b_isinstance (by decide +kernel) (pa_cons (pv 0) (pa_cons (pe_glob (v := .ref T.c_Twice) rfl T.g_Twice rfl) pa_nil))) pa_nil))) pa_nil))))))
      (pss_cons (ps_set (i := 1) sc_law_word.nd rfl (by first | exact Or.inl rfl | exact Or.inr rfl) (pe_op (kAdd K) (pv 1) (pe_lst (pa_cons (pe_tup (pa_cons pe_str (pa_cons (pe_callB (kIsX K) (by rfl) T.b_isinstance (by decide +kernel) (pa_cons (pv 0) (pa_cons (pe_glob (v := .ref T.c_Lacks) rfl T.g_Lacks rfl) pa_nil))) pa_nil))) (pa_cons (pe_tup (pa_cons pe_str (pa_cons (pe_callB (kIsX K) (by rfl) T.b_isinstance (by decide +kernel) (pa_cons (pv 0) (pa_cons (pe_glob (v := .ref T.c_NoNumber) rfl T.g_NoNumber rfl) pa_nil))) pa_nil))) pa_nil)))))
      (pss_cons (ps_set (i := 1) sc_law_word.nd rfl (by first | exact Or.inl rfl | exact Or.inr rfl) (pe_op (kAdd K) (pv 1) (pe_lst (pa_cons (pe_tup (pa_cons pe_str (pa_cons (pe_callB (kIsX K) (by rfl) T.b_isinstance (by decide +kernel) (pa_cons (pv 0) (pa_cons (pe_glob (v := .ref T.c_NoThing) rfl T.g_NoThing rfl) pa_nil))) pa_nil))) (pa_cons (pe_tup (pa_cons pe_str (pa_cons (pe_callB (kIsX K) (by rfl) T.b_isinstance (by decide +kernel) (pa_cons (pv 0) (pa_cons (pe_glob (v := .ref T.c_Gone) rfl T.g_Gone rfl) pa_nil))) pa_nil))) pa_nil)))))
      (pss_cons (ps_set (i := 1) sc_law_word.nd rfl (by first | exact Or.inl rfl | exact Or.inr rfl) (pe_op (kAdd K) (pv 1) (pe_lst (pa_cons (pe_tup (pa_cons pe_str (pa_cons (pe_callB (kIsX K) (by rfl) T.b_isinstance (by decide +kernel) (pa_cons (pv 0) (pa_cons (pe_glob (v := .ref T.c_NoAnswer) rfl T.g_NoAnswer rfl) pa_nil))) pa_nil))) (pa_cons (pe_tup (pa_cons pe_str (pa_cons (pe_callB (kIsX K) (by rfl) T.b_isinstance (by decide +kernel) (pa_cons (pv 0) (pa_cons (pe_glob (v := .ref T.c_NoDay) rfl T.g_NoDay rfl) pa_nil))) pa_nil))) pa_nil)))))
      (pss_cons (ps_set (i := 1) sc_law_word.nd rfl (by first | exact Or.inl rfl | exact Or.inr rfl) (pe_op (kAdd K) (pv 1) (pe_lst (pa_cons (pe_tup (pa_cons pe_str (pa_cons (pe_callB (kIsX K) (by rfl) T.b_isinstance (by decide +kernel) (pa_cons (pv 0) (pa_cons (pe_glob (v := .ref T.c_NothingLeft) rfl T.g_NothingLeft rfl) pa_nil))) pa_nil))) (pa_cons (pe_tup (pa_cons pe_str (pa_cons (pe_callB (kIsX K) (by rfl) T.b_isinstance (by decide +kernel) (pa_cons (pv 0) (pa_cons (pe_glob (v := .ref T.c_NoRow) rfl T.g_NoRow rfl) pa_nil))) pa_nil))) pa_nil)))))
      (pss_cons (ps_setLc (i := 2) (own := [("word", 3), ("fits", 4)]) (g := (gTup K 2 (gCons (gName 3) (gCons (gName 4) gNil)))) rfl sc_law_word.nd rfl rfl (sw_true rfl rfl rfl (by decide +kernel)) (pi_list (pv 1)) (blkOk_by (own := [("word", 3), ("fits", 4)]) (N := N_law_word) (sc := defScope s_law_word) (by decide +kernel)) (fun _ _ _ _ _ => (pg_tup rfl (pgs_cons (pg_name (i := 3) sc_law_word.nd rfl (by first | exact Or.inl rfl | exact Or.inr rfl)) (pgs_cons (pg_name (i := 4) sc_law_word.nd rfl (by first | exact Or.inl rfl | exact Or.inr rfl)) pgs_nil)))) (fun _ _ _ _ _ => (pts_one (pt_val (pv 4)))) (fun _ _ _ _ _ => (pv 3)))
      (pss_cons (ps_if (PW.pt (pw_or (pt_cmpR (kNe K hr.units) (pe_callB (kLen K) (by rfl) T.b_len (by decide +kernel) (pa_cons (pv 2) pa_nil)) pe_int (nomark _)) (pw_or1 (pt_not (pt_val (pe_callB (kIsX K) (by rfl) T.b_isinstance (by decide +kernel) (pa_cons (pv 0) (pa_cons (pe_bltn (v := .ty "ValueError") (by rfl) T.b_ValueError (by decide +kernel) rfl) pa_nil))))))))
      (pss_one (ps_ret pe_str))
      pss_nil)
      (pss_one (ps_ret (pe_ix (kIx K) (pv 2) pe_int (fun _ _ => rfl))))))))))))))))), ?_⟩
  exact body_X (cm := (cmT T)) (q := true) (st := true) (Nm := N_law_word) (n0 := 0) (m := 0) (a := a_law_word) (fun c hn (hl : c.lo = 0) hs => (z_seq (z_set 1 (x_of (q_lst (qa_cons (q_tup (qa_cons (q_lift (fun _ => (ae_str (Str.ofString "office")))) (qa_cons (q_isX (n := 25) (b := fun k => decide (k = 0)) (cv := .ref T.c_NoOffice) (u := .ref T.c_NoOffice) (fun z h => h) (cmx_kit T 0 (by decide)) (q_var 0)) qa_nil))) (qa_cons (q_tup (qa_cons (q_lift (fun _ => (ae_str (Str.ofString "days")))) (qa_cons (q_isX (n := 25) (b := fun k => decide (k = 1)) (cv := .ref T.c_NoDays) (u := .ref T.c_NoDays) (fun z h => h) (cmx_kit T 1 (by decide)) (q_var 0)) qa_nil))) (qa_cons (q_tup (qa_cons (q_lift (fun _ => (ae_str (Str.ofString "desk")))) (qa_cons (q_isX (n := 25) (b := fun k => decide (k = 2)) (cv := .ref T.c_NoDesk) (u := .ref T.c_NoDesk) (fun z h => h) (cmx_kit T 2 (by decide)) (q_var 0)) qa_nil))) qa_nil))))))
      (z_seq (z_set 1 (x_of (q_op (fun _ => ar_add) (q_lift (fun _ => (ae_var 1))) (q_lst (qa_cons (q_tup (qa_cons (q_lift (fun _ => (ae_str (Str.ofString "house")))) (qa_cons (q_isX (n := 25) (b := fun k => decide (k = 3)) (cv := .ref T.c_NoHouse) (u := .ref T.c_NoHouse) (fun z h => h) (cmx_kit T 3 (by decide)) (q_var 0)) qa_nil))) (qa_cons (q_tup (qa_cons (q_lift (fun _ => (ae_str (Str.ofString "body")))) (qa_cons (q_isX (n := 25) (b := fun k => decide (k = 4)) (cv := .ref T.c_NoBody) (u := .ref T.c_NoBody) (fun z h => h) (cmx_kit T 4 (by decide)) (q_var 0)) qa_nil))) (qa_cons (q_tup (qa_cons (q_lift (fun _ => (ae_str (Str.ofString "name")))) (qa_cons (q_isX (n := 25) (b := fun k => decide (k = 5)) (cv := .ref T.c_NoName) (u := .ref T.c_NoName) (fun z h => h) (cmx_kit T 5 (by decide)) (q_var 0)) qa_nil))) qa_nil)))))))
      (z_seq (z_set 1 (x_of (q_op (fun _ => ar_add) (q_lift (fun _ => (ae_var 1))) (q_lst (qa_cons (q_tup (qa_cons (q_lift (fun _ => (ae_str (Str.ofString "letter")))) (qa_cons (q_isX (n := 25) (b := fun k => decide (k = 6)) (cv := .ref T.c_NoLetter) (u := .ref T.c_NoLetter) (fun z h => h) (cmx_kit T 6 (by decide)) (q_var 0)) qa_nil))) (qa_cons (q_tup (qa_cons (q_lift (fun _ => (ae_str (Str.ofString "now")))) (qa_cons (q_isX (n := 25) (b := fun k => decide (k = 7)) (cv := .ref T.c_NotNow) (u := .ref T.c_NotNow) (fun z h => h) (cmx_kit T 7 (by decide)) (q_var 0)) qa_nil))) qa_nil))))))
      (z_seq (z_set 1 (x_of (q_op (fun _ => ar_add) (q_lift (fun _ => (ae_var 1))) (q_lst (qa_cons (q_tup (qa_cons (q_lift (fun _ => (ae_str (Str.ofString "draft")))) (qa_cons (q_isX (n := 25) (b := fun k => decide (k = 8)) (cv := .ref T.c_NoDraft) (u := .ref T.c_NoDraft) (fun z h => h) (cmx_kit T 8 (by decide)) (q_var 0)) qa_nil))) (qa_cons (q_tup (qa_cons (q_lift (fun _ => (ae_str (Str.ofString "many")))) (qa_cons (q_isX (n := 25) (b := fun k => decide (k = 9)) (cv := .ref T.c_TooMany) (u := .ref T.c_TooMany) (fun z h => h) (cmx_kit T 9 (by decide)) (q_var 0)) qa_nil))) qa_nil))))))
      (z_seq (z_set 1 (x_of (q_op (fun _ => ar_add) (q_lift (fun _ => (ae_var 1))) (q_lst (qa_cons (q_tup (qa_cons (q_lift (fun _ => (ae_str (Str.ofString "long")))) (qa_cons (q_isX (n := 25) (b := fun k => decide (k = 10)) (cv := .ref T.c_TooLong) (u := .ref T.c_TooLong) (fun z h => h) (cmx_kit T 10 (by decide)) (q_var 0)) qa_nil))) qa_nil)))))
      (z_seq (z_set 1 (x_of (q_op (fun _ => ar_add) (q_lift (fun _ => (ae_var 1))) (q_lst (qa_cons (q_tup (qa_cons (q_lift (fun _ => (ae_str (Str.ofString "count")))) (qa_cons (q_isX (n := 25) (b := fun k => decide (k = 11)) (cv := .ref T.c_NoCount) (u := .ref T.c_NoCount) (fun z h => h) (cmx_kit T 11 (by decide)) (q_var 0)) qa_nil))) (qa_cons (q_tup (qa_cons (q_lift (fun _ => (ae_str (Str.ofString "line")))) (qa_cons (q_isX (n := 25) (b := fun k => decide (k = 12)) (cv := .ref T.c_NoLine) (u := .ref T.c_NoLine) (fun z h => h) (cmx_kit T 12 (by decide)) (q_var 0)) qa_nil))) (qa_cons (q_tup (qa_cons (q_lift (fun _ => (ae_str (Str.ofString "text")))) (qa_cons (q_isX (n := 25) (b := fun k => decide (k = 13)) (cv := .ref T.c_NoText) (u := .ref T.c_NoText) (fun z h => h) (cmx_kit T 13 (by decide)) (q_var 0)) qa_nil))) qa_nil)))))))
      (z_seq (z_set 1 (x_of (q_op (fun _ => ar_add) (q_lift (fun _ => (ae_var 1))) (q_lst (qa_cons (q_tup (qa_cons (q_lift (fun _ => (ae_str (Str.ofString "copy")))) (qa_cons (q_isX (n := 25) (b := fun k => decide (k = 14)) (cv := .ref T.c_NoCopy) (u := .ref T.c_NoCopy) (fun z h => h) (cmx_kit T 14 (by decide)) (q_var 0)) qa_nil))) (qa_cons (q_tup (qa_cons (q_lift (fun _ => (ae_str (Str.ofString "slip")))) (qa_cons (q_isX (n := 25) (b := fun k => decide (k = 15)) (cv := .ref T.c_NoSlip) (u := .ref T.c_NoSlip) (fun z h => h) (cmx_kit T 15 (by decide)) (q_var 0)) qa_nil))) (qa_cons (q_tup (qa_cons (q_lift (fun _ => (ae_str (Str.ofString "twice")))) (qa_cons (q_isX (n := 25) (b := fun k => decide (k = 16)) (cv := .ref T.c_Twice) (u := .ref T.c_Twice) (fun z h => h) (cmx_kit T 16 (by decide)) (q_var 0)) qa_nil))) qa_nil)))))))
      (z_seq (z_set 1 (x_of (q_op (fun _ => ar_add) (q_lift (fun _ => (ae_var 1))) (q_lst (qa_cons (q_tup (qa_cons (q_lift (fun _ => (ae_str (Str.ofString "lacks")))) (qa_cons (q_isX (n := 25) (b := fun k => decide (k = 24)) (cv := .ref T.c_Lacks) (u := .ref T.c_Lacks) (fun z h => h) (cmx_kit T 24 (by decide)) (q_var 0)) qa_nil))) (qa_cons (q_tup (qa_cons (q_lift (fun _ => (ae_str (Str.ofString "number")))) (qa_cons (q_isX (n := 25) (b := fun k => decide (k = 17)) (cv := .ref T.c_NoNumber) (u := .ref T.c_NoNumber) (fun z h => h) (cmx_kit T 17 (by decide)) (q_var 0)) qa_nil))) qa_nil))))))
      (z_seq (z_set 1 (x_of (q_op (fun _ => ar_add) (q_lift (fun _ => (ae_var 1))) (q_lst (qa_cons (q_tup (qa_cons (q_lift (fun _ => (ae_str (Str.ofString "thing")))) (qa_cons (q_isX (n := 25) (b := fun k => decide (k = 18)) (cv := .ref T.c_NoThing) (u := .ref T.c_NoThing) (fun z h => h) (cmx_kit T 18 (by decide)) (q_var 0)) qa_nil))) (qa_cons (q_tup (qa_cons (q_lift (fun _ => (ae_str (Str.ofString "gone")))) (qa_cons (q_isX (n := 25) (b := fun k => decide (k = 19)) (cv := .ref T.c_Gone) (u := .ref T.c_Gone) (fun z h => h) (cmx_kit T 19 (by decide)) (q_var 0)) qa_nil))) qa_nil))))))
      (z_seq (z_set 1 (x_of (q_op (fun _ => ar_add) (q_lift (fun _ => (ae_var 1))) (q_lst (qa_cons (q_tup (qa_cons (q_lift (fun _ => (ae_str (Str.ofString "answer")))) (qa_cons (q_isX (n := 25) (b := fun k => decide (k = 20)) (cv := .ref T.c_NoAnswer) (u := .ref T.c_NoAnswer) (fun z h => h) (cmx_kit T 20 (by decide)) (q_var 0)) qa_nil))) (qa_cons (q_tup (qa_cons (q_lift (fun _ => (ae_str (Str.ofString "day")))) (qa_cons (q_isX (n := 25) (b := fun k => decide (k = 21)) (cv := .ref T.c_NoDay) (u := .ref T.c_NoDay) (fun z h => h) (cmx_kit T 21 (by decide)) (q_var 0)) qa_nil))) qa_nil))))))
      (z_seq (z_set 1 (x_of (q_op (fun _ => ar_add) (q_lift (fun _ => (ae_var 1))) (q_lst (qa_cons (q_tup (qa_cons (q_lift (fun _ => (ae_str (Str.ofString "left")))) (qa_cons (q_isX (n := 25) (b := fun k => decide (k = 22)) (cv := .ref T.c_NothingLeft) (u := .ref T.c_NothingLeft) (fun z h => h) (cmx_kit T 22 (by decide)) (q_var 0)) qa_nil))) (qa_cons (q_tup (qa_cons (q_lift (fun _ => (ae_str (Str.ofString "row")))) (qa_cons (q_isX (n := 25) (b := fun k => decide (k = 23)) (cv := .ref T.c_NoRow) (u := .ref T.c_NoRow) (fun z h => h) (cmx_kit T 23 (by decide)) (q_var 0)) qa_nil))) qa_nil))))))
      (z_seq (z_set 2 (x_of (q_lift (fun _ => (ae_lc (vs := [3, 4]) (ai_list (ae_var 1)) (ag_tup (ags_cons (ag_name 3) (ags_cons (ag_name 4) ags_nil))) (go_tup (gos_cons (go_name (by decide)) (gos_cons (go_name (by decide)) gos_nil))) (at_B (ae_var 4)) (ae_var 3))))))
      (z_seq (z_if (xt_of (q_or (q_liftT (fun _ => (at_test (ae_op ar_ne (ae_cb ac_len (aa_cons (ae_var 2) aa_nil)) (ae_int 1))))) (q_not (q_B (q_isX (n := 25) (b := fun _ => true) (cv := .ty "ValueError") (u := .type "ValueError") (fun z h => h) (cmx_val T) (q_var 0))))))
      (z_ret (x_of (q_lift (fun _ => (ae_str (Str.ofString "other"))))))
      z_next)
      (z_ret (x_of (q_lift (fun _ => (ae_op ar_ix (ae_var 2) (ae_int 0)))))))))))))))))))) vc_law_word h
theorem ok_law_a_line (T : Tx K mg) : FnOk P w K mg base CX0 2 T.f_law_a_line T.fd_law_a_line ps_law_a_line (spT K ds_law_a_line) := by
  refine T.d_law_a_line.ok (k := 1) sc_law_a_line (fun vs H Q E h => spT_len len_law_a_line h) (fun cdv A outer s H vs Q E hr h => ?_)
  refine ⟨_, (pss_cons (ps_set (i := 1) sc_law_a_line.nd rfl (by first | exact Or.inl rfl | exact Or.inr rfl) (pe_call (ok_law_draw T) (hr.mono (by decide)) (by rfl) T.d_law_draw.m T.d_law_draw.kp T.d_law_draw.b .nil pass0 (pa_cons (pv 0) (pa_cons pe_int pa_nil))))
      (pss_cons (ps_if (pt_cmpR op_lt (pv 1) pe_int (nomark _))
      (pss_one (ps_ret (pe_ix (kIx K) (pe_lst (pa_cons pe_str (pa_cons pe_str (pa_cons pe_str (pa_cons pe_str (pa_cons pe_str pa_nil)))))) (pe_call (ok_law_draw T) (hr.mono (by decide)) (by rfl) T.d_law_draw.m T.d_law_draw.kp T.d_law_draw.b .nil pass0 (pa_cons (pv 0) (pa_cons pe_int pa_nil))) (fun _ _ => rfl))))
      pss_nil)
      (pss_cons (ps_set (i := 2) sc_law_a_line.nd rfl (by first | exact Or.inl rfl | exact Or.inr rfl) pe_str)
      (pss_one (ps_ret (kOrT K (pe_m1 PySem.F.slot_str_strip PySem.F.type_str_strip mt_stripChars (pe_m1 PySem.F.slot_str_join PySem.F.type_str_join (kJoin K) pe_str (pe_lc (own := [("k", 3)]) (g := (gName 3)) rfl sc_law_a_line.nd (pi_range1 (by rfl) T.b_range (pa_cons (pe_ix (kIx K) (pe_lst (pa_cons pe_int (pa_cons pe_int pa_nil))) (pe_op op_sub (pv 1) pe_int) (fun _ _ => rfl)) pa_nil)) (blkOk_by (own := [("k", 3)]) (N := N_law_a_line) (sc := defScope s_law_a_line) (by decide +kernel)) (fun _ _ _ _ _ => (pg_name (i := 3) sc_law_a_line.nd rfl (by first | exact Or.inl rfl | exact Or.inr rfl))) (fun _ _ _ _ _ => pts_nil) (fun _ _ _ _ _ => (pe_ix (kIx K) (pv 2) (pe_call (ok_law_draw T) (hr.mono (by decide)) (by rfl) T.d_law_draw.m T.d_law_draw.kp T.d_law_draw.b .nil pass0 (pa_cons (pv 0) (pa_cons pe_int pa_nil))) (fun _ _ => rfl))))) pe_str) (pe_one pe_str))))))), ?_⟩
  exact body_tape (N := N_law_a_line) (a := a_law_a_line) (fun c => (as_seq (as_set 1 (ae_callT (i := 0) (aa_cons (ae_int 4) aa_nil)))
      (as_seq (as_if (at_test (ae_op ar_I0b (ae_var 1) (ae_int 2)))
      (as_ret (ae_op ar_ix (ae_lst (aa_cons (ae_str (Str.ofString "a")) (aa_cons (ae_str (Str.ofString "b")) (aa_cons (ae_str (Str.ofString "ab")) (aa_cons (ae_str (Str.ofString "a b")) (aa_cons (ae_str (Str.ofString "b a")) aa_nil)))))) (ae_callT (i := 0) (aa_cons (ae_int 5) aa_nil))))
      as_next)
      (as_seq (as_set 2 (ae_str (Str.ofString "abcdefghijklmnopqrstuvwxyz ")))
      (as_ret (ae_orT (ae_m1 am_strip (ae_m1 am_join (ae_str (Str.ofString "")) (ae_lc (vs := [3]) (ai_rng1 (aa_cons (ae_op ar_ix (ae_lst (aa_cons (ae_int 30) (aa_cons (ae_int 9) aa_nil))) (ae_op ar_I0i (ae_var 1) (ae_int 2))) aa_nil)) (ag_name 3) (go_name (by decide)) at_yes (ae_op ar_ix (ae_var 2) (ae_callT (i := 0) (aa_cons (ae_int 27) aa_nil))))) (ae_str (Str.ofString " "))) (ae_str (Str.ofString "z")))))))) vc_law_a_line h
theorem ok_law_an_edit (T : Tx K mg) : FnOk P w K mg base CX0 3 T.f_law_an_edit T.fd_law_an_edit ps_law_an_edit (spT K ds_law_an_edit) := by
  refine T.d_law_an_edit.ok (k := 2) sc_law_an_edit (fun vs H Q E h => spT_len len_law_an_edit h) (fun cdv A outer s H vs Q E hr h => ?_)
  refine ⟨_, (pss_cons (ps_if (pt_not (pt_val (pv 3)))
      (pss_one (ps_ret (pe_tup (pa_cons pe_str (pa_cons (pv 2) (pa_cons (pe_callTy (kTuple K) (by rfl) T.b_tuple (by decide +kernel) (pa_cons (pe_lc (own := [("j", 4)]) (g := (gName 4)) rfl sc_law_an_edit.nd (pi_range1 (by rfl) T.b_range (pa_cons (pe_op (kAdd K) pe_int (pe_call (ok_law_draw T) (hr.mono (by decide)) (by rfl) T.d_law_draw.m T.d_law_draw.kp T.d_law_draw.b .nil pass0 (pa_cons (pv 0) (pa_cons (pe_ix (kIx K) (pe_lst (pa_cons pe_int (pa_cons pe_int pa_nil))) (pe_call (ok_law_draw T) (hr.mono (by decide)) (by rfl) T.d_law_draw.m T.d_law_draw.kp T.d_law_draw.b .nil pass0 (pa_cons (pv 0) (pa_cons pe_int pa_nil))) (fun _ _ => rfl)) pa_nil)))) pa_nil)) (blkOk_by (own := [("j", 4)]) (N := N_law_an_edit) (sc := defScope s_law_an_edit) (by decide +kernel)) (fun _ _ _ _ _ => (pg_name (i := 4) sc_law_an_edit.nd rfl (by first | exact Or.inl rfl | exact Or.inr rfl))) (fun _ _ _ _ _ => pts_nil) (fun _ _ _ _ _ => (pe_call (ok_law_a_line T) (hr.mono (by decide)) (by rfl) T.d_law_a_line.m T.d_law_a_line.kp T.d_law_a_line.b .nil pass0 (pa_cons (pv 0) pa_nil)))) pa_nil)) pa_nil))))))
      pss_nil)
      (pss_one (ps_ret (pe_ix (kIx K) (pe_lst (pa_cons (pe_tup (pa_cons pe_str (pa_cons (pv 2) pa_nil))) (pa_cons (pe_tup (pa_cons pe_str (pa_cons (pv 2) (pa_cons (pe_call (ok_law_a_line T) (hr.mono (by decide)) (by rfl) T.d_law_a_line.m T.d_law_a_line.kp T.d_law_a_line.b .nil pass0 (pa_cons (pv 0) pa_nil)) pa_nil)))) pa_nil))) (pe_call (ok_law_draw T) (hr.mono (by decide)) (by rfl) T.d_law_draw.m T.d_law_draw.kp T.d_law_draw.b .nil pass0 (pa_cons (pv 0) (pa_cons pe_int pa_nil))) (fun _ _ => rfl))))), ?_⟩
  exact body_tape (N := N_law_an_edit) (a := a_law_an_edit) (fun c => (as_seq (as_if (at_not (at_B (ae_var 3)))
      (as_ret (ae_tup (aa_cons (ae_str (Str.ofString "put")) (aa_cons (ae_var 2) (aa_cons (ae_cb ac_tuple (aa_cons (ae_lc (vs := [4]) (ai_rng1 (aa_cons (ae_op ar_add (ae_int 1) (ae_callT (i := 0) (aa_cons (ae_op ar_ix (ae_lst (aa_cons (ae_int 2) (aa_cons (ae_int 5) aa_nil))) (ae_callT (i := 0) (aa_cons (ae_int 2) aa_nil))) aa_nil))) aa_nil)) (ag_name 4) (go_name (by decide)) at_yes (ae_callT (i := 0) aa_nil)) aa_nil)) aa_nil)))))
      as_next)
      (as_ret (ae_op ar_ix (ae_lst (aa_cons (ae_tup (aa_cons (ae_str (Str.ofString "drop")) (aa_cons (ae_var 2) aa_nil))) (aa_cons (ae_tup (aa_cons (ae_str (Str.ofString "turn")) (aa_cons (ae_var 2) (aa_cons (ae_callT (i := 0) aa_nil) aa_nil)))) aa_nil))) (ae_callT (i := 0) (aa_cons (ae_int 2) aa_nil)))))) vc_law_an_edit h
theorem ok_law_a_draft (T : Tx K mg) : FnOk P w K mg base CX0 4 T.f_law_a_draft T.fd_law_a_draft ps_law_a_draft (spT K ds_law_a_draft) := by
  refine T.d_law_a_draft.ok (k := 3) sc_law_a_draft (fun vs H Q E h => spT_len len_law_a_draft h) (fun cdv A outer s H vs Q E hr h => ?_)
  refine ⟨_, (pss_cons (ps_set (i := 3) sc_law_a_draft.nd rfl (by first | exact Or.inl rfl | exact Or.inr rfl) (pe_lst pa_nil))
      (pss_cons (ps_for PassesOwn.never rfl (pi_range1 (by rfl) T.b_range (pa_cons (pe_op (kAdd K) (pv 1) pe_int) pa_nil)) (pg_name (i := 4) sc_law_a_draft.nd rfl (by first | exact Or.inl rfl | exact Or.inr rfl))
      (pss_one (ps_for PassesOwn.never rfl (pi_tup (pe_tup (pa_cons pe_bl (pa_cons pe_bl pa_nil)))) (pg_name (i := 5) sc_law_a_draft.nd rfl (by first | exact Or.inl rfl | exact Or.inr rfl))
      (pss_one (ps_if (PW.pt (pw_and (pt_cmpR op_lt (pe_callB (kLen K) (by rfl) T.b_len (by decide +kernel) (pa_cons (pv 3) pa_nil)) pe_int (nomark _)) (pw_and (pt_cmpR (kEq K hr.units) (pe_call (ok_law_draw T) (hr.mono (by decide)) (by rfl) T.d_law_draw.m T.d_law_draw.kp T.d_law_draw.b .nil pass0 (pa_cons (pv 0) (pa_cons (pv 2) pa_nil))) pe_int (nomark _)) (pw_and1 (PW.pt (pw_or (pt_cmpR op_lt (pv 4) (pv 1) (nomark _)) (pw_or1 (pt_not (pt_val (pv 5))))))))))
      (pss_one (ps_expr (pe_bm PySem.F.plainAttrs_list PySem.F.slot_list_append PySem.F.type_list_append mt_append (pv 3) (pa_cons (pe_call (ok_law_an_edit T) (hr.mono (by decide)) (by rfl) T.d_law_an_edit.m T.d_law_an_edit.kp T.d_law_an_edit.b .nil pass0 (pa_cons (pv 0) (pa_cons (pv 1) (pa_cons (pv 4) (pa_cons (pv 5) pa_nil))))) pa_nil))))
      pss_nil)))))
      (pss_one (ps_ret (pe_callTy (kTuple K) (by rfl) T.b_tuple (by decide +kernel) (pa_cons (pv 3) pa_nil)))))), ?_⟩
  exact body_tape (N := N_law_a_draft) (a := a_law_a_draft) (fun c => (as_seq (as_setOwnLst 3 aa_nil)
      (as_seq (as_for (ai_rng1 (aa_cons (ae_op ar_add (ae_var 1) (ae_int 1)) aa_nil)) (ag_name 4)
      (as_for (ai_tup (ae_tup (aa_cons (ae_bl false) (aa_cons (ae_bl true) aa_nil)))) (ag_name 5)
      (as_if (at_and (at_test (ae_op ar_I0b (ae_lenV 3) (ae_int 20))) (at_and (at_test (ae_op ar_eq (ae_callT (i := 0) (aa_cons (ae_var 2) aa_nil)) (ae_int 0))) (at_or (at_test (ae_op ar_I0b (ae_var 4) (ae_var 1))) (at_not (at_B (ae_var 5))))))
      (as_append 3 (ae_callT (i := 0) (aa_cons (ae_var 1) (aa_cons (ae_var 4) (aa_cons (ae_var 5) aa_nil)))))
      as_next)))
      (as_freeze 3 (as_ret (ae_cb ac_tuple (aa_cons (ae_var 3) aa_nil))))))) vc_law_a_draft h
theorem ok_law_any_step (T : Tx K mg) {k : Nat} (hk : 3 ≤ k) (n : Nat) (Gp : FnOk P w K mg base CX0 k T.f_law_any T.fd_law_any ps_law_any (spT K (prev_law_any n))) : FnOk P w K mg base CX0 (k + 1) T.f_law_any T.fd_law_any ps_law_any (spT K (ds_law_any n)) := by
  refine T.d_law_any.ok (k := k) sc_law_any (fun vs H Q E h => spT_len (len_law_any n) h) (fun cdv A outer s H vs Q E hr h => ?_)
  refine ⟨_, (pss_cons (ps_set (i := 2) sc_law_any.nd rfl (by first | exact Or.inl rfl | exact Or.inr rfl) (pe_call (ok_law_draw T) (hr.mono (by omega)) (by rfl) T.d_law_draw.m T.d_law_draw.kp T.d_law_draw.b .nil pass0 (pa_cons (pv 0) (pa_cons pe_int pa_nil))))
      (pss_cons (ps_if (PW.pt (pw_and (pt_cmpR op_lt (pv 2) pe_int (nomark _)) (pw_and1 (pt_cmpR op_gt (pv 1) pe_int (nomark _)))))
      (pss_cons (ps_setLc (i := 3) (own := [("k", 4)]) (g := (gName 4)) rfl sc_law_any.nd rfl rfl (sw_true rfl rfl rfl (by decide +kernel)) (pi_range1 (by rfl) T.b_range (pa_cons (pe_call (ok_law_draw T) (hr.mono (by omega)) (by rfl) T.d_law_draw.m T.d_law_draw.kp T.d_law_draw.b .nil pass0 (pa_cons (pv 0) (pa_cons pe_int pa_nil))) pa_nil)) (blkOk_by (own := [("k", 4)]) (N := N_law_any) (sc := defScope s_law_any) (by decide +kernel)) (fun _ _ _ _ _ => (pg_name (i := 4) sc_law_any.nd rfl (by first | exact Or.inl rfl | exact Or.inr rfl))) (fun _ _ _ _ _ => pts_nil) (fun _ _ _ _ _ => (pe_call Gp hr (by rfl) T.d_law_any.m T.d_law_any.kp T.d_law_any.b .nil pass0 (pa_cons (pv 0) (pa_cons (pe_op op_sub (pv 1) pe_int) pa_nil)))))
      (pss_one (ps_ret (pe_ix (kIx K) (pe_lst (pa_cons (pv 3) (pa_cons (pe_callTy (kTuple K) (by rfl) T.b_tuple (by decide +kernel) (pa_cons (pv 3) pa_nil)) (pa_cons (pe_callTy (kTuple K) (by rfl) T.b_tuple (by decide +kernel) (pa_cons (pv 3) pa_nil)) (pa_cons (pe_callTy (kTuple K) (by rfl) T.b_tuple (by decide +kernel) (pa_cons (pv 3) pa_nil)) pa_nil))))) (pv 2) (fun _ _ => rfl)))))
      pss_nil)
      (pss_cons (ps_if (pt_cmpR op_lt (pv 2) pe_int (nomark _))
      (pss_one (ps_ret (pe_ix (kIx K) (pe_lst (pa_cons (pe_op op_sub (pe_call (ok_law_draw T) (hr.mono (by omega)) (by rfl) T.d_law_draw.m T.d_law_draw.kp T.d_law_draw.b .nil pass0 (pa_cons (pv 0) (pa_cons pe_int pa_nil))) pe_int) (pa_cons (pe_call (ok_law_draw T) (hr.mono (by omega)) (by rfl) T.d_law_draw.m T.d_law_draw.kp T.d_law_draw.b .nil pass0 (pa_cons (pv 0) (pa_cons (pe_op op_pow pe_int pe_int) pa_nil))) (pa_cons pe_int pa_nil)))) (pe_callB (call_max2 rfl) (by rfl) T.b_max (by decide +kernel) (pa_cons pe_int (pa_cons (pe_op op_sub (pv 2) pe_int) pa_nil))) (fun _ _ => rfl))))
      pss_nil)
      (pss_cons (ps_set (i := 3) sc_law_any.nd rfl (by first | exact Or.inl rfl | exact Or.inr rfl) (pe_lst (pa_cons pe_str (pa_cons pe_str (pa_cons pe_str (pa_cons pe_str (pa_cons pe_str (pa_cons pe_str (pa_cons pe_str (pa_cons pe_str (pa_cons pe_str (pa_cons pe_str (pa_cons pe_str (pa_cons pe_str pa_nil))))))))))))))
      (pss_one (ps_ret (pe_ix (kIx K) (pe_lst (pa_cons pe_bl (pa_cons pe_bl (pa_cons pe_non (pa_cons (pe_ix (kIx K) (pv 3) (pe_call (ok_law_draw T) (hr.mono (by omega)) (by rfl) T.d_law_draw.m T.d_law_draw.kp T.d_law_draw.b .nil pass0 (pa_cons (pv 0) (pa_cons pe_int pa_nil))) (fun _ _ => rfl)) (pa_cons (pe_call (ok_law_a_line T) (hr.mono (by omega)) (by rfl) T.d_law_a_line.m T.d_law_a_line.kp T.d_law_a_line.b .nil pass0 (pa_cons (pv 0) pa_nil)) pa_nil)))))) (pe_op op_sub (pv 2) pe_int) (fun _ _ => rfl)))))))), ?_⟩
  exact body_tape (N := N_law_any) (a := a_law_any (prev_law_any n)) (fun c => (as_seq (as_set 2 (ae_callT (i := 0) (aa_cons (ae_int 12) aa_nil)))
      (as_seq (as_if (at_and (at_test (ae_op ar_I0b (ae_var 2) (ae_int 4))) (at_test (ae_op ar_I0b (ae_var 1) (ae_int 0))))
      (as_seq (as_set 3 (ae_lc (vs := [4]) (ai_rng1 (aa_cons (ae_callT (i := 0) (aa_cons (ae_int 4) aa_nil)) aa_nil)) (ag_name 4) (go_name (by decide)) at_yes (ae_callT (i := 0) (aa_cons (ae_op ar_I0i (ae_var 1) (ae_int 1)) aa_nil))))
      (as_ret (ae_op ar_ix (ae_lst (aa_cons (ae_var 3) (aa_cons (ae_cb ac_tuple (aa_cons (ae_var 3) aa_nil)) (aa_cons (ae_cb ac_tuple (aa_cons (ae_var 3) aa_nil)) (aa_cons (ae_cb ac_tuple (aa_cons (ae_var 3) aa_nil)) aa_nil))))) (ae_var 2))))
      as_next)
      (as_seq (as_if (at_test (ae_op ar_I0b (ae_var 2) (ae_int 7)))
      (as_ret (ae_op ar_ix (ae_lst (aa_cons (ae_op ar_I0i (ae_callT (i := 0) (aa_cons (ae_int 9) aa_nil)) (ae_int 2)) (aa_cons (ae_callT (i := 0) (aa_cons (ae_op ar_I (ae_int 10) (ae_int 30)) aa_nil)) (aa_cons (ae_int 0) aa_nil)))) (ae_cb ac_max2 (aa_cons (ae_int 0) (aa_cons (ae_op ar_I0i (ae_var 2) (ae_int 4)) aa_nil)))))
      as_next)
      (as_seq (as_set 3 (ae_lst (aa_cons (ae_str (Str.ofString "")) (aa_cons (ae_str (Str.ofString " ")) (aa_cons (ae_str (Str.ofString "a")) (aa_cons (ae_str (Str.ofString "put")) (aa_cons (ae_str (Str.ofString "draft")) (aa_cons (ae_str (Str.ofString "A")) (aa_cons (ae_str (Str.ofString "a\nb")) (aa_cons (ae_str (Str.ofString "turn")) (aa_cons (ae_str (Str.ofString "ab")) (aa_cons (ae_str (Str.ofString "-")) (aa_cons (ae_str (Str.ofString "drop")) (aa_cons (ae_str (Str.ofString "a|b")) aa_nil))))))))))))))
      (as_ret (ae_op ar_ix (ae_lst (aa_cons (ae_bl true) (aa_cons (ae_bl false) (aa_cons ae_non (aa_cons (ae_op ar_ix (ae_var 3) (ae_callT (i := 0) (aa_cons (ae_int 12) aa_nil))) (aa_cons (ae_callT (i := 0) aa_nil) aa_nil)))))) (ae_op ar_I0i (ae_var 2) (ae_int 7))))))))) (vc_law_any n) h
theorem ok_law_any (T : Tx K mg) : ∀ n : Nat, FnOk P w K mg base CX0 (4 + n) T.f_law_any T.fd_law_any ps_law_any (spT K (ds_law_any n))
  | 0 => ok_law_any_step T (Nat.le_refl 3) 0 spT_never
  | n + 1 => ok_law_any_step T (Nat.le_trans (by decide) (Nat.le_add_right _ n)) (n + 1) (ok_law_any T n)
theorem ok_law_is_line (T : Tx K mg) : FnOk P w K mg base CX0 1 T.f_law_is_line T.fd_law_is_line ps_law_is_line (spP K ds_law_is_line) := by
  refine T.d_law_is_line.ok (k := 0) sc_law_is_line (fun vs H Q E h => spP_len len_law_is_line h) (fun cdv A outer s H vs Q E hr h => ?_)
  refine ⟨_, (pss_cons (ps_if (PW.pt (pw_or (pt_not (pt_val (pe_callB (kIsi K) (by rfl) T.b_isinstance (by decide +kernel) (pa_cons (pv 0) (pa_cons (pe_bltn (v := .ty "str") (by rfl) T.b_str (by decide +kernel) rfl) pa_nil))))) (pw_or (pt_not (pt_chain op_lt op_lt pe_int (pe_callB (kLen K) (by rfl) T.b_len (by decide +kernel) (pa_cons (pv 0) pa_nil)) pe_int)) (pw_or1 (pt_cmpR (kNe K hr.units) (pe_m1 PySem.F.slot_str_strip PySem.F.type_str_strip mt_stripChars (pv 0) pe_str) (pv 0) (nomark _))))))
      (pss_one (ps_ret pe_bl))
      pss_nil)
      (pss_one (ps_ret (pe_cmpR (kEq K hr.units) (pe_lc (own := [("sign", 1)]) (g := (gName 1)) rfl sc_law_is_line.nd (pi_str (pv 0)) (blkOk_by (own := [("sign", 1)]) (N := N_law_is_line) (sc := defScope s_law_is_line) (by decide +kernel)) (fun _ _ _ _ _ => (pg_name (i := 1) sc_law_is_line.nd rfl (by first | exact Or.inl rfl | exact Or.inr rfl))) (fun _ _ _ _ _ => (pts_one (pt_cmpR op_notIn_sign (pv 1) pe_str rfl))) (fun _ _ _ _ _ => (pv 1))) (pe_lst pa_nil) (nomark _))))), ?_⟩
  exact body_pure (N := N_law_is_line) (a := a_law_is_line) (fun c => (as_seq (as_if (at_or (at_not (at_B (ae_isi (T := "str") (ae_var 0)))) (at_or (at_not (at_test (ae_chain ar_I0b ar_I0b (ae_int 0) (ae_cb ac_len (aa_cons (ae_var 0) aa_nil)) (ae_int 31)))) (at_test (ae_op ar_ne (ae_m1 am_strip (ae_var 0) (ae_str (Str.ofString " "))) (ae_var 0)))))
      (as_ret (ae_bl false))
      as_next)
      (as_ret (ae_op ar_eq (ae_lc (vs := [1]) (ai_str (ae_var 0)) (ag_name 1) (go_name (by decide)) (at_test (ae_op ar_notInS (ae_var 1) (ae_str (Str.ofString "abcdefghijklmnopqrstuvwxyz ")))) (ae_var 1)) (ae_lst aa_nil))))) vc_law_is_line h
theorem ok_law_is_body (T : Tx K mg) : FnOk P w K mg base CX0 2 T.f_law_is_body T.fd_law_is_body ps_law_is_body (spP K ds_law_is_body) := by
  refine T.d_law_is_body.ok (k := 1) sc_law_is_body (fun vs H Q E h => spP_len len_law_is_body h) (fun cdv A outer s H vs Q E hr h => ?_)
  refine ⟨_, (pss_one (ps_ret (pe_and (pe_callB (kIsi K) (by rfl) T.b_isinstance (by decide +kernel) (pa_cons (pv 0) (pa_cons (pe_bltn (v := .ty "tuple") (by rfl) T.b_tuple (by decide +kernel) rfl) pa_nil))) (pe_and (pe_cmpR op_lt (pe_callB (kLen K) (by rfl) T.b_len (by decide +kernel) (pa_cons (pv 0) pa_nil)) pe_int (nomark _)) (pe_one (pe_cmpR (kEq K hr.units) (pe_lc (own := [("one", 1)]) (g := (gName 1)) rfl sc_law_is_body.nd (pi_tup (pv 0)) (blkOk_by (own := [("one", 1)]) (N := N_law_is_body) (sc := defScope s_law_is_body) (by decide +kernel)) (fun _ _ _ _ _ => (pg_name (i := 1) sc_law_is_body.nd rfl (by first | exact Or.inl rfl | exact Or.inr rfl))) (fun _ _ _ _ _ => (pts_one (pt_not (pt_val (pe_call (ok_law_is_line T) (hr.mono (by decide)) (by rfl) T.d_law_is_line.m T.d_law_is_line.kp T.d_law_is_line.b .nil pass0 (pa_cons (pv 1) pa_nil)))))) (fun _ _ _ _ _ => (pv 1))) (pe_lst pa_nil) (nomark _))))))), ?_⟩
  exact body_pure (N := N_law_is_body) (a := a_law_is_body) (fun c => (as_ret (ae_andV (ae_isi (T := "tuple") (ae_var 0)) (ae_andV (ae_op ar_I0b (ae_cb ac_len (aa_cons (ae_var 0) aa_nil)) (ae_int 61)) (ae_op ar_eq (ae_lc (vs := [1]) (ai_tup (ae_var 0)) (ag_name 1) (go_name (by decide)) (at_not (at_B (ae_callP0 (aa_cons (ae_var 1) aa_nil)))) (ae_var 1)) (ae_lst aa_nil)))))) vc_law_is_body h
theorem ok_law_is_edit (T : Tx K mg) : FnOk P w K mg base CX0 3 T.f_law_is_edit T.fd_law_is_edit ps_law_is_edit (spP K ds_law_is_edit) := by
  refine T.d_law_is_edit.ok (k := 2) sc_law_is_edit (fun vs H Q E h => spP_len len_law_is_edit h) (fun cdv A outer s H vs Q E hr h => ?_)
  refine ⟨_, (pss_cons (ps_if (PW.pt (pw_or (pt_not (pt_val (pe_callB (kIsi K) (by rfl) T.b_isinstance (by decide +kernel) (pa_cons (pv 0) (pa_cons (pe_bltn (v := .ty "tuple") (by rfl) T.b_tuple (by decide +kernel) rfl) pa_nil))))) (pw_or (pt_cmpR (kNotIn K) (pe_callB (kLen K) (by rfl) T.b_len (by decide +kernel) (pa_cons (pv 0) pa_nil)) (pe_tup (pa_cons pe_int (pa_cons pe_int pa_nil))) rfl) (pw_or1 (pt_not (pt_val (pe_call (ok_law_whole T) (hr.mono (by decide)) (by rfl) T.d_law_whole.m T.d_law_whole.kp T.d_law_whole.b .nil pass0 (pa_cons (pe_ix (kIx K) (pv 0) pe_int (fun _ _ => rfl)) pa_nil))))))))
      (pss_one (ps_ret pe_bl))
      pss_nil)
      (pss_cons (ps_if (PW.pt (pw_and (pt_cmpR (kEq K hr.units) (pe_ix (kIx K) (pv 0) pe_int (fun _ _ => rfl)) pe_str (nomark _)) (pw_and1 (pt_val (pe_callB (kIsi K) (by rfl) T.b_isinstance (by decide +kernel) (pa_cons (pe_ix (kIx K) (pv 0) pe_int (fun _ _ => rfl)) (pa_cons (pe_bltn (v := .ty "str") (by rfl) T.b_str (by decide +kernel) rfl) pa_nil)))))))
      (pss_one (ps_ret (pe_and (pe_cmpR (kEq K hr.units) (pe_callB (kLen K) (by rfl) T.b_len (by decide +kernel) (pa_cons (pv 0) pa_nil)) pe_int (nomark _)) (pe_and (pe_chain op_le op_le pe_int (pe_ix (kIx K) (pv 0) pe_int (fun _ _ => rfl)) (pv 1)) (pe_and (pe_call (ok_law_is_body T) (hr.mono (by decide)) (by rfl) T.d_law_is_body.m T.d_law_is_body.kp T.d_law_is_body.b .nil pass0 (pa_cons (pe_ix (kIx K) (pv 0) pe_int (fun _ _ => rfl)) pa_nil)) (pe_one (pe_chain op_lt op_lt pe_int (pe_callB (kLen K) (by rfl) T.b_len (by decide +kernel) (pa_cons (pe_ix (kIx K) (pv 0) pe_int (fun _ _ => rfl)) pa_nil)) pe_int)))))))
      pss_nil)
      (pss_cons (ps_if (pt_not (pt_chain op_le op_lt pe_int (pe_ix (kIx K) (pv 0) pe_int (fun _ _ => rfl)) (pv 1)))
      (pss_one (ps_ret pe_bl))
      pss_nil)
      (pss_one (ps_ret (pe_or (pe_and (pe_cmpR (kEq K hr.units) (pe_ix (kIx K) (pv 0) pe_int (fun _ _ => rfl)) pe_str (nomark _)) (pe_one (pe_cmpR (kEq K hr.units) (pe_callB (kLen K) (by rfl) T.b_len (by decide +kernel) (pa_cons (pv 0) pa_nil)) pe_int (nomark _)))) (pe_one (pe_and (pe_cmpR (kEq K hr.units) (pe_ix (kIx K) (pv 0) pe_int (fun _ _ => rfl)) pe_str (nomark _)) (pe_and (pe_cmpR (kEq K hr.units) (pe_callB (kLen K) (by rfl) T.b_len (by decide +kernel) (pa_cons (pv 0) pa_nil)) pe_int (nomark _)) (pe_one (pe_call (ok_law_is_line T) (hr.mono (by decide)) (by rfl) T.d_law_is_line.m T.d_law_is_line.kp T.d_law_is_line.b .nil pass0 (pa_cons (pe_ix (kIx K) (pv 0) pe_int (fun _ _ => rfl)) pa_nil)))))))))))), ?_⟩
  exact body_pure (N := N_law_is_edit) (a := a_law_is_edit) (fun c => (as_seq (as_if (at_or (at_not (at_B (ae_isi (T := "tuple") (ae_var 0)))) (at_or (at_test (ae_op ar_notIn (ae_cb ac_len (aa_cons (ae_var 0) aa_nil)) (ae_tup (aa_cons (ae_int 2) (aa_cons (ae_int 3) aa_nil))))) (at_not (at_B (ae_callP0 (aa_cons (ae_op ar_ix (ae_var 0) (ae_int 1)) aa_nil))))))
      (as_ret (ae_bl false))
      as_next)
      (as_seq (as_if (at_and (at_test (ae_op ar_eq (ae_op ar_ix (ae_var 0) (ae_int 0)) (ae_str (Str.ofString "put")))) (at_B (ae_isi (T := "str") (ae_op ar_ix (ae_var 0) (ae_int 0)))))
      (as_ret (ae_andV (ae_op ar_eq (ae_cb ac_len (aa_cons (ae_var 0) aa_nil)) (ae_int 3)) (ae_andV (ae_chain ar_I0b ar_I0b (ae_int 0) (ae_op ar_ix (ae_var 0) (ae_int 1)) (ae_var 1)) (ae_andV (ae_callP0 (aa_cons (ae_op ar_ix (ae_var 0) (ae_int 2)) aa_nil)) (ae_chain ar_I0b ar_I0b (ae_int 0) (ae_cb ac_len (aa_cons (ae_op ar_ix (ae_var 0) (ae_int 2)) aa_nil)) (ae_int 6))))))
      as_next)
      (as_seq (as_if (at_not (at_test (ae_chain ar_I0b ar_I0b (ae_int 0) (ae_op ar_ix (ae_var 0) (ae_int 1)) (ae_var 1))))
      (as_ret (ae_bl false))
      as_next)
      (as_ret (ae_orV (ae_andV (ae_op ar_eq (ae_op ar_ix (ae_var 0) (ae_int 0)) (ae_str (Str.ofString "drop"))) (ae_op ar_eq (ae_cb ac_len (aa_cons (ae_var 0) aa_nil)) (ae_int 2))) (ae_andV (ae_op ar_eq (ae_op ar_ix (ae_var 0) (ae_int 0)) (ae_str (Str.ofString "turn"))) (ae_andV (ae_op ar_eq (ae_cb ac_len (aa_cons (ae_var 0) aa_nil)) (ae_int 3)) (ae_callP0 (aa_cons (ae_op ar_ix (ae_var 0) (ae_int 2)) aa_nil)))))))))) vc_law_is_edit h
theorem ok_law_is_draft (T : Tx K mg) : FnOk P w K mg base CX0 4 T.f_law_is_draft T.fd_law_is_draft ps_law_is_draft (spP K ds_law_is_draft) := by
  refine T.d_law_is_draft.ok (k := 3) sc_law_is_draft (fun vs H Q E h => spP_len len_law_is_draft h) (fun cdv A outer s H vs Q E hr h => ?_)
  refine ⟨_, (pss_cons (ps_if (PW.pt (pw_or (pt_not (pt_val (pe_callB (kIsi K) (by rfl) T.b_isinstance (by decide +kernel) (pa_cons (pv 0) (pa_cons (pe_bltn (v := .ty "tuple") (by rfl) T.b_tuple (by decide +kernel) rfl) pa_nil))))) (pw_or (pt_cmpR op_gt (pe_callB (kLen K) (by rfl) T.b_len (by decide +kernel) (pa_cons (pv 0) pa_nil)) pe_int (nomark _)) (pw_or1 (pt_cmpR (kNe K hr.units) (pe_lc (own := [("one", 2)]) (g := (gName 2)) rfl sc_law_is_draft.nd (pi_tup (pv 0)) (blkOk_by (own := [("one", 2)]) (N := N_law_is_draft) (sc := defScope s_law_is_draft) (by decide +kernel)) (fun _ _ _ _ _ => (pg_name (i := 2) sc_law_is_draft.nd rfl (by first | exact Or.inl rfl | exact Or.inr rfl))) (fun _ _ _ _ _ => (pts_one (pt_not (pt_val (pe_call (ok_law_is_edit T) (hr.mono (by decide)) (by rfl) T.d_law_is_edit.m T.d_law_is_edit.kp T.d_law_is_edit.b .nil pass0 (pa_cons (pv 2) (pa_cons (pv 1) pa_nil))))))) (fun _ _ _ _ _ => (pv 2))) (pe_lst pa_nil) (nomark _))))))
      (pss_one (ps_ret pe_bl))
      pss_nil)
      (pss_cons (ps_setLc (i := 3) (own := [("edit", 4)]) (g := (gName 4)) rfl sc_law_is_draft.nd rfl rfl (sw_true rfl rfl rfl (by decide +kernel)) (pi_tup (pv 0)) (blkOk_by (own := [("edit", 4)]) (N := N_law_is_draft) (sc := defScope s_law_is_draft) (by decide +kernel)) (fun _ _ _ _ _ => (pg_name (i := 4) sc_law_is_draft.nd rfl (by first | exact Or.inl rfl | exact Or.inr rfl))) (fun _ _ _ _ _ => pts_nil) (fun _ _ _ _ _ => (pe_op (kAdd K) (pe_op (kMul K) pe_int (pe_ix (kIx K) (pv 4) pe_int (fun _ _ => rfl))) (pe_callTy call_int1 (by rfl) T.b_int (by decide +kernel) (pa_cons (pe_cmpR (kNe K hr.units) (pe_ix (kIx K) (pv 4) pe_int (fun _ _ => rfl)) pe_str (nomark _)) pa_nil)))))
      (pss_one (ps_ret (pe_cmpR (kEq K hr.units) (pe_callB (cr_sortedSet rfl) (by rfl) T.b_sorted (by decide +kernel) (pa_cons (pe_callTy (cr_setOfI rfl) (by rfl) T.b_set (by decide +kernel) (pa_cons (pv 3) pa_nil)) pa_nil)) (pv 3) (nomark _)))))), ?_⟩
  exact body_pure (N := N_law_is_draft) (a := a_law_is_draft) (fun c => (as_seq (as_if (at_or (at_not (at_B (ae_isi (T := "tuple") (ae_var 0)))) (at_or (at_test (ae_op ar_I0b (ae_cb ac_len (aa_cons (ae_var 0) aa_nil)) (ae_int 20))) (at_test (ae_op ar_ne (ae_lc (vs := [2]) (ai_tup (ae_var 0)) (ag_name 2) (go_name (by decide)) (at_not (at_B (ae_callP0 (aa_cons (ae_var 2) (aa_cons (ae_var 1) aa_nil))))) (ae_var 2)) (ae_lst aa_nil)))))
      (as_ret (ae_bl false))
      as_next)
      (as_seq (as_set 3 (ae_lc (vs := [4]) (ai_tup (ae_var 0)) (ag_name 4) (go_name (by decide)) at_yes (ae_op ar_add (ae_op ar_mulP (ae_int 2) (ae_op ar_ix (ae_var 4) (ae_int 1))) (ae_cb ac_int (aa_cons (ae_op ar_ne (ae_op ar_ix (ae_var 4) (ae_int 0)) (ae_str (Str.ofString "put"))) aa_nil)))))
      (as_ret (ae_op ar_eq (ae_sortSet (ae_var 3)) (ae_var 3)))))) vc_law_is_draft h
theorem ok_law_tried (T : Tx K mg) : FnOk P w K mg base CX0 6 T.f_law_tried T.fd_law_tried ps_law_tried (spP K ds_law_tried) := by
  refine T.d_law_tried.ok (k := 5) sc_law_tried (fun vs H Q E h => spP_len len_law_tried h) (fun cdv A outer s H vs Q E hr h => ?_)
  refine ⟨_, (pss_cons (ps_set (i := 1) sc_law_tried.nd rfl (by first | exact Or.inl rfl | exact Or.inr rfl) pe_non)
      (pss_cons (ps_set (i := 2) sc_law_tried.nd rfl (by first | exact Or.inl rfl | exact Or.inr rfl) pe_non)
      (pss_cons (ps_try_keep (i := 3) rfl rfl rfl sc_law_tried.nd rfl rfl ⟨by rfl, by decide, .inl T.g_FairError⟩ takesF (fun W pn xe tk po =>
      (pss_one (ps_set (i := 2) sc_law_tried.nd rfl (by first | exact Or.inl rfl | exact Or.inr rfl) (pe_callSD (ok_read_draft T) (hr.mono (by decide)) (by rfl) T.d_read_draft.m T.d_read_draft.kp T.d_read_draft.b .nil (fun σ => passAt tk σ) (pa_cons (pv 0) pa_nil))))) (fun _ _ _ _ _ _ _ => (pss_one (ps_set (i := 1) sc_law_tried.nd rfl (by first | exact Or.inl rfl | exact Or.inr rfl) (pv 3)))))
      (pss_one (ps_ret (pe_ifExp (pt_cmpR op_isN (pv 1) pe_non (nomark _)) (pv 2) (pe_call (ok_law_word T) (hr.mono (by decide)) (by rfl) T.d_law_word.m T.d_law_word.kp T.d_law_word.b .nil pass0 (pa_cons (pv 1) pa_nil)))))))), ?_⟩
  exact body_XP (cm := (cmT T)) (Nm := N_law_tried) (m := 0) (a := a_law_tried) (fun c hn hl hs => (z_seq (z_set 1 (x_of (q_lift (fun _ => ae_non))))
      (z_seq (z_set 2 (x_of (q_lift (fun _ => ae_non))))
      (z_seq (z_try (i := 3) (j := 1) (n := 25) (F := T.c_FairError) (cmx_all T) (by decide) (fun _ =>
      (z_set 2 (x_of (q_call (qa_cons (q_lift (fun _ => (ae_var 0))) qa_nil))))))
      (z_ret (x_of (q_if (q_test (q_isN (q_var 1))) (q_lift (fun _ => (ae_var 2))) (q_callN (qa_cons (q_var 1) qa_nil))))))))) vc_law_tried h
theorem ok_law_edit (T : Tx K mg) : FnOk P w K mg base CX0 1 T.f_law_edit T.fd_law_edit ps_law_edit (spP K ds_law_edit) := by
  refine T.d_law_edit.ok (k := 0) sc_law_edit (fun vs H Q E h => spP_len len_law_edit h) (fun cdv A outer s H vs Q E hr h => ?_)
  refine ⟨_, (pss_cons (ps_set (i := 1) sc_law_edit.nd rfl (by first | exact Or.inl rfl | exact Or.inr rfl) (pe_slice (kSl K) (pv 0) po_none (po_some (pe_callB (kMin K) (by rfl) T.b_min (by decide +kernel) (pa_cons (pe_op (kAdd K) (pe_lc (own := [("k", 2)]) (g := (gName 2)) rfl sc_law_edit.nd (pi_range1 (by rfl) T.b_range (pa_cons (pe_callB (kLen K) (by rfl) T.b_len (by decide +kernel) (pa_cons (pv 0) pa_nil)) pa_nil)) (blkOk_by (own := [("k", 2)]) (N := N_law_edit) (sc := defScope s_law_edit) (by decide +kernel)) (fun _ _ _ _ _ => (pg_name (i := 2) sc_law_edit.nd rfl (by first | exact Or.inl rfl | exact Or.inr rfl))) (fun _ _ _ _ _ => (pts_one (pt_cmpR op_notIn_sign (pe_ix (kIx K) (pv 0) (pv 2) (fun _ _ => rfl)) pe_str rfl))) (fun _ _ _ _ _ => (pv 2))) (pe_lst (pa_cons (pe_callB (kLen K) (by rfl) T.b_len (by decide +kernel) (pa_cons (pv 0) pa_nil)) pa_nil))) pa_nil)))))
      (pss_cons (ps_if (PW.pt (pw_or (pt_cmpR (kEq K hr.units) (pv 1) pe_str (nomark _)) (pw_or (pt_cmpR op_gt (pe_callB (kLen K) (by rfl) T.b_len (by decide +kernel) (pa_cons (pv 1) pa_nil)) pe_int (nomark _)) (pw_or1 (pt_cmpR (kNe K hr.units) (pe_callTy call_str_int (by rfl) T.b_str (by decide +kernel) (pa_cons (pe_callTy call_int_str (by rfl) T.b_int (by decide +kernel) (pa_cons (pv 1) pa_nil)) pa_nil)) (pv 1) (nomark _))))))
      (pss_one (ps_ret pe_non))
      pss_nil)
      (pss_cons (ps_set (i := 3) sc_law_edit.nd rfl (by first | exact Or.inl rfl | exact Or.inr rfl) (pe_slice (kSl K) (pv 0) (po_some (pe_callB (kLen K) (by rfl) T.b_len (by decide +kernel) (pa_cons (pv 1) pa_nil))) (po_some (pe_op (kAdd K) (pe_callB (kLen K) (by rfl) T.b_len (by decide +kernel) (pa_cons (pv 1) pa_nil)) pe_int))))
      (pss_cons (ps_set (i := 4) sc_law_edit.nd rfl (by first | exact Or.inl rfl | exact Or.inr rfl) (pe_slice (kSl K) (pv 0) (po_some (pe_op (kAdd K) (pe_callB (kLen K) (by rfl) T.b_len (by decide +kernel) (pa_cons (pv 1) pa_nil)) pe_int)) po_none))
      (pss_cons (ps_if (pt_cmpR (kEq K hr.units) (pv 3) pe_str (nomark _))
      (pss_one (ps_ret (pe_ifExp (pt_cmpR (kEq K hr.units) (pv 4) pe_str (nomark _)) (pe_tup (pa_cons pe_str (pa_cons (pe_callTy call_int_str (by rfl) T.b_int (by decide +kernel) (pa_cons (pv 1) pa_nil)) pa_nil))) pe_non)))
      pss_nil)
      (pss_cons (ps_if (pt_cmpR (kEq K hr.units) (pv 3) pe_str (nomark _))
      (pss_one (ps_ret (pe_tup (pa_cons pe_str (pa_cons (pe_callTy call_int_str (by rfl) T.b_int (by decide +kernel) (pa_cons (pv 1) pa_nil)) (pa_cons (pv 4) pa_nil))))))
      pss_nil)
      (pss_cons (ps_set (i := 5) sc_law_edit.nd rfl (by first | exact Or.inl rfl | exact Or.inr rfl) (pe_callTy (kTuple K) (by rfl) T.b_tuple (by decide +kernel) (pa_cons (pe_slice (kSl K) (pe_m1 PySem.F.slot_str_split PySem.F.type_str_split mt_split (pv 4) pe_str) (po_some pe_int) po_none) pa_nil)))
      (pss_one (ps_ret (pe_ifExp (PW.pt (pw_and (pt_cmpR (kEq K hr.units) (pv 3) pe_str (nomark _)) (pw_and1 (pt_cmpR (kEq K hr.units) (pv 4) (pe_m1 PySem.F.slot_str_join PySem.F.type_str_join (kJoin K) pe_str (pe_lc (own := [("line", 6)]) (g := (gName 6)) rfl sc_law_edit.nd (pi_tup (pv 5)) (blkOk_by (own := [("line", 6)]) (N := N_law_edit) (sc := defScope s_law_edit) (by decide +kernel)) (fun _ _ _ _ _ => (pg_name (i := 6) sc_law_edit.nd rfl (by first | exact Or.inl rfl | exact Or.inr rfl))) (fun _ _ _ _ _ => pts_nil) (fun _ _ _ _ _ => (pe_op (kAdd K) pe_str (pv 6))))) (nomark _))))) (pe_tup (pa_cons pe_str (pa_cons (pe_callTy call_int_str (by rfl) T.b_int (by decide +kernel) (pa_cons (pv 1) pa_nil)) (pa_cons (pv 5) pa_nil)))) pe_non)))))))))), ?_⟩
  exact body_pure (N := N_law_edit) (a := a_law_edit) (fun c => (as_seq (as_set 1 (ae_sl (ae_var 0) ao_no (ao_some (ae_cb ac_minL (aa_cons (ae_op ar_add (ae_lc (vs := [2]) (ai_rng1 (aa_cons (ae_cb ac_len (aa_cons (ae_var 0) aa_nil)) aa_nil)) (ag_name 2) (go_name (by decide)) (at_test (ae_op ar_notInS (ae_op ar_ix (ae_var 0) (ae_var 2)) (ae_str (Str.ofString "0123456789")))) (ae_var 2)) (ae_lst (aa_cons (ae_cb ac_len (aa_cons (ae_var 0) aa_nil)) aa_nil))) aa_nil)))))
      (as_seq (as_if (at_or (at_test (ae_op ar_eq (ae_var 1) (ae_str (Str.ofString "")))) (at_or (at_test (ae_op ar_I0b (ae_cb ac_len (aa_cons (ae_var 1) aa_nil)) (ae_int 2))) (at_test (ae_op ar_ne (ae_cb ac_strI (aa_cons (ae_cb ac_intS (aa_cons (ae_var 1) aa_nil)) aa_nil)) (ae_var 1)))))
      (as_ret ae_non)
      as_next)
      (as_seq (as_set 3 (ae_sl (ae_var 0) (ao_some (ae_cb ac_len (aa_cons (ae_var 1) aa_nil))) (ao_some (ae_op ar_add (ae_cb ac_len (aa_cons (ae_var 1) aa_nil)) (ae_int 1)))))
      (as_seq (as_set 4 (ae_sl (ae_var 0) (ao_some (ae_op ar_add (ae_cb ac_len (aa_cons (ae_var 1) aa_nil)) (ae_int 1))) ao_no))
      (as_seq (as_if (at_test (ae_op ar_eq (ae_var 3) (ae_str (Str.ofString "-"))))
      (as_ret (ae_if (at_test (ae_op ar_eq (ae_var 4) (ae_str (Str.ofString "")))) (ae_tup (aa_cons (ae_str (Str.ofString "drop")) (aa_cons (ae_cb ac_intS (aa_cons (ae_var 1) aa_nil)) aa_nil))) ae_non))
      as_next)
      (as_seq (as_if (at_test (ae_op ar_eq (ae_var 3) (ae_str (Str.ofString "="))))
      (as_ret (ae_tup (aa_cons (ae_str (Str.ofString "turn")) (aa_cons (ae_cb ac_intS (aa_cons (ae_var 1) aa_nil)) (aa_cons (ae_var 4) aa_nil)))))
      as_next)
      (as_seq (as_set 5 (ae_cb ac_tuple (aa_cons (ae_sl (ae_m1 am_split (ae_var 4) (ae_str (Str.ofString "|"))) (ao_some (ae_int 1)) ao_no) aa_nil)))
      (as_ret (ae_if (at_and (at_test (ae_op ar_eq (ae_var 3) (ae_str (Str.ofString "+")))) (at_test (ae_op ar_eq (ae_var 4) (ae_m1 am_join (ae_str (Str.ofString "")) (ae_lc (vs := [6]) (ai_tup (ae_var 5)) (ag_name 6) (go_name (by decide)) at_yes (ae_op ar_add (ae_str (Str.ofString "|")) (ae_var 6))))))) (ae_tup (aa_cons (ae_str (Str.ofString "put")) (aa_cons (ae_cb ac_intS (aa_cons (ae_var 1) aa_nil)) (aa_cons (ae_var 5) aa_nil)))) ae_non)))))))))) vc_law_edit h
theorem ok_law_due (T : Tx K mg) : FnOk P w K mg base CX0 5 T.f_law_due T.fd_law_due ps_law_due (spP K ds_law_due) := by
  refine T.d_law_due.ok (k := 4) sc_law_due (fun vs H Q E h => spP_len len_law_due h) (fun cdv A outer s H vs Q E hr h => ?_)
  refine ⟨_, (pss_cons (ps_if (pt_not (pt_val (pe_callB (kIsi K) (by rfl) T.b_isinstance (by decide +kernel) (pa_cons (pv 0) (pa_cons (pe_bltn (v := .ty "str") (by rfl) T.b_str (by decide +kernel) rfl) pa_nil)))))
      (pss_one (ps_ret pe_str))
      pss_nil)
      (pss_cons (ps_set (i := 1) sc_law_due.nd rfl (by first | exact Or.inl rfl | exact Or.inr rfl) (pe_ifExp (pt_cmpR (kNe K hr.units) (pv 0) pe_str (nomark _)) (pe_lc (own := [("part", 2)]) (g := (gName 2)) rfl sc_law_due.nd (pi_list (pe_m1 PySem.F.slot_str_split PySem.F.type_str_split mt_split (pv 0) pe_str)) (blkOk_by (own := [("part", 2)]) (N := N_law_due) (sc := defScope s_law_due) (by decide +kernel)) (fun _ _ _ _ _ => (pg_name (i := 2) sc_law_due.nd rfl (by first | exact Or.inl rfl | exact Or.inr rfl))) (fun _ _ _ _ _ => pts_nil) (fun _ _ _ _ _ => (pe_call (ok_law_edit T) (hr.mono (by decide)) (by rfl) T.d_law_edit.m T.d_law_edit.kp T.d_law_edit.b .nil pass0 (pa_cons (pv 2) pa_nil)))) (pe_lst pa_nil)))
      (pss_cons (ps_set (i := 3) sc_law_due.nd rfl (by first | exact Or.inl rfl | exact Or.inr rfl) (pe_callTy (kTuple K) (by rfl) T.b_tuple (by decide +kernel) (pa_cons (pv 1) pa_nil)))
      (pss_one (ps_ret (pe_ifExp (PW.pt (pw_and (pt_cmpR (kNotInD (units65 hr)) pe_non (pv 1) rfl) (pw_and1 (pt_val (pe_call (ok_law_is_draft T) (hr.mono (by decide)) (by rfl) T.d_law_is_draft.m T.d_law_is_draft.kp T.d_law_is_draft.b .nil pass0 (pa_cons (pv 3) (pa_cons pe_int pa_nil))))))) (pv 3) pe_str)))))), ?_⟩
  exact body_pure (N := N_law_due) (a := a_law_due) (fun c => (as_seq (as_if (at_not (at_B (ae_isi (T := "str") (ae_var 0))))
      (as_ret (ae_str (Str.ofString "text")))
      as_next)
      (as_seq (as_set 1 (ae_if (at_test (ae_op ar_ne (ae_var 0) (ae_str (Str.ofString "")))) (ae_lc (vs := [2]) (ai_list (ae_m1 am_split (ae_var 0) (ae_str (Str.ofString ";")))) (ag_name 2) (go_name (by decide)) at_yes (ae_callP0 (aa_cons (ae_var 2) aa_nil))) (ae_lst aa_nil)))
      (as_seq (as_set 3 (ae_cb ac_tuple (aa_cons (ae_var 1) aa_nil)))
      (as_ret (ae_if (at_and (at_test (ae_op ar_notInD ae_non (ae_var 1))) (at_B (ae_callP0 (aa_cons (ae_var 3) (aa_cons (ae_int 60) aa_nil))))) (ae_var 3) (ae_str (Str.ofString "text")))))))) vc_law_due h
theorem ok_law (T : Tx K mg) {f : Addr} {fd : FuncData} (dl : Df K mg "law" s_law ps_law f fd) : FnOk P w K mg base CX0 20 f fd ps_law (spLaw K) := by
  refine dl.ok (k := 19) sc_law (fun vs H Q E h => by obtain ⟨a, ns, rfl, _⟩ := h; rfl) (fun cdv A outer s H vs Q E hr h => ?_)
  refine ⟨_, (pss_cons (ps_set (i := 1) sc_law.nd rfl (by first | exact Or.inl rfl | exact Or.inr rfl) (pe_lst (pa_cons (pe_callTy call_list_of (by rfl) T.b_list (by decide +kernel) (pa_cons (pv 0) pa_nil)) (pa_cons pe_int (pa_cons pe_int pa_nil)))))
      (pss_cons (ps_for PassesOwn.never rfl (pi_range1 rfl T.b_range (pa_cons pe_int pa_nil)) (pg_name (i := 2) sc_law.nd rfl (by first | exact Or.inl rfl | exact Or.inr rfl))
      (pss_cons (ps_set (i := 3) sc_law.nd rfl (by first | exact Or.inl rfl | exact Or.inr rfl) (pe_call (ok_draft_text T) (hr.mono (by decide)) (by rfl) T.d_draft_text.m T.d_draft_text.kp T.d_draft_text.b .nil pass0 (pa_cons (pe_call (ok_law_a_draft T) (hr.mono (by decide)) (by rfl) T.d_law_a_draft.m T.d_law_a_draft.kp T.d_law_a_draft.b .nil pass0 (pa_cons (pv 1) (pa_cons (pe_ix (kIx K) (pe_lst (pa_cons (pe_call (ok_law_draw T) (hr.mono (by decide)) (by rfl) T.d_law_draw.m T.d_law_draw.kp T.d_law_draw.b .nil pass0 (pa_cons (pv 1) (pa_cons pe_int pa_nil))) (pa_cons pe_int pa_nil))) (pe_op op_fdivW (pe_call (ok_law_draw T) (hr.mono (by decide)) (by rfl) T.d_law_draw.m T.d_law_draw.kp T.d_law_draw.b .nil pass0 (pa_cons (pv 1) (pa_cons pe_int pa_nil))) pe_int) (fun _ _ => rfl)) (pa_cons (pe_op (kAdd K) pe_int (pe_call (ok_law_draw T) (hr.mono (by decide)) (by rfl) T.d_law_draw.m T.d_law_draw.kp T.d_law_draw.b .nil pass0 (pa_cons (pv 1) (pa_cons pe_int pa_nil)))) pa_nil)))) pa_nil)))
      (pss_cons (ps_set (i := 4) sc_law.nd rfl (by first | exact Or.inl rfl | exact Or.inr rfl) (pe_m1 PySem.F.slot_str_split PySem.F.type_str_split mt_split (pv 3) pe_str))
      (pss_cons (ps_set (i := 5) sc_law.nd rfl (by first | exact Or.inl rfl | exact Or.inr rfl) (pe_lst (pa_cons (pv 3) (pa_cons (pe_m1 PySem.F.slot_str_join PySem.F.type_str_join (kJoin K) pe_str (kRevL K (pv 4))) (pa_cons (pe_m1 PySem.F.slot_str_join PySem.F.type_str_join (kJoin K) pe_str (pe_op (kAdd K) (pv 4) (pe_slice (kSl K) (pv 4) po_none (po_some pe_int)))) (pa_cons (pe_op (kAdd K) (pv 3) pe_str) (pa_cons (pe_op (kAdd K) pe_str (pv 3)) (pa_cons (pe_call (ok_law_any T 3) (hr.mono (by decide)) (by rfl) T.d_law_any.m T.d_law_any.kp T.d_law_any.b .nil pass0 (pa_cons (pv 1) (pa_cons pe_int pa_nil))) pa_nil))))))))
      (pss_cons (ps_set (i := 5) sc_law.nd rfl (by first | exact Or.inl rfl | exact Or.inr rfl) (pe_op (kAdd K) (pv 5) (pe_lst (pa_cons (pe_op (kAdd K) pe_str (pv 3)) (pa_cons pe_str (pa_cons pe_str (pa_cons pe_str (pa_cons pe_str (pa_cons pe_str (pa_cons (pe_op (kAdd K) (pe_op (kMul K) pe_str pe_int) pe_str) (pa_cons pe_str (pa_cons pe_str (pa_cons pe_str (pa_cons pe_str pa_nil))))))))))))))
      (pss_cons (ps_for PassesOwn.never rfl (pi_range1 rfl T.b_range (pa_cons pe_int pa_nil)) (pg_name (i := 6) sc_law.nd rfl (by first | exact Or.inl rfl | exact Or.inr rfl))
      (pss_cons (ps_set (i := 7) sc_law.nd rfl (by first | exact Or.inl rfl | exact Or.inr rfl) (pv 3))
      (pss_cons (ps_for PassesOwn.never rfl (pi_range1 rfl T.b_range (pa_cons (pe_op (kAdd K) pe_int (pe_call (ok_law_draw T) (hr.mono (by decide)) (by rfl) T.d_law_draw.m T.d_law_draw.kp T.d_law_draw.b .nil pass0 (pa_cons (pv 1) (pa_cons pe_int pa_nil)))) pa_nil)) (pg_name (i := 8) sc_law.nd rfl (by first | exact Or.inl rfl | exact Or.inr rfl))
      (pss_cons (ps_set (i := 9) sc_law.nd rfl (by first | exact Or.inl rfl | exact Or.inr rfl) (pe_call (ok_law_draw T) (hr.mono (by decide)) (by rfl) T.d_law_draw.m T.d_law_draw.kp T.d_law_draw.b .nil pass0 (pa_cons (pv 1) (pa_cons (pe_op (kAdd K) (pe_callB (kLen K) (by rfl) T.b_len (by decide +kernel) (pa_cons (pv 7) pa_nil)) pe_int) pa_nil))))
      (pss_cons (ps_set (i := 10) sc_law.nd rfl (by first | exact Or.inl rfl | exact Or.inr rfl) (pe_ix (kIx K) (pe_lst (pa_cons pe_str (pa_cons pe_str (pa_cons pe_str (pa_cons pe_str (pa_cons pe_str (pa_cons pe_str (pa_cons pe_str (pa_cons pe_str (pa_cons pe_str (pa_cons pe_str (pa_cons pe_str pa_nil)))))))))))) (pe_call (ok_law_draw T) (hr.mono (by decide)) (by rfl) T.d_law_draw.m T.d_law_draw.kp T.d_law_draw.b .nil pass0 (pa_cons (pv 1) (pa_cons pe_int pa_nil))) (fun _ _ => rfl)))
      (pss_one (ps_set (i := 7) sc_law.nd rfl (by first | exact Or.inl rfl | exact Or.inr rfl) (pe_op (kAdd K) (pe_op (kAdd K) (pe_slice (kSl K) (pv 7) po_none (po_some (pv 9))) (pv 10)) (pe_slice (kSl K) (pv 7) (po_some (pe_op (kAdd K) (pv 9) (pe_call (ok_law_draw T) (hr.mono (by decide)) (by rfl) T.d_law_draw.m T.d_law_draw.kp T.d_law_draw.b .nil pass0 (pa_cons (pv 1) (pa_cons pe_int pa_nil))))) po_none)))))))
      (pss_one (ps_expr (pe_bm PySem.F.plainAttrs_list PySem.F.slot_list_append PySem.F.type_list_append mt_append (pv 5) (pa_cons (pv 7) pa_nil)))))))
      (pss_one (ps_for PassesOwn.never rfl (pi_list (pv 5)) (pg_name (i := 11) sc_law.nd rfl (by first | exact Or.inl rfl | exact Or.inr rfl))
      (pss_cons (ps_set (i := 12) sc_law.nd rfl (by first | exact Or.inl rfl | exact Or.inr rfl) (pe_call (ok_law_tried T) (hr.mono (by decide)) (by rfl) T.d_law_tried.m T.d_law_tried.kp T.d_law_tried.b .nil pass0 (pa_cons (pv 11) pa_nil)))
      (pss_one (ps_if (PW.pt (pw_or (pt_cmpR (kNe K hr.units) (pv 12) (pe_call (ok_law_due T) (hr.mono (by decide)) (by rfl) T.d_law_due.m T.d_law_due.kp T.d_law_due.b .nil pass0 (pa_cons (pv 11) pa_nil)) (nomark _)) (pw_or1 (pt_not (pt_val (pe_callB (kIsiT K) (by rfl) T.b_isinstance (by decide +kernel) (pa_cons (pv 12) (pa_cons (pe_tup (pa_cons (pe_bltn (v := .ty "str") (by rfl) T.b_str (by decide +kernel) rfl) (pa_cons (pe_bltn (v := .ty "tuple") (by rfl) T.b_tuple (by decide +kernel) rfl) pa_nil))) pa_nil))))))))
      (pss_one (ps_ret pe_bl))
      pss_nil)))))))))))
      (pss_one (ps_ret pe_bl)))), ?_⟩
  obtain ⟨a, ns, rfl, hS, hl, q⟩ := h
  exact law_startX (cm := (cmT T)) (Nm := N_law) (k := 11) (m := 1) rfl (a := a_law) (fun c hn hl hs => (z_seq (z_for (xi_rng1 (qa_cons (q_lift (fun _ => (ae_int 8))) qa_nil)) (xg_name 2)
      (z_seq (z_set 3 (x_of (q_lift (fun _ => (ae_callP0 (aa_cons (ae_callT (i := 1) (aa_cons (ae_op ar_ix (ae_lst (aa_cons (ae_callT (i := 1) (aa_cons (ae_int 5) aa_nil)) (aa_cons (ae_int 60) aa_nil))) (ae_op ar_I (ae_callT (i := 1) (aa_cons (ae_int 5) aa_nil)) (ae_int 4))) (aa_cons (ae_op ar_add (ae_int 1) (ae_callT (i := 1) (aa_cons (ae_int 4) aa_nil))) aa_nil))) aa_nil))))))
      (z_seq (z_set 4 (x_of (q_lift (fun _ => (ae_m1 am_split (ae_var 3) (ae_str (Str.ofString ";")))))))
      (z_seq (z_setNew (i := 5) (r := 0) (by omega) (x_of (q_newL (qa_cons (q_lift (fun _ => (ae_var 3))) (qa_cons (q_lift (fun _ => (ae_m1 am_join (ae_str (Str.ofString ";")) (ae_revL (ae_var 4))))) (qa_cons (q_lift (fun _ => (ae_m1 am_join (ae_str (Str.ofString ";")) (ae_op ar_add (ae_var 4) (ae_sl (ae_var 4) ao_no (ao_some (ae_int 1))))))) (qa_cons (q_lift (fun _ => (ae_op ar_add (ae_var 3) (ae_str (Str.ofString ";"))))) (qa_cons (q_lift (fun _ => (ae_op ar_add (ae_str (Str.ofString ";")) (ae_var 3)))) (qa_cons (q_lift (fun _ => (ae_callT (i := 1) (aa_cons (ae_int 2) aa_nil)))) qa_nil)))))))))
      (z_freeze (i := 5) (r := 0) (by omega) (z_seq (z_setNew (i := 5) (r := 0) (by omega) (x_of (q_catNew (q_var 5) (q_lift (fun _ => (ae_lst (aa_cons (ae_op ar_add (ae_str (Str.ofString "0")) (ae_var 3)) (aa_cons (ae_str (Str.ofString "00-")) (aa_cons (ae_str (Str.ofString "60+|a")) (aa_cons (ae_str (Str.ofString "60-")) (aa_cons (ae_str (Str.ofString "61+|a")) (aa_cons (ae_str (Str.ofString "59=a")) (aa_cons (ae_op ar_add (ae_op ar_mulP (ae_str (Str.ofString "1")) (ae_int 30)) (ae_str (Str.ofString "-"))) (aa_cons (ae_str (Str.ofString "3+")) (aa_cons (ae_str (Str.ofString "3=")) (aa_cons (ae_str (Str.ofString "3-a")) (aa_cons (ae_str (Str.ofString "+|a")) aa_nil)))))))))))))))))
      (z_seq (z_for (xi_rng1 (qa_cons (q_lift (fun _ => (ae_int 6))) qa_nil)) (xg_name 6)
      (z_seq (z_set 7 (x_of (q_lift (fun _ => (ae_var 3)))))
      (z_seq (z_for (xi_rng1 (qa_cons (q_lift (fun _ => (ae_op ar_add (ae_int 1) (ae_callT (i := 1) (aa_cons (ae_int 2) aa_nil))))) qa_nil)) (xg_name 8)
      (z_seq (z_set 9 (x_of (q_lift (fun _ => (ae_callT (i := 1) (aa_cons (ae_op ar_add (ae_cb ac_len (aa_cons (ae_var 7) aa_nil)) (ae_int 1)) aa_nil))))))
      (z_seq (z_set 10 (x_of (q_lift (fun _ => (ae_op ar_ix (ae_lst (aa_cons (ae_str (Str.ofString "0")) (aa_cons (ae_str (Str.ofString "1")) (aa_cons (ae_str (Str.ofString "-")) (aa_cons (ae_str (Str.ofString "+")) (aa_cons (ae_str (Str.ofString "=")) (aa_cons (ae_str (Str.ofString "|")) (aa_cons (ae_str (Str.ofString ";")) (aa_cons (ae_str (Str.ofString " ")) (aa_cons (ae_str (Str.ofString "a")) (aa_cons (ae_str (Str.ofString "A")) (aa_cons (ae_str (Str.ofString "")) aa_nil)))))))))))) (ae_callT (i := 1) (aa_cons (ae_int 11) aa_nil)))))))
      (z_set 7 (x_of (q_lift (fun _ => (ae_op ar_add (ae_op ar_add (ae_sl (ae_var 7) ao_no (ao_some (ae_var 9))) (ae_var 10)) (ae_sl (ae_var 7) (ao_some (ae_op ar_add (ae_var 9) (ae_callT (i := 1) (aa_cons (ae_int 2) aa_nil)))) ao_no)))))))))
      (z_append hl (q_var 5) (q_lift (fun _ => (ae_var 7)))))))
      (z_freeze (i := 5) (r := 0) (by omega) (z_for (xi_list (q_var 5)) (xg_name 11)
      (z_seq (z_set 12 (x_of (q_lift (fun _ => (ae_callP0 (aa_cons (ae_var 11) aa_nil))))))
      (z_if (xt_of (q_liftT (fun _ => (at_or (at_test (ae_op ar_ne (ae_var 12) (ae_callP0 (aa_cons (ae_var 11) aa_nil)))) (at_not (at_B (ae_isi2 (T := "str") (U := "tuple") (ae_var 12))))))))
      (z_ret (x_of (q_lift (fun _ => (ae_bl false)))))
      z_next)))))))))))
      (z_ret (x_of (q_lift (fun _ => (ae_bl true))))))) vc_law hS q
end
theorem all_mk {l : PySem.W.OpenLaw} {w : World} {K : PySem.W.Frag} {h : Heap} {mg : Str → Option Value} {fa : Addr} (X : K.In h) (G : h.Ns mainGlobals mg) (hfa : mg "law" = some (.ref fa))
    {f0 : Addr} {od0 an0 : Option Addr} {sl0 : Array (Option Value)} {oc0 kV0 dc0 pm0 cd0 ct0 : Value}
    {f1 : Addr} {od1 an1 : Option Addr} {sl1 : Array (Option Value)} {oc1 kV1 dc1 pm1 cd1 ct1 : Value}
    {f2 : Addr} {od2 an2 : Option Addr} {sl2 : Array (Option Value)} {oc2 kV2 dc2 pm2 cd2 ct2 : Value}
    {f3 : Addr} {od3 an3 : Option Addr} {sl3 : Array (Option Value)} {oc3 kV3 dc3 pm3 cd3 ct3 : Value}
    {f4 : Addr} {od4 an4 : Option Addr} {sl4 : Array (Option Value)} {oc4 kV4 dc4 pm4 cd4 ct4 : Value}
    {f5 : Addr} {od5 an5 : Option Addr} {sl5 : Array (Option Value)} {oc5 kV5 dc5 pm5 cd5 ct5 : Value}
    {f6 : Addr} {od6 an6 : Option Addr} {sl6 : Array (Option Value)} {oc6 kV6 dc6 pm6 cd6 ct6 : Value}
    {f7 : Addr} {od7 an7 : Option Addr} {sl7 : Array (Option Value)} {oc7 kV7 dc7 pm7 cd7 ct7 : Value}
    {f8 : Addr} {od8 an8 : Option Addr} {sl8 : Array (Option Value)} {oc8 kV8 dc8 pm8 cd8 ct8 : Value}
    {f9 : Addr} {od9 an9 : Option Addr} {sl9 : Array (Option Value)} {oc9 kV9 dc9 pm9 cd9 ct9 : Value}
    {f10 : Addr} {od10 an10 : Option Addr} {sl10 : Array (Option Value)} {oc10 kV10 dc10 pm10 cd10 ct10 : Value}
    {f11 : Addr} {od11 an11 : Option Addr} {sl11 : Array (Option Value)} {oc11 kV11 dc11 pm11 cd11 ct11 : Value}
    {f12 : Addr} {od12 an12 : Option Addr} {sl12 : Array (Option Value)} {oc12 kV12 dc12 pm12 cd12 ct12 : Value}
    {f13 : Addr} {od13 an13 : Option Addr} {sl13 : Array (Option Value)} {oc13 kV13 dc13 pm13 cd13 ct13 : Value}
    {f14 : Addr} {od14 an14 : Option Addr} {sl14 : Array (Option Value)} {oc14 kV14 dc14 pm14 cd14 ct14 : Value}
    {f15 : Addr} {od15 an15 : Option Addr} {sl15 : Array (Option Value)} {oc15 kV15 dc15 pm15 cd15 ct15 : Value}
    {f16 : Addr} {od16 an16 : Option Addr} {sl16 : Array (Option Value)} {oc16 kV16 dc16 pm16 cd16 ct16 : Value}
    {f17 : Addr} {od17 an17 : Option Addr} {sl17 : Array (Option Value)} {oc17 kV17 dc17 pm17 cd17 ct17 : Value}
    {f18 : Addr} {od18 an18 : Option Addr} {sl18 : Array (Option Value)} {oc18 kV18 dc18 pm18 cd18 ct18 : Value}
    {f19 : Addr} {od19 an19 : Option Addr} {sl19 : Array (Option Value)} {oc19 kV19 dc19 pm19 cd19 ct19 : Value}
    {f20 : Addr} {od20 an20 : Option Addr} {sl20 : Array (Option Value)} {oc20 kV20 dc20 pm20 cd20 ct20 : Value}
    {f21 : Addr} {od21 an21 : Option Addr} {sl21 : Array (Option Value)} {oc21 kV21 dc21 pm21 cd21 ct21 : Value}
    {f22 : Addr} {od22 an22 : Option Addr} {sl22 : Array (Option Value)} {oc22 kV22 dc22 pm22 cd22 ct22 : Value}
    {f23 : Addr} {od23 an23 : Option Addr} {sl23 : Array (Option Value)} {oc23 kV23 dc23 pm23 cd23 ct23 : Value}
    {f24 : Addr} {od24 an24 : Option Addr} {sl24 : Array (Option Value)} {oc24 kV24 dc24 pm24 cd24 ct24 : Value}
    {f25 : Addr} {od25 an25 : Option Addr} {sl25 : Array (Option Value)} {oc25 kV25 dc25 pm25 cd25 ct25 : Value}
    {f26 : Addr} {od26 an26 : Option Addr} {sl26 : Array (Option Value)} {oc26 kV26 dc26 pm26 cd26 ct26 : Value}
    {f27 : Addr} {od27 an27 : Option Addr} {sl27 : Array (Option Value)} {oc27 kV27 dc27 pm27 cd27 ct27 : Value}
    {f28 : Addr} {od28 an28 : Option Addr} {sl28 : Array (Option Value)} {oc28 kV28 dc28 pm28 cd28 ct28 : Value}
    {u_SMALL : Value}
    {u_MOST_SIGNS : Value}
    {u_MOST_LINES : Value}
    {u_MOST_PUT : Value}
    {u_MOST_EDITS : Value}
    {u_FIGURES : Value}
    {u_MOST_FIGURES : Value}
    {a_LONGEST : Addr} {td_LONGEST : Option Addr} {ts_LONGEST : Array (Option Value)} {tn_LONGEST : Nat} {us_LONGEST : List Value}
    {c_FairError : Addr}
    {c_NoOffice : Addr}
    {c_NoDays : Addr}
    {c_NoDesk : Addr}
    {c_NoHouse : Addr}
    {c_NoBody : Addr}
    {c_NoName : Addr}
    {c_NoLetter : Addr}
    {c_NotNow : Addr}
    {c_NoDraft : Addr}
    {c_TooMany : Addr}
    {c_TooLong : Addr}
    {c_NoCount : Addr}
    {c_NoLine : Addr}
    {c_NoText : Addr}
    {c_NoCopy : Addr}
    {c_NoSlip : Addr}
    {c_Twice : Addr}
    {c_NoNumber : Addr}
    {c_NoThing : Addr}
    {c_Gone : Addr}
    {c_NoAnswer : Addr}
    {c_NoDay : Addr}
    {c_NothingLeft : Addr}
    {c_NoRow : Addr}
    {c_Lacks : Addr}
    (a0 : PySem.W.nsIn K mainGlobals "is_number" = some (some (.ref f0)))
    (l0 : K.lookup f0 = some ⟨oc0, od0, .func (PySem.W.fnOf "is_number" "is_number" (defArgs s_is_number) (defBody s_is_number) (defScope s_is_number) .none kV0 dc0 pm0 an0 cd0 ct0), sl0⟩)
    (c0 : PySem.W.codeIn K cd0 "is_number" = true)
    (k0 : PySem.W.keepIn K (.ref f0) = true)
    (a1 : PySem.W.nsIn K mainGlobals "is_line" = some (some (.ref f1)))
    (l1 : K.lookup f1 = some ⟨oc1, od1, .func (PySem.W.fnOf "is_line" "is_line" (defArgs s_is_line) (defBody s_is_line) (defScope s_is_line) .none kV1 dc1 pm1 an1 cd1 ct1), sl1⟩)
    (c1 : PySem.W.codeIn K cd1 "is_line" = true)
    (k1 : PySem.W.keepIn K (.ref f1) = true)
    (a2 : PySem.W.nsIn K mainGlobals "is_body" = some (some (.ref f2)))
    (l2 : K.lookup f2 = some ⟨oc2, od2, .func (PySem.W.fnOf "is_body" "is_body" (defArgs s_is_body) (defBody s_is_body) (defScope s_is_body) .none kV2 dc2 pm2 an2 cd2 ct2), sl2⟩)
    (c2 : PySem.W.codeIn K cd2 "is_body" = true)
    (k2 : PySem.W.keepIn K (.ref f2) = true)
    (a3 : PySem.W.nsIn K mainGlobals "place_of" = some (some (.ref f3)))
    (l3 : K.lookup f3 = some ⟨oc3, od3, .func (PySem.W.fnOf "place_of" "place_of" (defArgs s_place_of) (defBody s_place_of) (defScope s_place_of) .none kV3 dc3 pm3 an3 cd3 ct3), sl3⟩)
    (c3 : PySem.W.codeIn K cd3 "place_of" = true)
    (k3 : PySem.W.keepIn K (.ref f3) = true)
    (a4 : PySem.W.nsIn K mainGlobals "is_edit" = some (some (.ref f4)))
    (l4 : K.lookup f4 = some ⟨oc4, od4, .func (PySem.W.fnOf "is_edit" "is_edit" (defArgs s_is_edit) (defBody s_is_edit) (defScope s_is_edit) .none kV4 dc4 pm4 an4 cd4 ct4), sl4⟩)
    (c4 : PySem.W.codeIn K cd4 "is_edit" = true)
    (k4 : PySem.W.keepIn K (.ref f4) = true)
    (a5 : PySem.W.nsIn K mainGlobals "is_draft" = some (some (.ref f5)))
    (l5 : K.lookup f5 = some ⟨oc5, od5, .func (PySem.W.fnOf "is_draft" "is_draft" (defArgs s_is_draft) (defBody s_is_draft) (defScope s_is_draft) .none kV5 dc5 pm5 an5 cd5 ct5), sl5⟩)
    (c5 : PySem.W.codeIn K cd5 "is_draft" = true)
    (k5 : PySem.W.keepIn K (.ref f5) = true)
    (a6 : PySem.W.nsIn K mainGlobals "body_text" = some (some (.ref f6)))
    (l6 : K.lookup f6 = some ⟨oc6, od6, .func (PySem.W.fnOf "body_text" "body_text" (defArgs s_body_text) (defBody s_body_text) (defScope s_body_text) .none kV6 dc6 pm6 an6 cd6 ct6), sl6⟩)
    (c6 : PySem.W.codeIn K cd6 "body_text" = true)
    (k6 : PySem.W.keepIn K (.ref f6) = true)
    (a7 : PySem.W.nsIn K mainGlobals "edit_text" = some (some (.ref f7)))
    (l7 : K.lookup f7 = some ⟨oc7, od7, .func (PySem.W.fnOf "edit_text" "edit_text" (defArgs s_edit_text) (defBody s_edit_text) (defScope s_edit_text) .none kV7 dc7 pm7 an7 cd7 ct7), sl7⟩)
    (c7 : PySem.W.codeIn K cd7 "edit_text" = true)
    (k7 : PySem.W.keepIn K (.ref f7) = true)
    (a8 : PySem.W.nsIn K mainGlobals "draft_text" = some (some (.ref f8)))
    (l8 : K.lookup f8 = some ⟨oc8, od8, .func (PySem.W.fnOf "draft_text" "draft_text" (defArgs s_draft_text) (defBody s_draft_text) (defScope s_draft_text) .none kV8 dc8 pm8 an8 cd8 ct8), sl8⟩)
    (c8 : PySem.W.codeIn K cd8 "draft_text" = true)
    (k8 : PySem.W.keepIn K (.ref f8) = true)
    (a9 : PySem.W.nsIn K mainGlobals "need_text" = some (some (.ref f9)))
    (l9 : K.lookup f9 = some ⟨oc9, od9, .func (PySem.W.fnOf "need_text" "need_text" (defArgs s_need_text) (defBody s_need_text) (defScope s_need_text) .none kV9 dc9 pm9 an9 cd9 ct9), sl9⟩)
    (c9 : PySem.W.codeIn K cd9 "need_text" = true)
    (k9 : PySem.W.keepIn K (.ref f9) = true)
    (a10 : PySem.W.nsIn K mainGlobals "read_number" = some (some (.ref f10)))
    (l10 : K.lookup f10 = some ⟨oc10, od10, .func (PySem.W.fnOf "read_number" "read_number" (defArgs s_read_number) (defBody s_read_number) (defScope s_read_number) .none kV10 dc10 pm10 an10 cd10 ct10), sl10⟩)
    (c10 : PySem.W.codeIn K cd10 "read_number" = true)
    (k10 : PySem.W.keepIn K (.ref f10) = true)
    (a11 : PySem.W.nsIn K mainGlobals "read_body" = some (some (.ref f11)))
    (l11 : K.lookup f11 = some ⟨oc11, od11, .func (PySem.W.fnOf "read_body" "read_body" (defArgs s_read_body) (defBody s_read_body) (defScope s_read_body) .none kV11 dc11 pm11 an11 cd11 ct11), sl11⟩)
    (c11 : PySem.W.codeIn K cd11 "read_body" = true)
    (k11 : PySem.W.keepIn K (.ref f11) = true)
    (a12 : PySem.W.nsIn K mainGlobals "read_edit" = some (some (.ref f12)))
    (l12 : K.lookup f12 = some ⟨oc12, od12, .func (PySem.W.fnOf "read_edit" "read_edit" (defArgs s_read_edit) (defBody s_read_edit) (defScope s_read_edit) .none kV12 dc12 pm12 an12 cd12 ct12), sl12⟩)
    (c12 : PySem.W.codeIn K cd12 "read_edit" = true)
    (k12 : PySem.W.keepIn K (.ref f12) = true)
    (a13 : PySem.W.nsIn K mainGlobals "read_draft" = some (some (.ref f13)))
    (l13 : K.lookup f13 = some ⟨oc13, od13, .func (PySem.W.fnOf "read_draft" "read_draft" (defArgs s_read_draft) (defBody s_read_draft) (defScope s_read_draft) .none kV13 dc13 pm13 an13 cd13 ct13), sl13⟩)
    (c13 : PySem.W.codeIn K cd13 "read_draft" = true)
    (k13 : PySem.W.keepIn K (.ref f13) = true)
    (a14 : PySem.W.nsIn K mainGlobals "_law_draw" = some (some (.ref f14)))
    (l14 : K.lookup f14 = some ⟨oc14, od14, .func (PySem.W.fnOf "_law_draw" "_law_draw" (defArgs s_law_draw) (defBody s_law_draw) (defScope s_law_draw) .none kV14 dc14 pm14 an14 cd14 ct14), sl14⟩)
    (c14 : PySem.W.codeIn K cd14 "_law_draw" = true)
    (k14 : PySem.W.keepIn K (.ref f14) = true)
    (a15 : PySem.W.nsIn K mainGlobals "_law_whole" = some (some (.ref f15)))
    (l15 : K.lookup f15 = some ⟨oc15, od15, .func (PySem.W.fnOf "_law_whole" "_law_whole" (defArgs s_law_whole) (defBody s_law_whole) (defScope s_law_whole) .none kV15 dc15 pm15 an15 cd15 ct15), sl15⟩)
    (c15 : PySem.W.codeIn K cd15 "_law_whole" = true)
    (k15 : PySem.W.keepIn K (.ref f15) = true)
    (a16 : PySem.W.nsIn K mainGlobals "_law_word" = some (some (.ref f16)))
    (l16 : K.lookup f16 = some ⟨oc16, od16, .func (PySem.W.fnOf "_law_word" "_law_word" (defArgs s_law_word) (defBody s_law_word) (defScope s_law_word) .none kV16 dc16 pm16 an16 cd16 ct16), sl16⟩)
    (c16 : PySem.W.codeIn K cd16 "_law_word" = true)
    (k16 : PySem.W.keepIn K (.ref f16) = true)
    (a17 : PySem.W.nsIn K mainGlobals "_law_a_line" = some (some (.ref f17)))
    (l17 : K.lookup f17 = some ⟨oc17, od17, .func (PySem.W.fnOf "_law_a_line" "_law_a_line" (defArgs s_law_a_line) (defBody s_law_a_line) (defScope s_law_a_line) .none kV17 dc17 pm17 an17 cd17 ct17), sl17⟩)
    (c17 : PySem.W.codeIn K cd17 "_law_a_line" = true)
    (k17 : PySem.W.keepIn K (.ref f17) = true)
    (a18 : PySem.W.nsIn K mainGlobals "_law_an_edit" = some (some (.ref f18)))
    (l18 : K.lookup f18 = some ⟨oc18, od18, .func (PySem.W.fnOf "_law_an_edit" "_law_an_edit" (defArgs s_law_an_edit) (defBody s_law_an_edit) (defScope s_law_an_edit) .none kV18 dc18 pm18 an18 cd18 ct18), sl18⟩)
    (c18 : PySem.W.codeIn K cd18 "_law_an_edit" = true)
    (k18 : PySem.W.keepIn K (.ref f18) = true)
    (a19 : PySem.W.nsIn K mainGlobals "_law_a_draft" = some (some (.ref f19)))
    (l19 : K.lookup f19 = some ⟨oc19, od19, .func (PySem.W.fnOf "_law_a_draft" "_law_a_draft" (defArgs s_law_a_draft) (defBody s_law_a_draft) (defScope s_law_a_draft) .none kV19 dc19 pm19 an19 cd19 ct19), sl19⟩)
    (c19 : PySem.W.codeIn K cd19 "_law_a_draft" = true)
    (k19 : PySem.W.keepIn K (.ref f19) = true)
    (a20 : PySem.W.nsIn K mainGlobals "_law_any" = some (some (.ref f20)))
    (l20 : K.lookup f20 = some ⟨oc20, od20, .func (PySem.W.fnOf "_law_any" "_law_any" (defArgs s_law_any) (defBody s_law_any) (defScope s_law_any) .none kV20 dc20 pm20 an20 cd20 ct20), sl20⟩)
    (c20 : PySem.W.codeIn K cd20 "_law_any" = true)
    (k20 : PySem.W.keepIn K (.ref f20) = true)
    (a21 : PySem.W.nsIn K mainGlobals "_law_is_line" = some (some (.ref f21)))
    (l21 : K.lookup f21 = some ⟨oc21, od21, .func (PySem.W.fnOf "_law_is_line" "_law_is_line" (defArgs s_law_is_line) (defBody s_law_is_line) (defScope s_law_is_line) .none kV21 dc21 pm21 an21 cd21 ct21), sl21⟩)
    (c21 : PySem.W.codeIn K cd21 "_law_is_line" = true)
    (k21 : PySem.W.keepIn K (.ref f21) = true)
    (a22 : PySem.W.nsIn K mainGlobals "_law_is_body" = some (some (.ref f22)))
    (l22 : K.lookup f22 = some ⟨oc22, od22, .func (PySem.W.fnOf "_law_is_body" "_law_is_body" (defArgs s_law_is_body) (defBody s_law_is_body) (defScope s_law_is_body) .none kV22 dc22 pm22 an22 cd22 ct22), sl22⟩)
    (c22 : PySem.W.codeIn K cd22 "_law_is_body" = true)
    (k22 : PySem.W.keepIn K (.ref f22) = true)
    (a23 : PySem.W.nsIn K mainGlobals "_law_is_edit" = some (some (.ref f23)))
    (l23 : K.lookup f23 = some ⟨oc23, od23, .func (PySem.W.fnOf "_law_is_edit" "_law_is_edit" (defArgs s_law_is_edit) (defBody s_law_is_edit) (defScope s_law_is_edit) .none kV23 dc23 pm23 an23 cd23 ct23), sl23⟩)
    (c23 : PySem.W.codeIn K cd23 "_law_is_edit" = true)
    (k23 : PySem.W.keepIn K (.ref f23) = true)
    (a24 : PySem.W.nsIn K mainGlobals "_law_is_draft" = some (some (.ref f24)))
    (l24 : K.lookup f24 = some ⟨oc24, od24, .func (PySem.W.fnOf "_law_is_draft" "_law_is_draft" (defArgs s_law_is_draft) (defBody s_law_is_draft) (defScope s_law_is_draft) .none kV24 dc24 pm24 an24 cd24 ct24), sl24⟩)
    (c24 : PySem.W.codeIn K cd24 "_law_is_draft" = true)
    (k24 : PySem.W.keepIn K (.ref f24) = true)
    (a25 : PySem.W.nsIn K mainGlobals "_law_tried" = some (some (.ref f25)))
    (l25 : K.lookup f25 = some ⟨oc25, od25, .func (PySem.W.fnOf "_law_tried" "_law_tried" (defArgs s_law_tried) (defBody s_law_tried) (defScope s_law_tried) .none kV25 dc25 pm25 an25 cd25 ct25), sl25⟩)
    (c25 : PySem.W.codeIn K cd25 "_law_tried" = true)
    (k25 : PySem.W.keepIn K (.ref f25) = true)
    (a26 : PySem.W.nsIn K mainGlobals "_law_edit" = some (some (.ref f26)))
    (l26 : K.lookup f26 = some ⟨oc26, od26, .func (PySem.W.fnOf "_law_edit" "_law_edit" (defArgs s_law_edit) (defBody s_law_edit) (defScope s_law_edit) .none kV26 dc26 pm26 an26 cd26 ct26), sl26⟩)
    (c26 : PySem.W.codeIn K cd26 "_law_edit" = true)
    (k26 : PySem.W.keepIn K (.ref f26) = true)
    (a27 : PySem.W.nsIn K mainGlobals "_law_due" = some (some (.ref f27)))
    (l27 : K.lookup f27 = some ⟨oc27, od27, .func (PySem.W.fnOf "_law_due" "_law_due" (defArgs s_law_due) (defBody s_law_due) (defScope s_law_due) .none kV27 dc27 pm27 an27 cd27 ct27), sl27⟩)
    (c27 : PySem.W.codeIn K cd27 "_law_due" = true)
    (k27 : PySem.W.keepIn K (.ref f27) = true)
    (a28 : PySem.W.nsIn K mainGlobals "law" = some (some (.ref f28)))
    (l28 : K.lookup f28 = some ⟨oc28, od28, .func (PySem.W.fnOf "law" "law" (defArgs s_law) (defBody s_law) (defScope s_law) .none kV28 dc28 pm28 an28 cd28 ct28), sl28⟩)
    (c28 : PySem.W.codeIn K cd28 "law" = true)
    (k28 : PySem.W.keepIn K (.ref f28) = true)
    (z_ValueError : PySem.W.nsIn K mainGlobals "ValueError" = some none)
    (z_all : PySem.W.nsIn K mainGlobals "all" = some none)
    (z_bool : PySem.W.nsIn K mainGlobals "bool" = some none)
    (z_int : PySem.W.nsIn K mainGlobals "int" = some none)
    (z_isinstance : PySem.W.nsIn K mainGlobals "isinstance" = some none)
    (z_len : PySem.W.nsIn K mainGlobals "len" = some none)
    (z_list : PySem.W.nsIn K mainGlobals "list" = some none)
    (z_max : PySem.W.nsIn K mainGlobals "max" = some none)
    (z_min : PySem.W.nsIn K mainGlobals "min" = some none)
    (z_range : PySem.W.nsIn K mainGlobals "range" = some none)
    (z_set : PySem.W.nsIn K mainGlobals "set" = some none)
    (z_sorted : PySem.W.nsIn K mainGlobals "sorted" = some none)
    (z_str : PySem.W.nsIn K mainGlobals "str" = some none)
    (z_tuple : PySem.W.nsIn K mainGlobals "tuple" = some none)
    (g_SMALL : PySem.W.nsIn K mainGlobals "SMALL" = some (some u_SMALL))
    (r_SMALL : RelV (.str (Str.ofString "abcdefghijklmnopqrstuvwxyz")) u_SMALL)
    (g_MOST_SIGNS : PySem.W.nsIn K mainGlobals "MOST_SIGNS" = some (some u_MOST_SIGNS))
    (r_MOST_SIGNS : RelV (.int 30) u_MOST_SIGNS)
    (g_MOST_LINES : PySem.W.nsIn K mainGlobals "MOST_LINES" = some (some u_MOST_LINES))
    (r_MOST_LINES : RelV (.int 60) u_MOST_LINES)
    (g_MOST_PUT : PySem.W.nsIn K mainGlobals "MOST_PUT" = some (some u_MOST_PUT))
    (r_MOST_PUT : RelV (.int 5) u_MOST_PUT)
    (g_MOST_EDITS : PySem.W.nsIn K mainGlobals "MOST_EDITS" = some (some u_MOST_EDITS))
    (r_MOST_EDITS : RelV (.int 20) u_MOST_EDITS)
    (g_FIGURES : PySem.W.nsIn K mainGlobals "FIGURES" = some (some u_FIGURES))
    (r_FIGURES : RelV (.str (Str.ofString "0123456789")) u_FIGURES)
    (g_MOST_FIGURES : PySem.W.nsIn K mainGlobals "MOST_FIGURES" = some (some u_MOST_FIGURES))
    (r_MOST_FIGURES : RelV (.int 6) u_MOST_FIGURES)
    (g_LONGEST : PySem.W.nsIn K mainGlobals "LONGEST" = some (some (.ref a_LONGEST)))
    (t_LONGEST : K.lookup a_LONGEST = some ⟨.type "tuple", td_LONGEST, .seq us_LONGEST.toArray tn_LONGEST, ts_LONGEST⟩)
    (v_LONGEST : Vals (List.replicate 60 (V.str (Str.ofString "a"))) us_LONGEST)
    (n_FairError : PySem.W.nsIn K mainGlobals "FairError" = some (some (.ref c_FairError)))
    (n_NoOffice : PySem.W.nsIn K mainGlobals "NoOffice" = some (some (.ref c_NoOffice)))
    (n_NoDays : PySem.W.nsIn K mainGlobals "NoDays" = some (some (.ref c_NoDays)))
    (n_NoDesk : PySem.W.nsIn K mainGlobals "NoDesk" = some (some (.ref c_NoDesk)))
    (n_NoHouse : PySem.W.nsIn K mainGlobals "NoHouse" = some (some (.ref c_NoHouse)))
    (n_NoBody : PySem.W.nsIn K mainGlobals "NoBody" = some (some (.ref c_NoBody)))
    (n_NoName : PySem.W.nsIn K mainGlobals "NoName" = some (some (.ref c_NoName)))
    (n_NoLetter : PySem.W.nsIn K mainGlobals "NoLetter" = some (some (.ref c_NoLetter)))
    (n_NotNow : PySem.W.nsIn K mainGlobals "NotNow" = some (some (.ref c_NotNow)))
    (n_NoDraft : PySem.W.nsIn K mainGlobals "NoDraft" = some (some (.ref c_NoDraft)))
    (n_TooMany : PySem.W.nsIn K mainGlobals "TooMany" = some (some (.ref c_TooMany)))
    (n_TooLong : PySem.W.nsIn K mainGlobals "TooLong" = some (some (.ref c_TooLong)))
    (n_NoCount : PySem.W.nsIn K mainGlobals "NoCount" = some (some (.ref c_NoCount)))
    (n_NoLine : PySem.W.nsIn K mainGlobals "NoLine" = some (some (.ref c_NoLine)))
    (n_NoText : PySem.W.nsIn K mainGlobals "NoText" = some (some (.ref c_NoText)))
    (n_NoCopy : PySem.W.nsIn K mainGlobals "NoCopy" = some (some (.ref c_NoCopy)))
    (n_NoSlip : PySem.W.nsIn K mainGlobals "NoSlip" = some (some (.ref c_NoSlip)))
    (n_Twice : PySem.W.nsIn K mainGlobals "Twice" = some (some (.ref c_Twice)))
    (n_NoNumber : PySem.W.nsIn K mainGlobals "NoNumber" = some (some (.ref c_NoNumber)))
    (n_NoThing : PySem.W.nsIn K mainGlobals "NoThing" = some (some (.ref c_NoThing)))
    (n_Gone : PySem.W.nsIn K mainGlobals "Gone" = some (some (.ref c_Gone)))
    (n_NoAnswer : PySem.W.nsIn K mainGlobals "NoAnswer" = some (some (.ref c_NoAnswer)))
    (n_NoDay : PySem.W.nsIn K mainGlobals "NoDay" = some (some (.ref c_NoDay)))
    (n_NothingLeft : PySem.W.nsIn K mainGlobals "NothingLeft" = some (some (.ref c_NothingLeft)))
    (n_NoRow : PySem.W.nsIn K mainGlobals "NoRow" = some (some (.ref c_NoRow)))
    (n_Lacks : PySem.W.nsIn K mainGlobals "Lacks" = some (some (.ref c_Lacks)))
    (ec : excTab K c_FairError [c_NoOffice, c_NoDays, c_NoDesk, c_NoHouse, c_NoBody, c_NoName, c_NoLetter, c_NotNow, c_NoDraft, c_TooMany, c_TooLong, c_NoCount, c_NoLine, c_NoText, c_NoCopy, c_NoSlip, c_Twice, c_NoNumber, c_NoThing, c_Gone, c_NoAnswer, c_NoDay, c_NothingLeft, c_NoRow, c_Lacks] = true)
    (er_NoText : excRaise K c_NoText = true) :
    ∃ fd : FuncData, (∀ (s : Shared) (v : Value), BindsTo s fd ⟨[v], []⟩ [("script", v)]) ∧ ∀ base : Heap, K.In base → base.Ns mainGlobals mg → FnOk l.prog w K mg base CX0 20 fa fd ["script"] (spLaw K) := by
  have e := hfa.symm.trans (PySem.W.mg_of X G a28)
  cases e
  have T : Tx K mg := {
    f_is_number := f0,
    fd_is_number := _,
    d_is_number := df_mk (st := s_is_number) (ps := ps_is_number) X G a0 l0 c0 k0 (fun _ _ _ _ _ _ us hl => match us, hl with | [_], _ => rfl),
    f_is_line := f1,
    fd_is_line := _,
    d_is_line := df_mk (st := s_is_line) (ps := ps_is_line) X G a1 l1 c1 k1 (fun _ _ _ _ _ _ us hl => match us, hl with | [_], _ => rfl),
    f_is_body := f2,
    fd_is_body := _,
    d_is_body := df_mk (st := s_is_body) (ps := ps_is_body) X G a2 l2 c2 k2 (fun _ _ _ _ _ _ us hl => match us, hl with | [_], _ => rfl),
    f_place_of := f3,
    fd_place_of := _,
    d_place_of := df_mk (st := s_place_of) (ps := ps_place_of) X G a3 l3 c3 k3 (fun _ _ _ _ _ _ us hl => match us, hl with | [_], _ => rfl),
    f_is_edit := f4,
    fd_is_edit := _,
    d_is_edit := df_mk (st := s_is_edit) (ps := ps_is_edit) X G a4 l4 c4 k4 (fun _ _ _ _ _ _ us hl => match us, hl with | [_, _], _ => rfl),
    f_is_draft := f5,
    fd_is_draft := _,
    d_is_draft := df_mk (st := s_is_draft) (ps := ps_is_draft) X G a5 l5 c5 k5 (fun _ _ _ _ _ _ us hl => match us, hl with | [_, _], _ => rfl),
    f_body_text := f6,
    fd_body_text := _,
    d_body_text := df_mk (st := s_body_text) (ps := ps_body_text) X G a6 l6 c6 k6 (fun _ _ _ _ _ _ us hl => match us, hl with | [_], _ => rfl),
    f_edit_text := f7,
    fd_edit_text := _,
    d_edit_text := df_mk (st := s_edit_text) (ps := ps_edit_text) X G a7 l7 c7 k7 (fun _ _ _ _ _ _ us hl => match us, hl with | [_], _ => rfl),
    f_draft_text := f8,
    fd_draft_text := _,
    d_draft_text := df_mk (st := s_draft_text) (ps := ps_draft_text) X G a8 l8 c8 k8 (fun _ _ _ _ _ _ us hl => match us, hl with | [_], _ => rfl),
    f_need_text := f9,
    fd_need_text := _,
    d_need_text := df_mk (st := s_need_text) (ps := ps_need_text) X G a9 l9 c9 k9 (fun _ _ _ _ _ _ us hl => match us, hl with | [_], _ => rfl),
    f_read_number := f10,
    fd_read_number := _,
    d_read_number := df_mk (st := s_read_number) (ps := ps_read_number) X G a10 l10 c10 k10 (fun _ _ _ _ _ _ us hl => match us, hl with | [_], _ => rfl),
    f_read_body := f11,
    fd_read_body := _,
    d_read_body := df_mk (st := s_read_body) (ps := ps_read_body) X G a11 l11 c11 k11 (fun _ _ _ _ _ _ us hl => match us, hl with | [_], _ => rfl),
    f_read_edit := f12,
    fd_read_edit := _,
    d_read_edit := df_mk (st := s_read_edit) (ps := ps_read_edit) X G a12 l12 c12 k12 (fun _ _ _ _ _ _ us hl => match us, hl with | [_], _ => rfl),
    f_read_draft := f13,
    fd_read_draft := _,
    d_read_draft := df_mk (st := s_read_draft) (ps := ps_read_draft) X G a13 l13 c13 k13 (fun _ _ _ _ _ _ us hl => match us, hl with | [_], _ => rfl),
    f_law_draw := f14,
    fd_law_draw := _,
    d_law_draw := df_mk (st := s_law_draw) (ps := ps_law_draw) X G a14 l14 c14 k14 (fun _ _ _ _ _ _ us hl => match us, hl with | [_, _], _ => rfl),
    f_law_whole := f15,
    fd_law_whole := _,
    d_law_whole := df_mk (st := s_law_whole) (ps := ps_law_whole) X G a15 l15 c15 k15 (fun _ _ _ _ _ _ us hl => match us, hl with | [_], _ => rfl),
    f_law_word := f16,
    fd_law_word := _,
    d_law_word := df_mk (st := s_law_word) (ps := ps_law_word) X G a16 l16 c16 k16 (fun _ _ _ _ _ _ us hl => match us, hl with | [_], _ => rfl),
    f_law_a_line := f17,
    fd_law_a_line := _,
    d_law_a_line := df_mk (st := s_law_a_line) (ps := ps_law_a_line) X G a17 l17 c17 k17 (fun _ _ _ _ _ _ us hl => match us, hl with | [_], _ => rfl),
    f_law_an_edit := f18,
    fd_law_an_edit := _,
    d_law_an_edit := df_mk (st := s_law_an_edit) (ps := ps_law_an_edit) X G a18 l18 c18 k18 (fun _ _ _ _ _ _ us hl => match us, hl with | [_, _, _, _], _ => rfl),
    f_law_a_draft := f19,
    fd_law_a_draft := _,
    d_law_a_draft := df_mk (st := s_law_a_draft) (ps := ps_law_a_draft) X G a19 l19 c19 k19 (fun _ _ _ _ _ _ us hl => match us, hl with | [_, _, _], _ => rfl),
    f_law_any := f20,
    fd_law_any := _,
    d_law_any := df_mk (st := s_law_any) (ps := ps_law_any) X G a20 l20 c20 k20 (fun _ _ _ _ _ _ us hl => match us, hl with | [_, _], _ => rfl),
    f_law_is_line := f21,
    fd_law_is_line := _,
    d_law_is_line := df_mk (st := s_law_is_line) (ps := ps_law_is_line) X G a21 l21 c21 k21 (fun _ _ _ _ _ _ us hl => match us, hl with | [_], _ => rfl),
    f_law_is_body := f22,
    fd_law_is_body := _,
    d_law_is_body := df_mk (st := s_law_is_body) (ps := ps_law_is_body) X G a22 l22 c22 k22 (fun _ _ _ _ _ _ us hl => match us, hl with | [_], _ => rfl),
    f_law_is_edit := f23,
    fd_law_is_edit := _,
    d_law_is_edit := df_mk (st := s_law_is_edit) (ps := ps_law_is_edit) X G a23 l23 c23 k23 (fun _ _ _ _ _ _ us hl => match us, hl with | [_, _], _ => rfl),
    f_law_is_draft := f24,
    fd_law_is_draft := _,
    d_law_is_draft := df_mk (st := s_law_is_draft) (ps := ps_law_is_draft) X G a24 l24 c24 k24 (fun _ _ _ _ _ _ us hl => match us, hl with | [_, _], _ => rfl),
    f_law_tried := f25,
    fd_law_tried := _,
    d_law_tried := df_mk (st := s_law_tried) (ps := ps_law_tried) X G a25 l25 c25 k25 (fun _ _ _ _ _ _ us hl => match us, hl with | [_], _ => rfl),
    f_law_edit := f26,
    fd_law_edit := _,
    d_law_edit := df_mk (st := s_law_edit) (ps := ps_law_edit) X G a26 l26 c26 k26 (fun _ _ _ _ _ _ us hl => match us, hl with | [_], _ => rfl),
    f_law_due := f27,
    fd_law_due := _,
    d_law_due := df_mk (st := s_law_due) (ps := ps_law_due) X G a27 l27 c27 k27 (fun _ _ _ _ _ _ us hl => match us, hl with | [_], _ => rfl),
    b_ValueError := PySem.W.mg_none_of X G z_ValueError,
    b_all := PySem.W.mg_none_of X G z_all,
    b_bool := PySem.W.mg_none_of X G z_bool,
    b_int := PySem.W.mg_none_of X G z_int,
    b_isinstance := PySem.W.mg_none_of X G z_isinstance,
    b_len := PySem.W.mg_none_of X G z_len,
    b_list := PySem.W.mg_none_of X G z_list,
    b_max := PySem.W.mg_none_of X G z_max,
    b_min := PySem.W.mg_none_of X G z_min,
    b_range := PySem.W.mg_none_of X G z_range,
    b_set := PySem.W.mg_none_of X G z_set,
    b_sorted := PySem.W.mg_none_of X G z_sorted,
    b_str := PySem.W.mg_none_of X G z_str,
    b_tuple := PySem.W.mg_none_of X G z_tuple,
    g_SMALL := ⟨u_SMALL, PySem.W.mg_of X G g_SMALL, r_SMALL⟩,
    g_MOST_SIGNS := ⟨u_MOST_SIGNS, PySem.W.mg_of X G g_MOST_SIGNS, r_MOST_SIGNS⟩,
    g_MOST_LINES := ⟨u_MOST_LINES, PySem.W.mg_of X G g_MOST_LINES, r_MOST_LINES⟩,
    g_MOST_PUT := ⟨u_MOST_PUT, PySem.W.mg_of X G g_MOST_PUT, r_MOST_PUT⟩,
    g_MOST_EDITS := ⟨u_MOST_EDITS, PySem.W.mg_of X G g_MOST_EDITS, r_MOST_EDITS⟩,
    g_FIGURES := ⟨u_FIGURES, PySem.W.mg_of X G g_FIGURES, r_FIGURES⟩,
    g_MOST_FIGURES := ⟨u_MOST_FIGURES, PySem.W.mg_of X G g_MOST_FIGURES, r_MOST_FIGURES⟩,
    a_LONGEST := a_LONGEST, g_LONGEST := PySem.W.mg_of X G g_LONGEST, r_LONGEST := rv_rep t_LONGEST v_LONGEST (by decide),
    c_FairError := c_FairError, g_FairError := PySem.W.mg_of X G n_FairError,
    c_NoOffice := c_NoOffice, g_NoOffice := PySem.W.mg_of X G n_NoOffice,
    c_NoDays := c_NoDays, g_NoDays := PySem.W.mg_of X G n_NoDays,
    c_NoDesk := c_NoDesk, g_NoDesk := PySem.W.mg_of X G n_NoDesk,
    c_NoHouse := c_NoHouse, g_NoHouse := PySem.W.mg_of X G n_NoHouse,
    c_NoBody := c_NoBody, g_NoBody := PySem.W.mg_of X G n_NoBody,
    c_NoName := c_NoName, g_NoName := PySem.W.mg_of X G n_NoName,
    c_NoLetter := c_NoLetter, g_NoLetter := PySem.W.mg_of X G n_NoLetter,
    c_NotNow := c_NotNow, g_NotNow := PySem.W.mg_of X G n_NotNow,
    c_NoDraft := c_NoDraft, g_NoDraft := PySem.W.mg_of X G n_NoDraft,
    c_TooMany := c_TooMany, g_TooMany := PySem.W.mg_of X G n_TooMany,
    c_TooLong := c_TooLong, g_TooLong := PySem.W.mg_of X G n_TooLong,
    c_NoCount := c_NoCount, g_NoCount := PySem.W.mg_of X G n_NoCount,
    c_NoLine := c_NoLine, g_NoLine := PySem.W.mg_of X G n_NoLine,
    c_NoText := c_NoText, g_NoText := PySem.W.mg_of X G n_NoText,
    c_NoCopy := c_NoCopy, g_NoCopy := PySem.W.mg_of X G n_NoCopy,
    c_NoSlip := c_NoSlip, g_NoSlip := PySem.W.mg_of X G n_NoSlip,
    c_Twice := c_Twice, g_Twice := PySem.W.mg_of X G n_Twice,
    c_NoNumber := c_NoNumber, g_NoNumber := PySem.W.mg_of X G n_NoNumber,
    c_NoThing := c_NoThing, g_NoThing := PySem.W.mg_of X G n_NoThing,
    c_Gone := c_Gone, g_Gone := PySem.W.mg_of X G n_Gone,
    c_NoAnswer := c_NoAnswer, g_NoAnswer := PySem.W.mg_of X G n_NoAnswer,
    c_NoDay := c_NoDay, g_NoDay := PySem.W.mg_of X G n_NoDay,
    c_NothingLeft := c_NothingLeft, g_NothingLeft := PySem.W.mg_of X G n_NothingLeft,
    c_NoRow := c_NoRow, g_NoRow := PySem.W.mg_of X G n_NoRow,
    c_Lacks := c_Lacks, g_Lacks := PySem.W.mg_of X G n_Lacks,
    ec := ec,
    er_NoText := er_NoText }
  exact ⟨_, fun s v => .of_eq rfl, fun base _ _ => ok_law T (df_mk (st := s_law) (ps := ps_law) X G a28 l28 c28 k28 (fun _ _ _ _ _ _ us hl => match us, hl with | [_], _ => rfl))⟩
end Lw
open PySem PySem.W PyProof.Rows
set_option maxHeartbeats 0 in
theorem PySem.Challenge.cw_faircopy_k32_whole_draft_texts_spoilt_holds : PySem.Challenge.rw_faircopy_k32_whole_draft_texts_spoilt.Holds := by
  w_on; o_law; k_head; (case hw => w_witness2)
  k_fill
  refine L2.walk_of (l := PySem.Challenge.rw_faircopy_k32_whole_draft_texts_spoilt) (n := 63) (k := 20) (x := "script") (CX := fun _ => L2.CX0) (sp := fun w => Fc.spLaw _) rfl (by decide) rfl ⟨rfl, by decide, by decide⟩ (fun w h Y => PySem.W.kIn_of Y) ?F (fun _ _ a ns hl _ hS => ⟨a, ns, rfl, hS, hl, fun _ => rfl⟩) (fun _ _ _ _ _ h => h)
  case F =>
    intro w mg fa h KX G hmg
    refine' Lw.all_mk KX G hmg ?a0 ?l0 ?c0 ?k0 ?a1 ?l1 ?c1 ?k1 ?a2 ?l2 ?c2 ?k2 ?a3 ?l3 ?c3 ?k3 ?a4 ?l4 ?c4 ?k4 ?a5 ?l5 ?c5 ?k5 ?a6 ?l6 ?c6 ?k6 ?a7 ?l7 ?c7 ?k7 ?a8 ?l8 ?c8 ?k8 ?a9 ?l9 ?c9 ?k9 ?a10 ?l10 ?c10 ?k10 ?a11 ?l11 ?c11 ?k11 ?a12 ?l12 ?c12 ?k12 ?a13 ?l13 ?c13 ?k13 ?a14 ?l14 ?c14 ?k14 ?a15 ?l15 ?c15 ?k15 ?a16 ?l16 ?c16 ?k16 ?a17 ?l17 ?c17 ?k17 ?a18 ?l18 ?c18 ?k18 ?a19 ?l19 ?c19 ?k19 ?a20 ?l20 ?c20 ?k20 ?a21 ?l21 ?c21 ?k21 ?a22 ?l22 ?c22 ?k22 ?a23 ?l23 ?c23 ?k23 ?a24 ?l24 ?c24 ?k24 ?a25 ?l25 ?c25 ?k25 ?a26 ?l26 ?c26 ?k26 ?a27 ?l27 ?c27 ?k27 ?a28 ?l28 ?c28 ?k28 ?z_ValueError ?z_all ?z_bool ?z_int ?z_isinstance ?z_len ?z_list ?z_max ?z_min ?z_range ?z_set ?z_sorted ?z_str ?z_tuple ?g_SMALL ?r_SMALL ?g_MOST_SIGNS ?r_MOST_SIGNS ?g_MOST_LINES ?r_MOST_LINES ?g_MOST_PUT ?r_MOST_PUT ?g_MOST_EDITS ?r_MOST_EDITS ?g_FIGURES ?r_FIGURES ?g_MOST_FIGURES ?r_MOST_FIGURES ?g_LONGEST ?t_LONGEST ?v_LONGEST ?n_FairError ?n_NoOffice ?n_NoDays ?n_NoDesk ?n_NoHouse ?n_NoBody ?n_NoName ?n_NoLetter ?n_NotNow ?n_NoDraft ?n_TooMany ?n_TooLong ?n_NoCount ?n_NoLine ?n_NoText ?n_NoCopy ?n_NoSlip ?n_Twice ?n_NoNumber ?n_NoThing ?n_Gone ?n_NoAnswer ?n_NoDay ?n_NothingLeft ?n_NoRow ?n_Lacks ?ec ?er_NoText
    (case a0 => k_is); (case l0 => k_is); (case c0 => k_is); (case k0 => k_is); (case a1 => k_is); (case l1 => k_is); (case c1 => k_is); (case k1 => k_is); (case a2 => k_is); (case l2 => k_is); (case c2 => k_is); (case k2 => k_is); (case a3 => k_is); (case l3 => k_is); (case c3 => k_is); (case k3 => k_is); (case a4 => k_is); (case l4 => k_is); (case c4 => k_is); (case k4 => k_is); (case a5 => k_is); (case l5 => k_is); (case c5 => k_is); (case k5 => k_is); (case a6 => k_is); (case l6 => k_is); (case c6 => k_is); (case k6 => k_is); (case a7 => k_is); (case l7 => k_is); (case c7 => k_is); (case k7 => k_is); (case a8 => k_is); (case l8 => k_is); (case c8 => k_is); (case k8 => k_is); (case a9 => k_is); (case l9 => k_is); (case c9 => k_is); (case k9 => k_is); (case a10 => k_is); (case l10 => k_is); (case c10 => k_is); (case k10 => k_is); (case a11 => k_is); (case l11 => k_is); (case c11 => k_is); (case k11 => k_is); (case a12 => k_is); (case l12 => k_is); (case c12 => k_is); (case k12 => k_is); (case a13 => k_is); (case l13 => k_is); (case c13 => k_is); (case k13 => k_is); (case a14 => k_is); (case l14 => k_is); (case c14 => k_is); (case k14 => k_is); (case a15 => k_is); (case l15 => k_is); (case c15 => k_is); (case k15 => k_is); (case a16 => k_is); (case l16 => k_is); (case c16 => k_is); (case k16 => k_is); (case a17 => k_is); (case l17 => k_is); (case c17 => k_is); (case k17 => k_is); (case a18 => k_is); (case l18 => k_is); (case c18 => k_is); (case k18 => k_is); (case a19 => k_is); (case l19 => k_is); (case c19 => k_is); (case k19 => k_is); (case a20 => k_is); (case l20 => k_is); (case c20 => k_is); (case k20 => k_is); (case a21 => k_is); (case l21 => k_is); (case c21 => k_is); (case k21 => k_is); (case a22 => k_is); (case l22 => k_is); (case c22 => k_is); (case k22 => k_is); (case a23 => k_is); (case l23 => k_is); (case c23 => k_is); (case k23 => k_is); (case a24 => k_is); (case l24 => k_is); (case c24 => k_is); (case k24 => k_is); (case a25 => k_is); (case l25 => k_is); (case c25 => k_is); (case k25 => k_is); (case a26 => k_is); (case l26 => k_is); (case c26 => k_is); (case k26 => k_is); (case a27 => k_is); (case l27 => k_is); (case c27 => k_is); (case k27 => k_is); (case a28 => k_is); (case l28 => k_is); (case c28 => k_is); (case k28 => k_is); (case z_ValueError => k_is); (case z_all => k_is); (case z_bool => k_is); (case z_int => k_is); (case z_isinstance => k_is); (case z_len => k_is); (case z_list => k_is); (case z_max => k_is); (case z_min => k_is); (case z_range => k_is); (case z_set => k_is); (case z_sorted => k_is); (case z_str => k_is); (case z_tuple => k_is); (case g_SMALL => k_is); (case r_SMALL => first | exact ⟨_, rfl⟩ | rfl); (case g_MOST_SIGNS => k_is); (case r_MOST_SIGNS => first | exact ⟨_, rfl⟩ | rfl); (case g_MOST_LINES => k_is); (case r_MOST_LINES => first | exact ⟨_, rfl⟩ | rfl); (case g_MOST_PUT => k_is); (case r_MOST_PUT => first | exact ⟨_, rfl⟩ | rfl); (case g_MOST_EDITS => k_is); (case r_MOST_EDITS => first | exact ⟨_, rfl⟩ | rfl); (case g_FIGURES => k_is); (case r_FIGURES => first | exact ⟨_, rfl⟩ | rfl); (case g_MOST_FIGURES => k_is); (case r_MOST_FIGURES => first | exact ⟨_, rfl⟩ | rfl); (case g_LONGEST => k_is); (case t_LONGEST => k_is); (case v_LONGEST => repeat (first | exact .nil | refine .cons ⟨_, rfl⟩ ?_)); (case n_FairError => k_is); (case n_NoOffice => k_is); (case n_NoDays => k_is); (case n_NoDesk => k_is); (case n_NoHouse => k_is); (case n_NoBody => k_is); (case n_NoName => k_is); (case n_NoLetter => k_is); (case n_NotNow => k_is); (case n_NoDraft => k_is); (case n_TooMany => k_is); (case n_TooLong => k_is); (case n_NoCount => k_is); (case n_NoLine => k_is); (case n_NoText => k_is); (case n_NoCopy => k_is); (case n_NoSlip => k_is); (case n_Twice => k_is); (case n_NoNumber => k_is); (case n_NoThing => k_is); (case n_Gone => k_is); (case n_NoAnswer => k_is); (case n_NoDay => k_is); (case n_NothingLeft => k_is); (case n_NoRow => k_is); (case n_Lacks => k_is); (case ec => kernel_rfl); (case er_NoText => kernel_rfl)
