import PyProof.Rows.All
import HandS.ForMost
import HandS.WordsExc
import HandS.IsInst
import HandS.TupAny
import HandS.TupMul
import HandS.Wide
import HandS.Style
import HandS.Zip
import HandS.Deep
import HandS.Lambda
import HandS.ExcOwn
import HandS.ExcIs
import HandS.SetFor
import HandS.EndTab
import KE.KRevSl
import PySem.Challenge.RW_growurns_k52_the_next_draw
set_option Elab.async false
set_option linter.all false
set_option maxRecDepth 100000
set_option maxHeartbeats 4000000
/-! GD: readings of the hand layer answered by plain functions over data trees. -/
namespace GD
open PySem PySem.Spec PyProof.Rows L2

abbrev D := PyData

structure CT where
  P : Program
  w : World
  K : PySem.W.Frag
  mg : Str → Option Value
  /-- the tables of code objects that the frame's lambdas are noted in -/
  T : List (Addr × Str)
  /-- the caught error that is held, its class -/
  X : Option (Addr × Addr)

/-! ### results -/
inductive Re (α : Type) where
  | ok (a : α)
  | ex (c : Str)
  | no
def Re.bind {α β : Type} (x : Re α) (f : α → Re β) : Re β := match x with
  | .ok a => f a
  | .ex c => .ex c
  | .no => .no
instance : Monad Re where
  pure := Re.ok
  bind := Re.bind
@[simp] theorem Re.ok_bind {α β : Type} (a : α) (f : α → Re β) : (Re.ok a >>= f) = f a := rfl
@[simp] theorem Re.ex_bind {α β : Type} (c : Str) (f : α → Re β) : (Re.ex c >>= f) = Re.ex c := rfl
@[simp] theorem Re.no_bind {α β : Type} (f : α → Re β) : (Re.no >>= f) = Re.no := rfl
@[simp] theorem Re.pure_eq {α : Type} (a : α) : (pure a : Re α) = Re.ok a := rfl
@[simp] theorem Re.bind_def {α β : Type} (x : Re α) (f : α → Re β) : Re.bind x f = (x >>= f) := rfl

/-- a slot: nothing known; a datum; a list of one's own that may be changed (own: made here; else the caller's) -/
inductive Sl where
  | un
  | da (d : D)
  | ml (own : Bool) (ds : List D)
/-- a value: a datum; a list just made; the list that stands in slot i -/
inductive Rv where
  | da (d : D)
  | fl (ds : List D)
  | bl (i : Nat)
abbrev G := List Sl
def Rv.dat (g : G) : Rv → Option D
  | .da d => some d
  | .fl ds => some (.list ds)
  | .bl i => match g[i]? with
    | some (.ml _ ds) => some (.list ds)
    | _ => none
@[simp] theorem Rv.dat_da (g : G) (d : D) : (Rv.da d).dat g = some d := rfl
@[simp] theorem Rv.dat_fl (g : G) (ds : List D) : (Rv.fl ds).dat g = some (.list ds) := rfl
def datL (g : G) : List Rv → Option (List D)
  | [] => some []
  | r :: rs => match r.dat g with
    | some d => (datL g rs).map (d :: ·)
    | none => none
@[simp] theorem datL_nil (g : G) : datL g [] = some [] := rfl
abbrev M (α : Type) := G → Re (α × G)

/-! ### data in the abstract heap -/
mutual
inductive Rp (c : CT) (H : Hp) : V → D → Prop
  | non : Rp c H .non .none
  | bl (b : Bool) : Rp c H (.bl b) (.bool b)
  | int (i : Int) : Rp c H (.int i) (.int i)
  | str (x : Str) : Rp c H (.str x) (.str x)
  | lst {a : Addr} {xs : List V} {ds : List D} : Rd H a (.lst xs) → RpL c H xs ds → Rp c H (.ref a) (.list ds)
  | tup {a : Addr} {xs : List V} {ds : List D} : SqT c.K H a xs → RpL c H xs ds → Rp c H (.ref a) (.tuple ds)
  | dct0 {a : Addr} : H a = some (.dK []) → Rp c H (.ref a) (.dict [])
  | dcti {a : Addr} {k v : Int} : H a = some (.dK [(.inl k, .int v)]) → Rp c H (.ref a) (.dict [(.int k, .int v)])
  /-- the caught error -/
  | exc {a C : Addr} {nm : Str} : c.X = some (a, C) → c.mg nm = some (.ref C) → Rp c H (.ref a) (.dict [(.bool false, .str nm)])
  /-- the law's script: a list that may stand in the written part -/
  | scr {a : Addr} {xs : List V} {ds : List D} : SqL c.K H a xs → RpL c H xs ds → Rp c H (.ref a) (.dict [(.none, .list ds)])
inductive RpL (c : CT) (H : Hp) : List V → List D → Prop
  | nil : RpL c H [] []
  | cons {v : V} {vs : List V} {d : D} {ds : List D} : Rp c H v d → RpL c H vs ds → RpL c H (v :: vs) (d :: ds)
end

theorem same_rd {H H' : Hp} {a : Addr} {u : HO} (e : Same H H') (h : Rd H a u) : Rd H' a u := by
  rcases h with h | ⟨o, h⟩
  · exact .inl (e _ _ h)
  · exact .inr ⟨o, e _ _ h⟩
theorem same_l {K : PySem.W.Frag} {H H' : Hp} {a : Addr} {xs : List V} (e : Same H H') (h : SqL K H a xs) : SqL K H' a xs := by
  rcases h with h | h
  · exact .inl (same_rd e h)
  · exact .inr h
theorem same_t {K : PySem.W.Frag} {H H' : Hp} {a : Addr} {xs : List V} (e : Same H H') (h : SqT K H a xs) : SqT K H' a xs := by
  rcases h with h | h
  · exact .inl (same_rd e h)
  · exact .inr h

mutual
theorem Rp.same {c : CT} {H H' : Hp} (e : Same H H') : ∀ {d : D} {v : V}, Rp c H v d → Rp c H' v d
  | .none, _, .non => .non
  | .bool _, _, .bl b => .bl b
  | .int _, _, .int i => .int i
  | .str _, _, .str x => .str x
  | .list _, _, .lst h r => .lst (same_rd e h) (RpL.same e r)
  | .tuple _, _, .tup h r => .tup (same_t e h) (RpL.same e r)
  | .dict _, _, .dct0 h => .dct0 (e _ _ h)
  | .dict _, _, .dcti h => .dcti (e _ _ h)
  | .dict _, _, .exc h1 h2 => .exc h1 h2
  | .dict _, _, .scr h r => .scr (same_l e h) (RpL.same e r)
theorem RpL.same {c : CT} {H H' : Hp} (e : Same H H') : ∀ {ds : List D} {vs : List V}, RpL c H vs ds → RpL c H' vs ds
  | [], _, .nil => .nil
  | _ :: _, _, .cons h r => .cons (Rp.same e h) (RpL.same e r)
end
mutual
theorem Rp.cast {c c' : CT} {H : Hp} (hK : c'.K = c.K) (hm : c'.mg = c.mg) (hX : c'.X = c.X) : ∀ {d : D} {v : V}, Rp c H v d → Rp c' H v d
  | .none, _, .non => .non
  | .bool _, _, .bl b => .bl b
  | .int _, _, .int i => .int i
  | .str _, _, .str x => .str x
  | .list _, _, .lst h r => .lst h (RpL.cast hK hm hX r)
  | .tuple _, _, .tup h r => .tup (by rw [hK]; exact h) (RpL.cast hK hm hX r)
  | .dict _, _, .dct0 h => .dct0 h
  | .dict _, _, .dcti h => .dcti h
  | .dict _, _, .exc h1 h2 => .exc (by rw [hX]; exact h1) (by rw [hm]; exact h2)
  | .dict _, _, .scr h r => .scr (by rw [hK]; exact h) (RpL.cast hK hm hX r)
theorem RpL.cast {c c' : CT} {H : Hp} (hK : c'.K = c.K) (hm : c'.mg = c.mg) (hX : c'.X = c.X) : ∀ {ds : List D} {vs : List V}, RpL c H vs ds → RpL c' H vs ds
  | [], _, .nil => .nil
  | _ :: _, _, .cons h r => .cons (Rp.cast hK hm hX h) (RpL.cast hK hm hX r)
end
theorem RpL.length {c : CT} {H : Hp} : ∀ {vs : List V} {ds : List D}, RpL c H vs ds → vs.length = ds.length
  | _, _, .nil => rfl
  | _, _, .cons _ r => by rw [List.length_cons, List.length_cons, r.length]
theorem RpL.append {c : CT} {H : Hp} : ∀ {vs us : List V} {ds es : List D}, RpL c H vs ds → RpL c H us es → RpL c H (vs ++ us) (ds ++ es)
  | _, _, _, _, .nil, r => r
  | _, _, _, _, .cons h r, q => .cons h (r.append q)
theorem RpL.get {c : CT} {H : Hp} : ∀ {vs : List V} {ds : List D} {i : Nat} {d : D}, RpL c H vs ds → ds[i]? = some d → ∃ v, vs[i]? = some v ∧ Rp c H v d
  | _, _, _, _, .nil, e => by simp at e
  | _, _, 0, _, .cons h r, e => by simp at e; subst e; exact ⟨_, rfl, h⟩
  | _, _, i + 1, d, .cons h r, e => by
    obtain ⟨v, h1, h2⟩ := RpL.get (i := i) (d := d) r (by simpa using e)
    exact ⟨v, by simpa using h1, h2⟩
theorem RpL.take {c : CT} {H : Hp} : ∀ {vs : List V} {ds : List D} (n : Nat), RpL c H vs ds → RpL c H (vs.take n) (ds.take n)
  | _, _, 0, _ => .nil
  | _, _, _ + 1, .nil => .nil
  | _, _, n + 1, .cons h r => .cons h (r.take n)
theorem RpL.drop {c : CT} {H : Hp} : ∀ {vs : List V} {ds : List D} (n : Nat), RpL c H vs ds → RpL c H (vs.drop n) (ds.drop n)
  | _, _, 0, r => r
  | _, _, _ + 1, .nil => .nil
  | _, _, n + 1, .cons _ r => r.drop n
theorem RpL.set {c : CT} {H : Hp} {v : V} {d : D} (h : Rp c H v d) : ∀ {vs : List V} {ds : List D} (i : Nat), RpL c H vs ds → RpL c H (vs.set i v) (ds.set i d)
  | _, _, _, .nil => .nil
  | _, _, 0, .cons _ r => .cons h r
  | _, _, i + 1, .cons q r => .cons q (RpL.set h i r)
theorem RpL.erase {c : CT} {H : Hp} : ∀ {vs : List V} {ds : List D} (i : Nat), RpL c H vs ds → RpL c H (vs.eraseIdx i) (ds.eraseIdx i)
  | _, _, _, .nil => .nil
  | _, _, 0, .cons _ r => r
  | _, _, i + 1, .cons q r => .cons q (RpL.erase i r)

/-! data without dicts: as the library reads them -/
mutual
def nodict : D → Bool
  | .list ds => nodictL ds
  | .tuple ds => nodictL ds
  | .dict _ => false
  | _ => true
def nodictL : List D → Bool
  | [] => true
  | d :: ds => nodict d && nodictL ds
end
mutual
theorem Rp.dp {c : CT} {H : Hp} : ∀ {d : D} {v : V}, nodict d = true → Rp c H v d → Dp c.K H v d
  | .none, _, _, .non => .non
  | .bool _, _, _, .bl b => .bl b
  | .int _, _, _, .int i => .int i
  | .str _, _, _, .str x => .str x
  | .list _, _, n, .lst h r => .lst (.inl h) (RpL.dp (by simpa [nodict] using n) r)
  | .tuple _, _, n, .tup h r => .tup h (RpL.dp (by simpa [nodict] using n) r)
  | .dict _, _, n, _ => by simp [nodict] at n
theorem RpL.dp {c : CT} {H : Hp} : ∀ {ds : List D} {vs : List V}, nodictL ds = true → RpL c H vs ds → DpAll c.K H vs ds
  | [], _, _, .nil => .nil
  | _ :: _, _, n, .cons h r => by
    simp [nodictL] at n
    exact .cons (Rp.dp n.1 h) (RpL.dp n.2 r)
end
mutual
theorem nodict_of_lay : ∀ {d : D}, d.canLay0 = true → nodict d = true
  | .none, _ => by simp [nodict]
  | .bool _, _ => by simp [nodict]
  | .int _, _ => by simp [nodict]
  | .str _, _ => by simp [nodict]
  | .list xs, h => by
    simp only [nodict]
    exact nodictL_of_lay (by simpa [PyData.canLay0] using h)
  | .tuple xs, h => by
    simp only [nodict]
    exact nodictL_of_lay (by simpa [PyData.canLay0] using h)
  | .dict _, h => by simp [PyData.canLay0] at h
theorem nodictL_of_lay : ∀ {ds : List D}, PyData.canLayAll0 ds = true → nodictL ds = true
  | [], _ => by simp [nodictL]
  | d :: ds, h => by
    simp [PyData.canLayAll0] at h
    simp [nodictL, nodict_of_lay h.1, nodictL_of_lay h.2]
end
theorem nodict_of_shaped {d : D} (h : SeqAt.shaped d = true) : nodict d = true := nodict_of_lay (SeqAt.canLay_of_shaped h)

/-! ### what may not be seen: the lists that change -/
def hid (hs : List Addr) (H : Hp) : Hp := fun a => if a ∈ hs then none else H a
theorem hid_in {hs : List Addr} {H : Hp} {a : Addr} (h : a ∈ hs) : hid hs H a = none := if_pos h
theorem hid_out {hs : List Addr} {H : Hp} {a : Addr} (h : a ∉ hs) : hid hs H a = H a := if_neg h
theorem hid_le {hs : List Addr} {H : Hp} : Same (hid hs H) H := fun b o e => by
  unfold hid at e
  split at e
  · cases e
  · exact e
theorem hid_sub {hs hs' : List Addr} {H : Hp} (h : ∀ a ∈ hs', a ∈ hs) : Same (hid hs H) (hid hs' H) := fun b o e => by
  by_cases hb : b ∈ hs
  · rw [hid_in hb] at e; cases e
  · rw [hid_out hb] at e
    rw [hid_out fun z => hb (h b z)]
    exact e
theorem hid_mono {hs : List Addr} {H H' : Hp} (e : Same H H') : Same (hid hs H) (hid hs H') := fun b o q => by
  by_cases hb : b ∈ hs
  · rw [hid_in hb] at q; cases q
  · rw [hid_out hb] at q ⊢
    exact e b o q
theorem hid_upd {hs : List Addr} {H : Hp} {a : Addr} {o : HO} (h : a ∈ hs) : hid hs (upd H a o) = hid hs H := by
  funext b
  unfold hid
  split
  · rfl
  · rename_i hb
    exact upd_ne fun z => hb (z ▸ h)
theorem same_new {H : Hp} {p : Addr} {o : HO} (h : H p = none) : Same H (upd H p o) := fun a u e => by
  rw [upd_ne (ne_of_none e h)]
  exact e
theorem fresh_back {H H' : Hp} {p : Addr} (e : Same H H') (h : H' p = none) : H p = none := e.free h
theorem sz_of {n : Nat} (h : n ≤ 1000000) : n ≤ sizeLine := Nat.le_trans h (by decide)
theorem sz_lt {n : Nat} (h : n < 1000000) : n < sizeLine := Nat.lt_of_lt_of_le h (by decide)

/-- what stands around: the heap at the def's entry, the addresses it may change, what the caller hides -/
structure Fx where
  H0 : Hp
  ps : List Addr
  hc : List Addr

def SlOk (c : CT) (F : Fx) (ms hs : List Addr) (H : Hp) (s : Option (Option V)) : Sl → Prop
  | .un => True
  | .da d => ∃ v, s = some (some v) ∧ Rp c (hid hs H) v d
  | .ml own ds => ∃ a vs, s = some (some (.ref a)) ∧ a ∈ ms ∧ (own = true → F.H0 a = none) ∧ (own = false → a ∈ F.ps) ∧ H a = some (.lst vs) ∧ RpL c (hid hs H) vs ds

theorem tab_but {H H' : Hp} {P a : Addr} {q : Str} {xs : List V} (t : LamX.TabS H P q) (ha : H a = some (.lst xs)) (k : ∀ b o, H b = some o → b ≠ a → H' b = some o) : LamX.TabS H' P q := by
  obtain ⟨ps, h1, h2, h3⟩ := t
  refine ⟨ps, k _ _ h1 (fun z => by rw [z, ha] at h1; cases h1), h2, fun pos cv hc => ?_⟩
  obtain ⟨z, e1, e2⟩ := h3 pos cv hc
  exact ⟨z, e1, k _ _ e2 fun y => by rw [y, ha] at e2; unfold LamX.CodeO at e2; cases e2⟩
structure Rel (c : CT) (F : Fx) (ms hs : List Addr) (g : G) (σ : L2.St) (H : Hp) : Prop where
  len : g.length = σ.length
  sl : ∀ (i : Nat) (γ : Sl), g[i]? = some γ → SlOk c F ms hs H σ[i]? γ
  dis : ∀ (i j : Nat) (oi : Bool) (di : List D) (oj : Bool) (dj : List D) (a : Addr), g[i]? = some (.ml oi di) → g[j]? = some (.ml oj dj) → σ[i]? = some (some (.ref a)) → σ[j]? = some (some (.ref a)) → i = j
  fr : ∀ b o, F.H0 b = some o → b ∉ F.ps → H b = some o
  tr : ∀ a ∈ hs, H a ≠ none
  sub : ∀ a ∈ F.hc, a ∈ hs
  pc : ∀ a ∈ F.ps, a ∈ F.hc
  oc : ∀ a ∈ F.hc, F.H0 a ≠ none
  mh : ∀ a ∈ ms, a ∈ hs
  tab : ∀ p ∈ c.T, (p.1 ∈ ms ∧ p.1 ∈ F.ps) ∧ LamX.TabS H p.1 p.2

theorem Rel.fresh {c : CT} {F : Fx} {ms hs : List Addr} {g : G} {σ : L2.St} {H : Hp} (r : Rel c F ms hs g σ H) {p : Addr} (h : H p = none) : p ∉ hs := fun z => r.tr p z h
theorem Rel.fresh0 {c : CT} {F : Fx} {ms hs : List Addr} {g : G} {σ : L2.St} {H : Hp} (r : Rel c F ms hs g σ H) {p : Addr} (h : H p = none) : F.H0 p = none := by
  cases e : F.H0 p with
  | none => rfl
  | some o =>
    by_cases hp : p ∈ F.ps
    · exact absurd h (r.tr p (r.sub p (r.pc p hp)))
    · rw [r.fr p o e hp] at h; cases h
theorem SlOk.grow {c : CT} {F : Fx} {ms hs : List Addr} {H H' : Hp} {s : Option (Option V)} {γ : Sl} (e : Same H H') (h : SlOk c F ms hs H s γ) : SlOk c F ms hs H' s γ := by
  cases γ with
  | un => exact True.intro
  | da d => obtain ⟨v, e1, r⟩ := h; exact ⟨v, e1, r.same (hid_mono e)⟩
  | ml own ds => obtain ⟨a, vs, e1, m, o1, o2, ha, r⟩ := h; exact ⟨a, vs, e1, m, o1, o2, e _ _ ha, r.same (hid_mono e)⟩
/-- new objects -/
theorem Rel.grow {c : CT} {F : Fx} {ms hs : List Addr} {g : G} {σ : L2.St} {H H' : Hp} (r : Rel c F ms hs g σ H) (e : Same H H') : Rel c F ms hs g σ H' where
  len := r.len
  sl := fun i γ h => (r.sl i γ h).grow e
  dis := r.dis
  fr := fun b o h hp => e _ _ (r.fr b o h hp)
  tr := fun a ha q => by
    cases z : H a with
    | none => exact r.tr a ha z
    | some o => rw [e _ _ z] at q; cases q
  sub := r.sub
  pc := r.pc
  oc := r.oc
  mh := r.mh
  tab := fun p hp => ⟨(r.tab p hp).1, (r.tab p hp).2.ext e⟩
/-- a list of one's own is changed -/
theorem Rel.write {c : CT} {F : Fx} {ms hs : List Addr} {g : G} {σ : L2.St} {H : Hp} (r : Rel c F ms hs g σ H) {i : Nat} {own : Bool} {ds ds' : List D} {a : Addr} {vs' : List V}
    (hi : g[i]? = some (.ml own ds)) (ha : σ[i]? = some (some (.ref a))) (hr : RpL c (hid hs H) vs' ds') : Rel c F ms hs (g.set i (.ml own ds')) σ (upd H a (.lst vs')) := by
  obtain ⟨a', vs, e1, m, o1, o2, h1, _⟩ := r.sl i _ hi
  rw [ha] at e1
  cases e1
  refine ⟨by rw [List.length_set]; exact r.len, fun j γ hj => ?_, fun j k oj dj ok dk b hj hk e1 e2 => ?_, fun b o hb hp => ?_, fun b hb q => ?_, r.sub, r.pc, r.oc, r.mh, fun p hp => ⟨(r.tab p hp).1, tab_but (r.tab p hp).2 h1 fun b o z n => by rw [upd_ne n]; exact z⟩⟩
  · by_cases e : i = j
    · subst e
      rw [List.getElem?_set_self (List.getElem?_eq_some_iff.mp hi).1] at hj
      cases hj
      exact ⟨a, vs', ha, m, o1, o2, upd_same, by rw [hid_upd (r.mh _ m)]; exact hr⟩
    · rw [List.getElem?_set_ne e] at hj
      have q := r.sl j γ hj
      cases γ with
      | un => exact True.intro
      | da d => obtain ⟨v, e1, x⟩ := q; exact ⟨v, e1, by rw [hid_upd (r.mh _ m)]; exact x⟩
      | ml oj dj =>
        obtain ⟨b, ws, e1, m', p1, p2, hb, x⟩ := q
        have hne : b ≠ a := fun z => e (r.dis i j own ds oj dj a hi hj ha (z ▸ e1))
        exact ⟨b, ws, e1, m', p1, p2, by rw [upd_ne hne]; exact hb, by rw [hid_upd (r.mh _ m)]; exact x⟩
  · have back : ∀ {j : Nat} {oj : Bool} {dj : List D}, (g.set i (.ml own ds'))[j]? = some (.ml oj dj) → ∃ o d, g[j]? = some (.ml o d) := fun {j oj dj} hj => by
      by_cases e : i = j
      · subst e; exact ⟨_, _, hi⟩
      · rw [List.getElem?_set_ne e] at hj; exact ⟨_, _, hj⟩
    obtain ⟨_, _, q1⟩ := back hj
    obtain ⟨_, _, q2⟩ := back hk
    exact r.dis _ _ _ _ _ _ b q1 q2 e1 e2
  · by_cases e : b = a
    · subst e
      cases own with
      | true => rw [o1 rfl] at hb; cases hb
      | false => exact absurd (o2 rfl) hp
    · rw [upd_ne e]; exact r.fr b o hb hp
  · by_cases e : b = a
    · subst e; rw [upd_same] at q; cases q
    · rw [upd_ne e] at q; exact r.tr b hb q

/-! ### judgements -/
/-- an operation's answer: a datum, a list just made -/
def RvOk (c : CT) (hs : List Addr) (H H' : Hp) (v : V) : Rv → Prop
  | .da d => Rp c (hid hs H') v d
  | .fl ds => ∃ a vs, v = .ref a ∧ H a = none ∧ H' a = some (.lst vs) ∧ RpL c (hid (a :: hs) H') vs ds
  | .bl _ => False
/-- a datum; its own list may be one that changes -/
inductive Rq (c : CT) (hs : List Addr) (H : Hp) : V → D → Prop
  | da {v : V} {d : D} : Rp c (hid hs H) v d → Rq c hs H v d
  | ml {a : Addr} {vs : List V} {ds : List D} : H a = some (.lst vs) → RpL c (hid hs H) vs ds → Rq c hs H (.ref a) (.list ds)
inductive RqL (c : CT) (hs : List Addr) (H : Hp) : List V → List D → Prop
  | nil : RqL c hs H [] []
  | cons {v : V} {vs : List V} {d : D} {ds : List D} : Rq c hs H v d → RqL c hs H vs ds → RqL c hs H (v :: vs) (d :: ds)
/-- an expression's answer -/
def RvR (c : CT) (F : Fx) (ms : List Addr) (g : G) (σ : L2.St) (hs : List Addr) (H H' : Hp) (v : V) : Rv → Prop
  | .da d => Rp c (hid hs H') v d
  | .fl ds => ∃ a vs, v = .ref a ∧ H a = none ∧ H' a = some (.lst vs) ∧ RpL c (hid (a :: hs) H') vs ds ∧ Rel c F ms (a :: hs) g σ H'
  | .bl i => σ[i]? = some (some v)
/-- .. as it may be used later -/
def RvL (c : CT) (σ : L2.St) (hs : List Addr) (H' : Hp) (v : V) : Rv → Prop
  | .da d => Rp c (hid hs H') v d
  | .fl ds => Rp c (hid hs H') v (.list ds)
  | .bl i => σ[i]? = some (some v)
inductive RvLs (c : CT) (σ : L2.St) (hs : List Addr) (H' : Hp) : List V → List Rv → Prop
  | nil : RvLs c σ hs H' [] []
  | cons {v : V} {vs : List V} {r : Rv} {rs : List Rv} : RvL c σ hs H' v r → RvLs c σ hs H' vs rs → RvLs c σ hs H' (v :: vs) (r :: rs)
theorem RvR.l {c : CT} {F : Fx} {ms : List Addr} {g : G} {σ : L2.St} {hs : List Addr} {H H' : Hp} {v : V} {r : Rv} (h : RvR c F ms g σ hs H H' v r) (tr : ∀ a ∈ hs, H a ≠ none) : RvL c σ hs H' v r := by
  cases r with
  | da d => exact h
  | fl ds =>
    obtain ⟨a, vs, rfl, h1, h2, h3, _⟩ := h
    exact .lst (.inl (by rw [hid_out fun z => tr a z h1]; exact h2)) (h3.same (hid_sub fun b hb => List.mem_cons_of_mem _ hb))
  | bl i => exact h
theorem RvL.same {c : CT} {σ : L2.St} {hs : List Addr} {H H' : Hp} {v : V} {r : Rv} (e : Same (hid hs H) (hid hs H')) (h : RvL c σ hs H v r) : RvL c σ hs H' v r := by
  cases r with
  | da d => exact Rp.same e h
  | fl ds => exact Rp.same e h
  | bl i => exact h
theorem RvLs.same {c : CT} {σ : L2.St} {hs : List Addr} {H H' : Hp} (e : Same (hid hs H) (hid hs H')) : ∀ {vs : List V} {rs : List Rv}, RvLs c σ hs H vs rs → RvLs c σ hs H' vs rs
  | _, _, .nil => .nil
  | _, _, .cons h r => .cons (h.same e) (r.same e)
theorem RvL.q {c : CT} {F : Fx} {ms : List Addr} {g : G} {σ : L2.St} {hs : List Addr} {H : Hp} {v : V} {r : Rv} {d : D} (h : RvL c σ hs H v r) (Y : Rel c F ms hs g σ H) (e : r.dat g = some d) : Rq c hs H v d := by
  cases r with
  | da d => cases e; exact .da h
  | fl ds => cases e; exact .da h
  | bl i =>
    unfold Rv.dat at e
    dsimp only at e
    split at e
    next own ds hi =>
      cases e
      obtain ⟨a, vs, e1, m, o1, o2, ha, rr⟩ := Y.sl i _ hi
      have h' : σ[i]? = some (some v) := h
      rw [h'] at e1
      cases e1
      exact .ml ha rr
    next => cases e
theorem RvLs.q {c : CT} {F : Fx} {ms : List Addr} {g : G} {σ : L2.St} {hs : List Addr} {H : Hp} (Y : Rel c F ms hs g σ H) : ∀ {vs : List V} {rs : List Rv} {ds : List D}, RvLs c σ hs H vs rs → datL g rs = some ds → RqL c hs H vs ds
  | _, _, _, .nil, e => by cases e; exact .nil
  | _, _, ds, .cons h r, e => by
    unfold datL at e
    split at e
    next d hd =>
      simp only [Option.map_eq_some_iff] at e
      obtain ⟨es, e1, rfl⟩ := e
      exact .cons (h.q Y hd) (r.q Y e1)
    next => cases e
theorem Rq.bl {c : CT} {hs : List Addr} {H : Hp} {v : V} {b : Bool} (h : Rq c hs H v (.bool b)) : v = .bl b := by
  cases h with | da h => cases h; rfl
theorem Rel.newHid {c : CT} {F : Fx} {ms hs : List Addr} {g : G} {σ : L2.St} {H H' : Hp} {a : Addr} (Y : Rel c F ms hs g σ H) (e : Same H H') (n : H a = none) (h : H' a ≠ none) : Rel c F ms (a :: hs) g σ H' := by
  have na := Y.fresh n
  have sm : Same (hid hs H) (hid (a :: hs) H') := fun b o q => by
    by_cases hb : b ∈ hs
    · rw [hid_in hb] at q; cases q
    · rw [hid_out hb] at q
      have hb2 : b ∉ a :: hs := fun z => (List.mem_cons.mp z).elim (fun z => by subst z; rw [n] at q; cases q) hb
      rw [hid_out hb2]
      exact e _ _ q
  refine ⟨Y.len, fun i γ hi => ?_, Y.dis, fun b o hb hp => e _ _ (Y.fr b o hb hp), fun b hb => ?_, fun b hb => List.mem_cons_of_mem _ (Y.sub b hb), Y.pc, Y.oc, fun b hb => List.mem_cons_of_mem _ (Y.mh b hb), fun p hp => ⟨(Y.tab p hp).1, (Y.tab p hp).2.ext e⟩⟩
  · have q := Y.sl i γ hi
    cases γ with
    | un => exact True.intro
    | da d => obtain ⟨v, e1, r⟩ := q; exact ⟨v, e1, r.same sm⟩
    | ml own ds => obtain ⟨b, vs, e1, m, o1, o2, hb, r⟩ := q; exact ⟨b, vs, e1, m, o1, o2, e _ _ hb, r.same sm⟩
  · rcases List.mem_cons.mp hb with rfl | hb
    · exact h
    · intro q
      cases z : H b with
      | none => exact Y.tr b hb z
      | some o => rw [e _ _ z] at q; cases q

abbrev TX (α : Type) := L2.St → Hp → (α → Hp → Prop) → Prop
/-- what a step leaves: all but the lists that change (ms); all that can be read -/
structure Sm (ms hs : List Addr) (H H' : Hp) : Prop where
  s : Same (hid hs H) (hid hs H')
  f : ∀ b o, H b = some o → b ∉ ms → H' b = some o
theorem Sm.refl {ms hs : List Addr} {H : Hp} : Sm ms hs H H := ⟨Same.refl _, fun _ _ h _ => h⟩
theorem Sm.trans {ms hs : List Addr} {H H1 H2 : Hp} (a : Sm ms hs H H1) (b : Sm ms hs H1 H2) : Sm ms hs H H2 := ⟨a.s.trans b.s, fun x o h n => b.f x o (a.f x o h n) n⟩
theorem Sm.grow {ms hs : List Addr} {H H' : Hp} (e : Same H H') : Sm ms hs H H' := ⟨hid_mono e, fun b o h _ => e b o h⟩
/-- the reading t is answered by the function f; ok tells what a value is -/
def Den (c : CT) (E : XK) {α β : Type} (ok : Fx → List Addr → G → L2.St → List Addr → Hp → Hp → α → β → Prop) (t : TX α) (f : M β) : Prop :=
  ∀ (F : Fx) (ms hs : List Addr) (g : G) (σ : L2.St) (H : Hp) (Q : α → Hp → Prop), Rel c F ms hs g σ H →
    (match f g with
      | .ok (r, g') => ∀ v H', Rel c F ms hs g' σ H' → Sm ms hs H H' → ok F ms g' σ hs H H' v r → Q v H'
      | .ex e => ∀ u H', c.mg e = some u → (∀ b o, F.H0 b = some o → b ∉ F.ps → H' b = some o) → E u none H'
      | .no => False) → t σ H Q
abbrev Dn (c : CT) (E : XK) (t : TE) (f : M Rv) : Prop := Den c E (RvR c) t f
def okB : Fx → List Addr → G → L2.St → List Addr → Hp → Hp → Bool → Bool → Prop := fun _ _ _ _ _ _ _ a b => a = b
abbrev Dt (c : CT) (E : XK) (t : TT) (f : M Bool) : Prop := Den c E okB t f
def okL (c : CT) : Fx → List Addr → G → L2.St → List Addr → Hp → Hp → List V → List Rv → Prop := fun _ _ _ σ hs _ H' vs rs => RvLs c σ hs H' vs rs
abbrev Da (c : CT) (E : XK) (t : TA) (f : M (List Rv)) : Prop := Den c E (okL c) t f
def okO : Fx → List Addr → G → L2.St → List Addr → Hp → Hp → Option Int → Option Int → Prop := fun _ _ _ _ _ _ _ a b => a = b
abbrev Do (c : CT) (E : XK) (t : TO) (f : M (Option Int)) : Prop := Den c E okO t f

/-- an operation on values is answered by a function of data -/
def OpD (c : CT) (r : R2) (f : D → D → Option Rv) : Prop :=
  ∀ (hs : List Addr) (H : Hp) (x y : V) (dx dy : D) (Q : VK), (∀ a ∈ hs, H a ≠ none) → Rq c hs H x dx → Rq c hs H y dy →
    (match f dx dy with
      | some rv => ∀ v H', Same H H' → RvOk c hs H H' v rv → Q v H'
      | none => False) → r x y H Q
def UnD (c : CT) (r : V → Hp → VK → Prop) (f : D → Option Rv) : Prop :=
  ∀ (hs : List Addr) (H : Hp) (x : V) (dx : D) (Q : VK), (∀ a ∈ hs, H a ≠ none) → Rq c hs H x dx →
    (match f dx with
      | some rv => ∀ v H', Same H H' → RvOk c hs H H' v rv → Q v H'
      | none => False) → r x H Q
def CaD (c : CT) (r : List V → Hp → VK → Prop) (f : List D → Option Rv) : Prop :=
  ∀ (hs : List Addr) (H : Hp) (xs : List V) (ds : List D) (Q : VK), (∀ a ∈ hs, H a ≠ none) → RqL c hs H xs ds →
    (match f ds with
      | some rv => ∀ v H', Same H H' → RvOk c hs H H' v rv → Q v H'
      | none => False) → r xs H Q
def SlD (c : CT) (r : V → Option Int → Option Int → Hp → VK → Prop) (f : D → Option Int → Option Int → Option Rv) : Prop :=
  ∀ (hs : List Addr) (H : Hp) (x : V) (dx : D) (lo hi : Option Int) (Q : VK), (∀ a ∈ hs, H a ≠ none) → Rq c hs H x dx →
    (match f dx lo hi with
      | some rv => ∀ v H', Same H H' → RvOk c hs H H' v rv → Q v H'
      | none => False) → r x lo hi H Q

/-! ### the functions -/
def ofO {α : Type} : Option α → Re α
  | some a => .ok a
  | none => .no
@[simp] theorem ofO_some {α : Type} (a : α) : ofO (some a) = Re.ok a := rfl
@[simp] theorem ofO_none {α : Type} : ofO (none : Option α) = Re.no := rfl
def vE (i : Nat) : M Rv := fun g => match g[i]? with
  | some (.da d) => .ok (.da d, g)
  | some (.ml _ _) => .ok (.bl i, g)
  | _ => .no
def cE (d : D) : M Rv := fun g => .ok (.da d, g)
def op2 (f : D → D → Option Rv) (a b : M Rv) : M Rv := fun g => do
  let (x, g1) ← a g
  let (y, g2) ← b g1
  let dx ← ofO (x.dat g2)
  let dy ← ofO (y.dat g2)
  let r ← ofO (f dx dy)
  pure (r, g2)
def op1 (f : D → Option Rv) (a : M Rv) : M Rv := fun g => do
  let (x, g1) ← a g
  let d ← ofO (x.dat g1)
  let r ← ofO (f d)
  pure (r, g1)
def aN : M (List Rv) := fun g => .ok ([], g)
def aC (a : M Rv) (r : M (List Rv)) : M (List Rv) := fun g => do
  let (x, g1) ← a g
  let (xs, g2) ← r g1
  pure (x :: xs, g2)
def toBool (g : G) : Rv → Option Bool
  | .da (.bool b) => some b
  | _ => none
@[simp] theorem toBool_bool (g : G) (b : Bool) : toBool g (.da (.bool b)) = some b := rfl
def tB' (a : M Rv) : M Bool := fun g => do
  let (x, g1) ← a g
  let b ← ofO (toBool g1 x)
  pure (b, g1)
def andT (a b : M Bool) : M Bool := fun g => do
  let (x, g1) ← a g
  if x = true then b g1 else pure (false, g1)
def orT (a b : M Bool) : M Bool := fun g => do
  let (x, g1) ← a g
  if x = true then pure (true, g1) else b g1
def notT (a : M Bool) : M Bool := fun g => do
  let (x, g1) ← a g
  pure (!x, g1)
def andV (a b : M Rv) : M Rv := fun g => do
  let (x, g1) ← a g
  let k ← ofO (toBool g1 x)
  if k = true then b g1 else pure (.da (.bool false), g1)
def orV (a b : M Rv) : M Rv := fun g => do
  let (x, g1) ← a g
  let k ← ofO (toBool g1 x)
  if k = true then pure (.da (.bool true), g1) else b g1
def notV (a : M Rv) : M Rv := fun g => do
  let (x, g1) ← a g
  let k ← ofO (toBool g1 x)
  pure (.da (.bool (!k)), g1)
def ifE (t : M Bool) (a b : M Rv) : M Rv := fun g => do
  let (x, g1) ← t g
  if x = true then a g1 else b g1
def rawL (g : G) : List Rv → Option (List D)
  | [] => some []
  | .da d :: rs => (rawL g rs).map (d :: ·)
  | .fl d :: rs => (rawL g rs).map (.list d :: ·)
  | .bl _ :: _ => none
@[simp] theorem rawL_nil (g : G) : rawL g [] = some [] := rfl
def tupE (a : M (List Rv)) : M Rv := fun g => do
  let (rs, g1) ← a g
  let xs ← ofO (rawL g1 rs)
  if xs.length ≤ 1000000 then pure (.da (.tuple xs), g1) else .no
def lstE (a : M (List Rv)) : M Rv := fun g => do
  let (rs, g1) ← a g
  let xs ← ofO (rawL g1 rs)
  if xs.length ≤ 1000000 then pure (.fl xs, g1) else .no
def caE (f : List D → Option Rv) (a : M (List Rv)) : M Rv := fun g => do
  let (rs, g1) ← a g
  let xs ← ofO (datL g1 rs)
  let r ← ofO (f xs)
  pure (r, g1)
theorem RvLs.raw {c : CT} {σ : L2.St} {hs : List Addr} {H : Hp} {g : G} : ∀ {vs : List V} {rs : List Rv} {ds : List D}, RvLs c σ hs H vs rs → rawL g rs = some ds → RpL c (hid hs H) vs ds
  | _, _, _, .nil, e => by cases e; exact .nil
  | _, .da d :: rs, _, .cons h r, e => by
    simp only [rawL, Option.map_eq_some_iff] at e
    obtain ⟨es, e1, rfl⟩ := e
    exact .cons h (r.raw e1)
  | _, .fl d :: rs, _, .cons h r, e => by
    simp only [rawL, Option.map_eq_some_iff] at e
    obtain ⟨es, e1, rfl⟩ := e
    exact .cons h (r.raw e1)
  | _, .bl i :: rs, _, .cons h r, e => by cases e
end GD

/-! GD2: rules for expressions. -/
namespace GD
open PySem PySem.Spec PyProof.Rows L2
section
variable {c : CT} {E : XK}
theorem RvOk.back {F : Fx} {ms hs : List Addr} {g : G} {σ : L2.St} {H H1 H' : Hp} {v : V} {r : Rv} (Y : Rel c F ms hs g σ H1) (e : Same (hid hs H) (hid hs H1)) (h : RvOk c hs H1 H' v r) : RvOk c hs H H' v r := by
  cases r with
  | da d => exact h
  | bl i => exact h
  | fl ds =>
    obtain ⟨a, vs, e1, n, h1, h2⟩ := h
    have ha := Y.fresh n
    have := e.free (l := a) (by rw [hid_out ha]; exact n)
    exact ⟨a, vs, e1, by rwa [hid_out ha] at this, h1, h2⟩
/-- the end of an operation -/
theorem fin_op {F : Fx} {ms hs : List Addr} {g : G} {σ : L2.St} {H H1 : Hp} {Q : VK} {rv : Rv} (Y : Rel c F ms hs g σ H1) (S : Sm ms hs H H1)
    (h : ∀ v H', Rel c F ms hs g σ H' → Sm ms hs H H' → RvR c F ms g σ hs H H' v rv → Q v H') : ∀ v H', Same H1 H' → RvOk c hs H1 H' v rv → Q v H' := fun v H' e o =>
  h v H' (Y.grow e) (S.trans (Sm.grow e)) (by
    have o' := o.back Y S.s
    cases rv with
    | da d => exact o'
    | bl i => exact o'.elim
    | fl ds =>
      obtain ⟨a, vs, e1, n, h1, h2⟩ := o'
      obtain ⟨b, ws, e3, n', _⟩ := o
      subst e1
      cases e3
      exact ⟨a, vs, rfl, n, h1, h2, Y.newHid e n' (by rw [h1]; exact fun z => nomatch z)⟩)
theorem RvR.back {F : Fx} {ms hs : List Addr} {g g1 : G} {σ : L2.St} {H H1 H' : Hp} {v : V} {r : Rv} (h : RvR c F ms g σ hs H1 H' v r) (Y : Rel c F ms hs g1 σ H1) (e : Same (hid hs H) (hid hs H1)) : RvR c F ms g σ hs H H' v r := by
  cases r with
  | da d => exact h
  | bl i => exact h
  | fl ds =>
    obtain ⟨a, vs, e1, n, h1, h2⟩ := h
    have ha := Y.fresh n
    have := e.free (l := a) (by rw [hid_out ha]; exact n)
    exact ⟨a, vs, e1, by rwa [hid_out ha] at this, h1, h2⟩
theorem rvok_bool {F : Fx} {ms hs : List Addr} {g : G} {σ : L2.St} {H H' : Hp} {b : Bool} : RvR c F ms g σ hs H H' (.bl b) (.da (.bool b)) := Rp.bl b
theorem boolInv {F : Fx} {ms hs : List Addr} {g : G} {σ : L2.St} {H H' : Hp} {v : V} {r : Rv} {b : Bool} (h : RvR c F ms g σ hs H H' v r) (e : toBool g r = some b) : v = .bl b := by
  unfold toBool at e
  split at e
  next => cases e; exact (by cases (show Rp c (hid hs H') v (.bool _) from h); rfl)
  next => cases e

theorem rv_newlst {hs : List Addr} {H : Hp} {p : Addr} {vs : List V} {ds : List D} (tr : ∀ a ∈ hs, H a ≠ none) (hp : H p = none) (r : RpL c (hid hs H) vs ds) : RvOk c hs H (upd H p (.lst vs)) (.ref p) (.fl ds) := by
  refine ⟨p, vs, rfl, hp, upd_same, ?_⟩
  rw [hid_upd (List.mem_cons_self)]
  refine r.same fun b o q => ?_
  by_cases hb : b ∈ hs
  · rw [hid_in hb] at q; cases q
  · rw [hid_out hb] at q
    rw [hid_out fun z => (List.mem_cons.mp z).elim (fun z => by subst z; rw [hp] at q; cases q) hb]
    exact q
theorem dn_var {i : Nat} : Dn c E (tVar i) (vE i) := by
  intro F ms hs g σ H Q Y h
  unfold vE at h
  split at h
  next r g' e =>
    split at e
    next d hd =>
      cases e
      obtain ⟨v, e1, rp⟩ := Y.sl i _ hd
      exact ⟨v, e1, h v H Y Sm.refl rp⟩
    next own ds hd =>
      cases e
      obtain ⟨a, vs, e1, _⟩ := Y.sl i _ hd
      exact ⟨.ref a, e1, h _ H Y Sm.refl e1⟩
    next => cases e
  next e => split at e <;> cases e
  next => exact h.elim
theorem dn_c {v : V} {d : D} (hr : ∀ H, Rp c H v d) : Dn c E (tC v) (cE d) := fun F ms hs g σ H Q Y h => h v H Y Sm.refl (hr _)
theorem dn_int {i : Int} : Dn c E (tC (.int i)) (cE (.int i)) := dn_c fun _ => .int i
theorem dn_bl {b : Bool} : Dn c E (tC (.bl b)) (cE (.bool b)) := dn_c fun _ => .bl b
theorem dn_non : Dn c E (tC .non) (cE .none) := dn_c fun _ => .non
theorem dn_str {x : Str} : Dn c E (tC (.str x)) (cE (.str x)) := dn_c fun _ => .str x
theorem dn_op {r : R2} {f : D → D → Option Rv} {ta tb : TE} {fa fb : M Rv} (ho : OpD c r f) (ha : Dn c E ta fa) (hb : Dn c E tb fb) : Dn c E (tOp r ta tb) (op2 f fa fb) := by
  intro F ms hs g σ H Q Y h
  unfold op2 at h
  refine ha F ms hs g σ H _ Y ?_
  cases e1 : fa g with
  | no => rw [e1] at h; exact h
  | ex _ => rw [e1] at h; exact h
  | ok p1 =>
    obtain ⟨x1, g1⟩ := p1
    simp only [e1, Re.ok_bind, Re.pure_eq] at h
    intro v1 H1 Y1 S1 o1
    refine hb F ms hs g1 σ H1 _ Y1 ?_
    cases e2 : fb g1 with
    | no => rw [e2] at h; exact h
    | ex _ => rw [e2] at h; exact h
    | ok p2 =>
      obtain ⟨x2, g2⟩ := p2
      simp only [e2, Re.ok_bind, Re.pure_eq] at h
      intro v2 H2 Y2 S2 o2
      cases q3 : x1.dat g2 with
      | none => rw [q3] at h; exact False.elim h
      | some d3 =>
        simp only [q3, ofO_some, Re.ok_bind, Re.pure_eq] at h
        cases q4 : x2.dat g2 with
        | none => rw [q4] at h; exact False.elim h
        | some d4 =>
          simp only [q4, ofO_some, Re.ok_bind, Re.pure_eq] at h
          refine ho hs H2 v1 v2 d3 d4 Q Y2.tr (((o1.l Y.tr).same S2.s).q Y2 q3) ((o2.l Y1.tr).q Y2 q4) ?_
          cases q5 : f d3 d4 with
          | none => rw [q5] at h; exact False.elim h
          | some d5 =>
            simp only [q5, ofO_some, Re.ok_bind, Re.pure_eq] at h
            exact fin_op Y2 (S1.trans S2) h
theorem dn_un {r : V → Hp → VK → Prop} {f : D → Option Rv} {ta : TE} {fa : M Rv} (ho : UnD c r f) (ha : Dn c E ta fa) : Dn c E (tUn r ta) (op1 f fa) := by
  intro F ms hs g σ H Q Y h
  unfold op1 at h
  refine ha F ms hs g σ H _ Y ?_
  cases e1 : fa g with
  | no => rw [e1] at h; exact h
  | ex _ => rw [e1] at h; exact h
  | ok p1 =>
    obtain ⟨x1, g1⟩ := p1
    simp only [e1, Re.ok_bind, Re.pure_eq] at h
    intro v1 H1 Y1 S1 o1
    cases q3 : x1.dat g1 with
    | none => rw [q3] at h; exact False.elim h
    | some d3 =>
      simp only [q3, ofO_some, Re.ok_bind, Re.pure_eq] at h
      refine ho hs H1 v1 d3 Q Y1.tr ((o1.l Y.tr).q Y1 q3) ?_
      cases q5 : f d3 with
      | none => rw [q5] at h; exact False.elim h
      | some d5 =>
        simp only [q5, ofO_some, Re.ok_bind, Re.pure_eq] at h
        exact fin_op Y1 S1 h
theorem da_nil : Da c E tNil aN := fun F ms hs g σ H Q Y h => h [] H Y Sm.refl .nil
theorem da_cons {ta : TE} {tr : TA} {fa : M Rv} {fr : M (List Rv)} (ha : Dn c E ta fa) (hr : Da c E tr fr) : Da c E (tCons ta tr) (aC fa fr) := by
  intro F ms hs g σ H Q Y h
  unfold aC at h
  refine ha F ms hs g σ H _ Y ?_
  cases e1 : fa g with
  | no => rw [e1] at h; exact h
  | ex _ => rw [e1] at h; exact h
  | ok p1 =>
    obtain ⟨x1, g1⟩ := p1
    simp only [e1, Re.ok_bind, Re.pure_eq] at h
    intro v1 H1 Y1 S1 o1
    refine hr F ms hs g1 σ H1 _ Y1 ?_
    cases e2 : fr g1 with
    | no => rw [e2] at h; exact h
    | ex _ => rw [e2] at h; exact h
    | ok p2 =>
      obtain ⟨x2, g2⟩ := p2
      simp only [e2, Re.ok_bind, Re.pure_eq] at h
      intro v2 H2 Y2 S2 o2
      exact h _ H2 Y2 (S1.trans S2) (.cons ((o1.l Y.tr).same S2.s) o2)
theorem dn_cb {r : List V → Hp → VK → Prop} {f : List D → Option Rv} {ta : TA} {fa : M (List Rv)} (ho : CaD c r f) (ha : Da c E ta fa) : Dn c E (tCB r ta) (caE f fa) := by
  intro F ms hs g σ H Q Y h
  unfold caE at h
  refine ha F ms hs g σ H _ Y ?_
  cases e1 : fa g with
  | no => rw [e1] at h; exact h
  | ex _ => rw [e1] at h; exact h
  | ok p1 =>
    obtain ⟨x1, g1⟩ := p1
    simp only [e1, Re.ok_bind, Re.pure_eq] at h
    intro v1 H1 Y1 S1 o1
    cases q3 : datL g1 x1 with
    | none => rw [q3] at h; exact False.elim h
    | some d3 =>
      simp only [q3, ofO_some, Re.ok_bind, Re.pure_eq] at h
      refine ho hs H1 v1 d3 Q Y1.tr (RvLs.q Y1 o1 q3) ?_
      cases q5 : f d3 with
      | none => rw [q5] at h; exact False.elim h
      | some d5 =>
        simp only [q5, ofO_some, Re.ok_bind, Re.pure_eq] at h
        exact fin_op Y1 S1 h
theorem dn_tup {ta : TA} {fa : M (List Rv)} (ha : Da c E ta fa) : Dn c E (tTup ta) (tupE fa) := by
  intro F ms hs g σ H Q Y h
  unfold tupE at h
  refine ha F ms hs g σ H _ Y ?_
  cases e1 : fa g with
  | no => rw [e1] at h; exact h
  | ex _ => rw [e1] at h; exact h
  | ok p1 =>
    obtain ⟨x1, g1⟩ := p1
    simp only [e1, Re.ok_bind, Re.pure_eq] at h
    intro v1 H1 Y1 S1 o1
    cases q3 : rawL g1 x1 with
    | none => rw [q3] at h; exact False.elim h
    | some d3 =>
      simp only [q3, ofO_some, Re.ok_bind, Re.pure_eq] at h
      have o3 := RvLs.raw o1 q3
      by_cases hz : d3.length ≤ 1000000
      · simp only [hz, if_true, Re.pure_eq] at h
        refine ⟨by rw [RpL.length o3]; exact sz_of hz, fun p hp => ?_⟩
        refine fin_op Y1 S1 h _ _ (same_new hp) ?_
        exact .tup (.inl (.inl (by rw [hid_out (Y1.fresh hp)]; exact upd_same))) (o3.same (hid_mono (same_new hp)))
      · simp only [hz, if_false] at h
theorem dn_lst {ta : TA} {fa : M (List Rv)} (ha : Da c E ta fa) : Dn c E (tLst ta) (lstE fa) := by
  intro F ms hs g σ H Q Y h
  unfold lstE at h
  refine ha F ms hs g σ H _ Y ?_
  cases e1 : fa g with
  | no => rw [e1] at h; exact h
  | ex _ => rw [e1] at h; exact h
  | ok p1 =>
    obtain ⟨x1, g1⟩ := p1
    simp only [e1, Re.ok_bind, Re.pure_eq] at h
    intro v1 H1 Y1 S1 o1
    cases q3 : rawL g1 x1 with
    | none => rw [q3] at h; exact False.elim h
    | some d3 =>
      simp only [q3, ofO_some, Re.ok_bind, Re.pure_eq] at h
      have o3 := RvLs.raw o1 q3
      by_cases hz : d3.length ≤ 1000000
      · simp only [hz, if_true, Re.pure_eq] at h
        refine ⟨by rw [RpL.length o3]; exact sz_of hz, fun p hp => ?_⟩
        refine fin_op Y1 S1 h _ _ (same_new hp) ?_
        exact rv_newlst Y1.tr hp o3
      · simp only [hz, if_false] at h
/-! tests -/
theorem dt_val {ta : TE} {fa : M Rv} (ha : Dn c E ta fa) : Dt c E (tTest ta) (tB' fa) := by
  intro F ms hs g σ H Q Y h
  unfold tB' at h
  refine ha F ms hs g σ H _ Y ?_
  cases e1 : fa g with
  | no => rw [e1] at h; exact h
  | ex _ => rw [e1] at h; exact h
  | ok p1 =>
    obtain ⟨x1, g1⟩ := p1
    simp only [e1, Re.ok_bind, Re.pure_eq] at h
    intro v1 H1 Y1 S1 o1
    cases q3 : toBool g1 x1 with
    | none => rw [q3] at h; exact False.elim h
    | some d3 =>
      simp only [q3, ofO_some, Re.ok_bind, Re.pure_eq] at h
      exact ⟨d3, boolInv o1 q3, h d3 H1 Y1 S1 rfl⟩
theorem dt_B {ta : TE} {fa : M Rv} (ha : Dn c E ta fa) : Dt c E (tB ta) (tB' fa) := dt_val ha
theorem dt_and {ta tb : TT} {fa fb : M Bool} (ha : Dt c E ta fa) (hb : Dt c E tb fb) : Dt c E (tAnd ta tb) (andT fa fb) := by
  intro F ms hs g σ H Q Y h
  unfold andT at h
  refine ha F ms hs g σ H _ Y ?_
  cases e1 : fa g with
  | no => rw [e1] at h; exact h
  | ex _ => rw [e1] at h; exact h
  | ok p1 =>
    obtain ⟨x1, g1⟩ := p1
    simp only [e1, Re.ok_bind, Re.pure_eq] at h
    intro v1 H1 Y1 S1 o1
    cases (show v1 = x1 from o1)
    cases x1 with
    | false => exact h false H1 Y1 S1 rfl
    | true =>
      simp only [if_true] at h ⊢
      refine hb F ms hs g1 σ H1 _ Y1 ?_
      cases e2 : fb g1 with
      | no => rw [e2] at h; exact h
      | ex _ => rw [e2] at h; exact h
      | ok p2 =>
        obtain ⟨x2, g2⟩ := p2
        simp only [e2, Re.ok_bind, Re.pure_eq] at h
        intro v2 H2 Y2 S2 o2
        exact h v2 H2 Y2 (S1.trans S2) o2
theorem dt_or {ta tb : TT} {fa fb : M Bool} (ha : Dt c E ta fa) (hb : Dt c E tb fb) : Dt c E (tOr ta tb) (orT fa fb) := by
  intro F ms hs g σ H Q Y h
  unfold orT at h
  refine ha F ms hs g σ H _ Y ?_
  cases e1 : fa g with
  | no => rw [e1] at h; exact h
  | ex _ => rw [e1] at h; exact h
  | ok p1 =>
    obtain ⟨x1, g1⟩ := p1
    simp only [e1, Re.ok_bind, Re.pure_eq] at h
    intro v1 H1 Y1 S1 o1
    cases (show v1 = x1 from o1)
    cases x1 with
    | true => exact h true H1 Y1 S1 rfl
    | false =>
      simp only [Bool.false_eq_true, if_false] at h ⊢
      refine hb F ms hs g1 σ H1 _ Y1 ?_
      cases e2 : fb g1 with
      | no => rw [e2] at h; exact h
      | ex _ => rw [e2] at h; exact h
      | ok p2 =>
        obtain ⟨x2, g2⟩ := p2
        simp only [e2, Re.ok_bind, Re.pure_eq] at h
        intro v2 H2 Y2 S2 o2
        exact h v2 H2 Y2 (S1.trans S2) o2
theorem dt_not {ta : TT} {fa : M Bool} (ha : Dt c E ta fa) : Dt c E (tNot ta) (notT fa) := by
  intro F ms hs g σ H Q Y h
  unfold notT at h
  refine ha F ms hs g σ H _ Y ?_
  cases e1 : fa g with
  | no => rw [e1] at h; exact h
  | ex _ => rw [e1] at h; exact h
  | ok p1 =>
    obtain ⟨x1, g1⟩ := p1
    simp only [e1, Re.ok_bind, Re.pure_eq] at h
    intro v1 H1 Y1 S1 o1
    cases (show v1 = x1 from o1)
    exact h _ H1 Y1 S1 rfl
theorem dn_andV {ta tb : TE} {fa fb : M Rv} (ha : Dn c E ta fa) (hb : Dn c E tb fb) : Dn c E (tAndV ta tb) (andV fa fb) := by
  intro F ms hs g σ H Q Y h
  unfold andV at h
  refine ha F ms hs g σ H _ Y ?_
  cases e1 : fa g with
  | no => rw [e1] at h; exact h
  | ex _ => rw [e1] at h; exact h
  | ok p1 =>
    obtain ⟨x1, g1⟩ := p1
    simp only [e1, Re.ok_bind, Re.pure_eq] at h
    intro v1 H1 Y1 S1 o1
    cases q3 : toBool g1 x1 with
    | none => rw [q3] at h; exact False.elim h
    | some d3 =>
      simp only [q3, ofO_some, Re.ok_bind, Re.pure_eq] at h
      refine ⟨d3, boolInv o1 q3, ?_⟩
      cases d3 with
      | false => exact h _ H1 Y1 S1 rvok_bool
      | true =>
        simp only [if_true] at h ⊢
        refine hb F ms hs g1 σ H1 _ Y1 ?_
        cases e2 : fb g1 with
        | no => rw [e2] at h; exact h
        | ex _ => rw [e2] at h; exact h
        | ok p2 =>
          obtain ⟨x2, g2⟩ := p2
          simp only [e2, Re.ok_bind, Re.pure_eq] at h
          intro v2 H2 Y2 S2 o2
          exact h v2 H2 Y2 (S1.trans S2) (o2.back Y1 S1.s)
theorem dn_orV {ta tb : TE} {fa fb : M Rv} (ha : Dn c E ta fa) (hb : Dn c E tb fb) : Dn c E (tOrV ta tb) (orV fa fb) := by
  intro F ms hs g σ H Q Y h
  unfold orV at h
  refine ha F ms hs g σ H _ Y ?_
  cases e1 : fa g with
  | no => rw [e1] at h; exact h
  | ex _ => rw [e1] at h; exact h
  | ok p1 =>
    obtain ⟨x1, g1⟩ := p1
    simp only [e1, Re.ok_bind, Re.pure_eq] at h
    intro v1 H1 Y1 S1 o1
    cases q3 : toBool g1 x1 with
    | none => rw [q3] at h; exact False.elim h
    | some d3 =>
      simp only [q3, ofO_some, Re.ok_bind, Re.pure_eq] at h
      refine ⟨d3, boolInv o1 q3, ?_⟩
      cases d3 with
      | true => exact h _ H1 Y1 S1 rvok_bool
      | false =>
        simp only [Bool.false_eq_true, if_false] at h ⊢
        refine hb F ms hs g1 σ H1 _ Y1 ?_
        cases e2 : fb g1 with
        | no => rw [e2] at h; exact h
        | ex _ => rw [e2] at h; exact h
        | ok p2 =>
          obtain ⟨x2, g2⟩ := p2
          simp only [e2, Re.ok_bind, Re.pure_eq] at h
          intro v2 H2 Y2 S2 o2
          exact h v2 H2 Y2 (S1.trans S2) (o2.back Y1 S1.s)
theorem dn_notV {ta : TE} {fa : M Rv} (ha : Dn c E ta fa) : Dn c E (tNotV ta) (notV fa) := by
  intro F ms hs g σ H Q Y h
  unfold notV at h
  refine ha F ms hs g σ H _ Y ?_
  cases e1 : fa g with
  | no => rw [e1] at h; exact h
  | ex _ => rw [e1] at h; exact h
  | ok p1 =>
    obtain ⟨x1, g1⟩ := p1
    simp only [e1, Re.ok_bind, Re.pure_eq] at h
    intro v1 H1 Y1 S1 o1
    cases q3 : toBool g1 x1 with
    | none => rw [q3] at h; exact False.elim h
    | some d3 =>
      simp only [q3, ofO_some, Re.ok_bind, Re.pure_eq] at h
      exact ⟨d3, boolInv o1 q3, h _ H1 Y1 S1 rvok_bool⟩
theorem dn_if {tt : TT} {ta tb : TE} {ft : M Bool} {fa fb : M Rv} (ht : Dt c E tt ft) (ha : Dn c E ta fa) (hb : Dn c E tb fb) : Dn c E (tIf tt ta tb) (ifE ft fa fb) := by
  intro F ms hs g σ H Q Y h
  unfold ifE at h
  refine ht F ms hs g σ H _ Y ?_
  cases e1 : ft g with
  | no => rw [e1] at h; exact h
  | ex _ => rw [e1] at h; exact h
  | ok p1 =>
    obtain ⟨x1, g1⟩ := p1
    simp only [e1, Re.ok_bind, Re.pure_eq] at h
    intro v1 H1 Y1 S1 o1
    cases (show v1 = x1 from o1)
    cases x1 with
    | true =>
      simp only [if_true] at h ⊢
      refine ha F ms hs g1 σ H1 _ Y1 ?_
      cases e2 : fa g1 with
      | no => rw [e2] at h; exact h
      | ex _ => rw [e2] at h; exact h
      | ok p2 =>
        obtain ⟨x2, g2⟩ := p2
        simp only [e2, Re.ok_bind, Re.pure_eq] at h
        intro v2 H2 Y2 S2 o2
        exact h v2 H2 Y2 (S1.trans S2) (o2.back Y1 S1.s)
    | false =>
      simp only [Bool.false_eq_true, if_false] at h ⊢
      refine hb F ms hs g1 σ H1 _ Y1 ?_
      cases e2 : fb g1 with
      | no => rw [e2] at h; exact h
      | ex _ => rw [e2] at h; exact h
      | ok p2 =>
        obtain ⟨x2, g2⟩ := p2
        simp only [e2, Re.ok_bind, Re.pure_eq] at h
        intro v2 H2 Y2 S2 o2
        exact h v2 H2 Y2 (S1.trans S2) (o2.back Y1 S1.s)
/-! a chain of two comparisons -/
def chE (f f' : D → D → Option Rv) (a b d : M Rv) : M Rv := fun g => do
  let (x, g1) ← a g
  let (y, g2) ← b g1
  let dx ← ofO (x.dat g2)
  let dy ← ofO (y.dat g2)
  let r ← ofO (f dx dy)
  let k ← ofO (toBool g2 r)
  if k = true then do
    let (z, g3) ← d g2
    let dy ← ofO (y.dat g3)
    let dz ← ofO (z.dat g3)
    let r' ← ofO (f' dy dz)
    pure (r', g3)
  else pure (.da (.bool false), g2)
theorem dn_chain {r r' : R2} {f f' : D → D → Option Rv} {ta tb tc : TE} {fa fb fc : M Rv} (ho : OpD c r f) (ho' : OpD c r' f') (ha : Dn c E ta fa) (hb : Dn c E tb fb) (hc : Dn c E tc fc) : Dn c E (tChain r r' ta tb tc) (chE f f' fa fb fc) := by
  intro F ms hs g σ H Q Y h
  unfold chE at h
  refine ha F ms hs g σ H _ Y ?_
  cases e1 : fa g with
  | no => rw [e1] at h; exact h
  | ex _ => rw [e1] at h; exact h
  | ok p1 =>
    obtain ⟨x1, g1⟩ := p1
    simp only [e1, Re.ok_bind, Re.pure_eq] at h
    intro v1 H1 Y1 S1 o1
    refine hb F ms hs g1 σ H1 _ Y1 ?_
    cases e2 : fb g1 with
    | no => rw [e2] at h; exact h
    | ex _ => rw [e2] at h; exact h
    | ok p2 =>
      obtain ⟨x2, g2⟩ := p2
      simp only [e2, Re.ok_bind, Re.pure_eq] at h
      intro v2 H2 Y2 S2 o2
      cases q3 : x1.dat g2 with
      | none => rw [q3] at h; exact False.elim h
      | some d3 =>
        simp only [q3, ofO_some, Re.ok_bind, Re.pure_eq] at h
        cases q4 : x2.dat g2 with
        | none => rw [q4] at h; exact False.elim h
        | some d4 =>
          simp only [q4, ofO_some, Re.ok_bind, Re.pure_eq] at h
          refine ho hs H2 v1 v2 d3 d4 _ Y2.tr (((o1.l Y.tr).same S2.s).q Y2 q3) ((o2.l Y1.tr).q Y2 q4) ?_
          cases q5 : f d3 d4 with
          | none => rw [q5] at h; exact False.elim h
          | some d5 =>
            simp only [q5, ofO_some, Re.ok_bind, Re.pure_eq] at h
            intro v3 H3 e3 o3
            have Y3 := Y2.grow e3
            have S23 : Sm ms hs H2 H3 := Sm.grow e3
            have S3 := (S1.trans S2).trans S23
            have o3' : RvR c F ms g2 σ hs H2 H3 v3 d5 := by
              refine fin_op (H := H2) (Q := fun v H' => v = v3 → H' = H3 → RvR c F ms g2 σ hs H2 H3 v3 d5) Y2 Sm.refl (fun v H' _ _ o z1 z2 => ?_) v3 H3 e3 o3 rfl rfl
              subst z1 z2
              exact o
            cases q6 : toBool g2 d5 with
            | none => rw [q6] at h; exact False.elim h
            | some d6 =>
              simp only [q6, ofO_some, Re.ok_bind, Re.pure_eq] at h
              refine ⟨d6, boolInv o3' q6, ?_⟩
              cases d6 with
              | false => exact h _ H3 Y3 S3 rvok_bool
              | true =>
                simp only [if_true] at h ⊢
                refine hc F ms hs g2 σ H3 _ Y3 ?_
                cases e7 : fc g2 with
                | no => rw [e7] at h; exact h
                | ex _ => rw [e7] at h; exact h
                | ok p7 =>
                  obtain ⟨x7, g7⟩ := p7
                  simp only [e7, Re.ok_bind, Re.pure_eq] at h
                  intro v7 H7 Y7 S7 o7
                  cases q8 : x2.dat g7 with
                  | none => rw [q8] at h; exact False.elim h
                  | some d8 =>
                    simp only [q8, ofO_some, Re.ok_bind, Re.pure_eq] at h
                    cases q9 : x7.dat g7 with
                    | none => rw [q9] at h; exact False.elim h
                    | some d9 =>
                      simp only [q9, ofO_some, Re.ok_bind, Re.pure_eq] at h
                      have SS := S23.s
                      refine ho' hs H7 v2 v7 d8 d9 _ Y7.tr ((((o2.l Y1.tr).same SS).same S7.s).q Y7 q8) ((o7.l Y3.tr).q Y7 q9) ?_
                      cases q10 : f' d8 d9 with
                      | none => rw [q10] at h; exact False.elim h
                      | some d10 =>
                        simp only [q10, ofO_some, Re.ok_bind, Re.pure_eq] at h
                        exact fin_op Y7 (S3.trans S7) h
end
end GD

/-! GD3: operations on values. -/
namespace GD
open PySem PySem.Spec PyProof.Rows L2

/-! ### the functions -/
def bigI (i : Int) : Bool := decide (400000 ≤ i.natAbs.log2)
def cutD (xs : List D) (lo hi : Option Int) : List D := (xs.drop (HT.sIx xs.length 0 lo)).take (HT.sIx xs.length xs.length hi - HT.sIx xs.length 0 lo)
def addD : D → D → Option Rv
  | .int i, .int j => some (.da (.int (i + j)))
  | .str x, .str y => if x.length + y.length ≤ 1000000 then some (.da (.str (x ++ y))) else none
  | .tuple xs, .tuple ys => if xs.length + ys.length ≤ 1000000 then some (.da (.tuple (xs ++ ys))) else none
  | .list xs, .list ys => if xs.length + ys.length ≤ 1000000 then some (.fl (xs ++ ys)) else none
  | _, _ => none
def subD : D → D → Option Rv
  | .int i, .int j => some (.da (.int (i - j)))
  | _, _ => none
def mulD : D → D → Option Rv
  | .int i, .int j => if bigI i || bigI j then none else some (.da (.int (i * j)))
  | .tuple xs, .int k => if xs.length ≤ 1000 ∧ 0 ≤ k ∧ k ≤ 1000 then some (.da (.tuple (List.replicate k.toNat xs).flatten)) else none
  | .list xs, .int k => if xs.length ≤ 1000 ∧ 0 ≤ k ∧ k ≤ 1000 then some (.fl (List.replicate k.toNat xs).flatten) else none
  | _, _ => none
def fdivD : D → D → Option Rv
  | .int i, .int j => if 0 < j ∧ j.natAbs.log2 < 9000 then some (.da (.int (i / j))) else none
  | _, _ => none
def modD : D → D → Option Rv
  | .int i, .int j => if j = 0 then none else some (.da (.int (i.fmod j)))
  | _, _ => none
def powD : D → D → Option Rv
  | .int i, .int j => if 0 ≤ j ∧ j ≤ 1000000 ∧ i.natAbs < 2 ^ 64 then some (.da (.int (i ^ j.toNat))) else none
  | _, _ => none
def negD : D → Option Rv
  | .int i => some (.da (.int (-i)))
  | _ => none
def eqD (x y : D) : Option Rv := if SeqAt.shaped x && SeqAt.shaped y then some (.da (.bool (PyData.eqv x y))) else none
def neD (x y : D) : Option Rv := if SeqAt.shaped x && SeqAt.shaped y then some (.da (.bool (!PyData.eqv x y))) else none
def ltD : D → D → Option Rv
  | .int i, .int j => some (.da (.bool (decide (i < j))))
  | _, _ => none
def leD : D → D → Option Rv
  | .int i, .int j => some (.da (.bool (decide (i ≤ j))))
  | _, _ => none
def gtD : D → D → Option Rv
  | .int i, .int j => some (.da (.bool (decide (j < i))))
  | _, _ => none
def geD : D → D → Option Rv
  | .int i, .int j => some (.da (.bool (decide (j ≤ i))))
  | _, _ => none
def isNoneD : D → Bool
  | .none => true
  | _ => false
def isD : D → D → Option Rv
  | x, .none => some (.da (.bool (isNoneD x)))
  | .bool a, .bool b => some (.da (.bool (decide (a = b))))
  | _, _ => none
def isNotD : D → D → Option Rv
  | x, .none => some (.da (.bool (!isNoneD x)))
  | .bool a, .bool b => some (.da (.bool (!decide (a = b))))
  | _, _ => none
def inD : D → D → Option Rv
  | x, .list ys => if SeqAt.shaped x && SeqAt.shaped (.list ys) then some (.da (.bool (ys.any fun z => PyData.eqv z x))) else none
  | _, _ => none
def notInD : D → D → Option Rv
  | x, .list ys => if SeqAt.shaped x && SeqAt.shaped (.list ys) then some (.da (.bool (!ys.any fun z => PyData.eqv z x))) else none
  | _, _ => none
def ixD : D → D → Option Rv
  | .list xs, .int i => (atI xs i).map .da
  | .tuple xs, .int i => (atI xs i).map .da
  | .dict [(.none, .list xs)], .int i => (atI xs i).map .da
  | .str z, .int i => if z.length ≤ 1000000 then (atI z.cps.toList i).map fun n => .da (.str ⟨#[n]⟩) else none
  | _, _ => none
def lenD : List D → Option Rv
  | [.list xs] => some (.da (.int xs.length))
  | [.tuple xs] => some (.da (.int xs.length))
  | [.dict [(.none, .list xs)]] => some (.da (.int xs.length))
  | [.str z] => if z.length ≤ 1000000 then some (.da (.int z.length)) else none
  | _ => none
def absD : List D → Option Rv
  | [.int i] => some (.da (.int (if i < 0 then -i else i)))
  | _ => none
def intsOf : List D → Option (List Int)
  | [] => some []
  | .int i :: r => (intsOf r).map (i :: ·)
  | _ => none
def boolsOf : List D → Option (List Bool)
  | [] => some []
  | .bool i :: r => (boolsOf r).map (i :: ·)
  | _ => none
def maxL : List Int → Int
  | [] => 0
  | [x] => x
  | x :: r => if x < maxL r then maxL r else x
def minL : List Int → Int
  | [] => 0
  | [x] => x
  | x :: r => if minL r < x then minL r else x
def maxD : List D → Option Rv
  | [.int i, .int j] => some (.da (.int (if j > i then j else i)))
  | [.list xs] => (intsOf xs).bind fun ns => if ns = [] then none else some (.da (.int (maxL ns)))
  | [.tuple xs] => (intsOf xs).bind fun ns => if ns = [] then none else some (.da (.int (maxL ns)))
  | _ => none
def minD : List D → Option Rv
  | [.int i, .int j] => some (.da (.int (if j < i then j else i)))
  | [.list xs] => (intsOf xs).bind fun ns => if ns = [] then none else some (.da (.int (minL ns)))
  | [.tuple xs] => (intsOf xs).bind fun ns => if ns = [] then none else some (.da (.int (minL ns)))
  | _ => none
def sumD : List D → Option Rv
  | [.list xs] => (intsOf xs).map fun ns => .da (.int ns.sum)
  | [.tuple xs] => (intsOf xs).map fun ns => .da (.int ns.sum)
  | _ => none
def allD : List D → Option Rv
  | [.list xs] => (boolsOf xs).map fun bs => .da (.bool (bs.all id))
  | _ => none
def anyD : List D → Option Rv
  | [.list xs] => (boolsOf xs).map fun bs => .da (.bool (bs.any id))
  | _ => none
def intD : List D → Option Rv
  | [.int i] => some (.da (.int i))
  | [.bool k] => some (.da (.int (if k then 1 else 0)))
  | _ => none
def tupleD : List D → Option Rv
  | [.list xs] => some (.da (.tuple xs))
  | [.tuple xs] => some (.da (.tuple xs))
  | _ => none
def listD : List D → Option Rv
  | [.list xs] => some (.fl xs)
  | [.tuple xs] => some (.fl xs)
  | _ => none
def isiD (T : String) : D → Bool
  | .none => T == "NoneType"
  | .bool _ => T == "bool" || T == "int"
  | .int _ => T == "int"
  | .str _ => T == "str"
  | .list _ => T == "list"
  | .tuple _ => T == "tuple"
  | .dict [(.none, .list _)] => T == "list"
  | .dict _ => T == "dict"

section
variable {c : CT} {H : Hp}
theorem rvda {hs : List Addr} {H H' : Hp} {v : V} {d : D} (h : Rp c (hid hs H') v d) : RvOk c hs H H' v (.da d) := h
theorem Rp.intInv {v : V} {i : Int} (h : Rp c H v (.int i)) : v = .int i := by cases h; rfl
theorem Rp.blInv {v : V} {b : Bool} (h : Rp c H v (.bool b)) : v = .bl b := by cases h; rfl
theorem Rp.strInv {v : V} {b : Str} (h : Rp c H v (.str b)) : v = .str b := by cases h; rfl
theorem Rp.nonInv {v : V} (h : Rp c H v .none) : v = .non := by cases h; rfl
theorem Rp.lstInv {v : V} {ds : List D} (h : Rp c H v (.list ds)) : ∃ a xs, v = .ref a ∧ Rd H a (.lst xs) ∧ RpL c H xs ds := by
  cases h with | lst h r => exact ⟨_, _, rfl, h, r⟩
theorem Rp.tupInv {v : V} {ds : List D} (h : Rp c H v (.tuple ds)) : ∃ a xs, v = .ref a ∧ SqT c.K H a xs ∧ RpL c H xs ds := by
  cases h with | tup h r => exact ⟨_, _, rfl, h, r⟩
theorem Rp.scrInv {v : V} {ds : List D} (h : Rp c H v (.dict [(.none, .list ds)])) : ∃ a xs, v = .ref a ∧ SqL c.K H a xs ∧ RpL c H xs ds := by
  cases h with | scr h r => exact ⟨_, _, rfl, h, r⟩
theorem RpL.nilInv {vs : List V} (h : RpL c H vs []) : vs = [] := by cases h; rfl
theorem RpL.consInv {vs : List V} {d : D} {ds : List D} (h : RpL c H vs (d :: ds)) : ∃ v r, vs = v :: r ∧ Rp c H v d ∧ RpL c H r ds := by
  cases h with | cons h r => exact ⟨_, _, rfl, h, r⟩
theorem RpL.oneInv {vs : List V} {d : D} (h : RpL c H vs [d]) : ∃ v, vs = [v] ∧ Rp c H v d := by
  obtain ⟨v, r, rfl, h1, h2⟩ := h.consInv
  cases h2
  exact ⟨v, rfl, h1⟩
theorem RpL.twoInv {vs : List V} {d e : D} (h : RpL c H vs [d, e]) : ∃ v w, vs = [v, w] ∧ Rp c H v d ∧ Rp c H w e := by
  obtain ⟨v, r, rfl, h1, h2⟩ := h.consInv
  obtain ⟨w, rfl, h3⟩ := h2.oneInv
  exact ⟨v, w, rfl, h1, h3⟩
theorem RpL.ints : ∀ {ds : List D} {vs : List V} {ns : List Int}, RpL c H vs ds → intsOf ds = some ns → vs = ns.map V.int
  | [], _, _, .nil, e => by cases e; rfl
  | .int i :: ds, _, ns, .cons h r, e => by
    cases h
    simp only [intsOf, Option.map_eq_some_iff] at e
    obtain ⟨ms, e1, rfl⟩ := e
    rw [RpL.ints r e1]
    rfl
  | .none :: _, _, _, _, e => by simp [intsOf] at e
  | .bool _ :: _, _, _, _, e => by simp [intsOf] at e
  | .str _ :: _, _, _, _, e => by simp [intsOf] at e
  | .list _ :: _, _, _, _, e => by simp [intsOf] at e
  | .tuple _ :: _, _, _, _, e => by simp [intsOf] at e
  | .dict _ :: _, _, _, _, e => by simp [intsOf] at e
theorem RpL.bools : ∀ {ds : List D} {vs : List V} {ns : List Bool}, RpL c H vs ds → boolsOf ds = some ns → vs = ns.map V.bl
  | [], _, _, .nil, e => by cases e; rfl
  | .bool i :: ds, _, ns, .cons h r, e => by
    cases h
    simp only [boolsOf, Option.map_eq_some_iff] at e
    obtain ⟨ms, e1, rfl⟩ := e
    rw [RpL.bools r e1]
    rfl
  | .none :: _, _, _, _, e => by simp [boolsOf] at e
  | .int _ :: _, _, _, _, e => by simp [boolsOf] at e
  | .str _ :: _, _, _, _, e => by simp [boolsOf] at e
  | .list _ :: _, _, _, _, e => by simp [boolsOf] at e
  | .tuple _ :: _, _, _, _, e => by simp [boolsOf] at e
  | .dict _ :: _, _, _, _, e => by simp [boolsOf] at e
theorem RpL.rep {vs : List V} {ds : List D} (h : RpL c H vs ds) : ∀ n : Nat, RpL c H (List.replicate n vs).flatten (List.replicate n ds).flatten
  | 0 => .nil
  | n + 1 => by
    rw [List.replicate_succ, List.replicate_succ, List.flatten_cons, List.flatten_cons]
    exact h.append (h.rep n)
theorem RpL.cut {vs : List V} {ds : List D} (h : RpL c H vs ds) (lo hi : Option Int) : RpL c H (cutV vs lo hi) (cutD ds lo hi) := by
  unfold cutV cutD
  rw [h.length]
  exact (h.drop _).take _
theorem RpL.atI {vs : List V} {ds : List D} {i : Int} {d : D} (h : RpL c H vs ds) (e : L2.atI ds i = some d) : ∃ v, L2.atI vs i = some v ∧ Rp c H v d := by
  unfold L2.atI at e ⊢
  rw [h.length]
  cases q : ixN ds.length i with
  | none => rw [q] at e; cases e
  | some j =>
    rw [q] at e
    exact h.get e
end

/-! ### more operations of the layer -/
section
variable {X : Cx}
theorem rdL {pins : List (Addr × Obj)} {σ : L2.St} {H : Hp} {s : Shared} {l : Addr} {xs : List V} (I : Inv X pins σ H s) (h : Rd H l (.lst xs)) :
    xs.length ≤ sizeLine ∧ ∃ (its : List Value) (n : Nat), Vals xs its ∧ xs.length = its.length ∧ s.heap.get? l = some { cls := .type "list", data := .seq its.toArray n } := by
  obtain ⟨z, its, n, r, e⟩ := h.ok I.hok
  exact ⟨z, its, n, r, r.length, e⟩
def rCatL : R2 := fun x y H Q => ∃ l b xs zs, x = .ref l ∧ y = .ref b ∧ Rd H l (.lst xs) ∧ Rd H b (.lst zs) ∧ xs.length + zs.length ≤ sizeLine ∧ ∀ p, H p = none → Q (.ref p) (upd H p (.lst (xs ++ zs)))
theorem op_catL : OpR X (binaryOp .Add) rCatL := by
  intro pins s σ H x y v u Q I rx ry h
  obtain ⟨l, b, xs, zs, rfl, rfl, hH, hB, hz, q⟩ := h
  cases rx
  cases ry
  obtain ⟨z, its, n, r, hl, e⟩ := rdL I hH
  obtain ⟨z2, its2, n2, r2, hl2, e2⟩ := rdL I hB
  refine PySem.P.add_list e e2 ?_ (by rw [List.size_toArray, List.size_toArray]; omega)
  have ea : its.toArray ++ its2.toArray = (its ++ its2).toArray := by simp
  rw [ea]
  exact ⟨.ref _, _, I.lnew (t' := s.toks) (r.append r2) (by rw [List.length_append]; omega), rfl, q _ I.fresh⟩

def rRepL : R2 := fun x y H Q => ∃ l k xs, x = .ref l ∧ y = .int k ∧ Rd H l (.lst xs) ∧ -(2 ^ 63) ≤ k ∧ k < 2 ^ 63 ∧ xs.length * k.toNat ≤ sizeLine ∧
  ∀ p, H p = none → Q (.ref p) (upd H p (.lst (List.replicate k.toNat xs).flatten))
theorem op_repL : OpR X (binaryOp .Mult) rRepL := by
  intro pins s σ H x y v u Q I rx ry h
  obtain ⟨l, k, xs, rfl, rfl, hH, h1, h2, hz, q⟩ := h
  cases rx
  obtain ⟨t, rfl⟩ := ry
  obtain ⟨z, its, n, r, hl, e⟩ := rdL I hH
  have hlen : its.toArray.size * k.toNat ≤ sizeLine := by rw [List.size_toArray, ← hl]; exact hz
  have hcap : ¬ its.toArray.size * k.toNat > (2 ^ 63 - 1) / 8 := by
    have : (sizeLine : Nat) ≤ (2 ^ 63 - 1) / 8 := by decide
    omega
  have hfit : ¬ (!Builtin.List.listFitsIndex k) = true := by
    rw [fitsIndex_both h1 h2]
    exact Bool.false_ne_true
  have hlong : ¬ Builtin.List.listTooLong (its.toArray.size * k.toNat) = true := by
    rw [notLongL hlen]
    exact Bool.false_ne_true
  have hnew : List.foldl (fun x1 x2 => x1 ++ x2) #[] (List.replicate (if its.toArray.isEmpty = true then 0 else k.toNat) its.toArray) = (List.replicate k.toNat its).flatten.toArray := by
    have f0 : ∀ m : Nat, List.foldl (fun x1 x2 => x1 ++ x2) #[] (List.replicate m its.toArray) = (List.replicate m its).flatten.toArray := fun m => by
      have := foldl_rep its m []
      rw [List.nil_append] at this
      exact this
    rw [f0]
    cases its with
    | nil => simp
    | cons a r' => rw [if_neg (by simp)]
  refine wpAny_binaryOp_repeat_ref (T := "list") (U := "int") (by decide) ⟨_, e, rfl⟩ (fun s' => typeIs_int s' k t) noFill_list_mul F.fills_int_mul F.slot_int_rmul repeat_list F.slot_int_index.lookup
    (call_meets F.slot_int_rmul (typeIs_int s k t) F.entry_int_rmul (F.args_int_rmul_2 _ _) (int___rmul___int_list k t l its.toArray n)
      ⟨e, rfl, ⟨_, e, rfl⟩, call_meets F.slot_list_mul ⟨_, e, rfl⟩ F.entry_list_mul (F.args_list_mul_2 _ _) (AutoListH.list___mul___list_int_3 l its.toArray n k t hfit hcap hlong) ⟨e, ?_⟩⟩)
  rw [hnew]
  exact ⟨.ref _, _, I.lnew (t' := s.toks) (r.rep k.toNat) (by rw [PyProof.Rows.lm_len_rep_flat, Nat.mul_comm]; exact hz), rfl, q _ I.fresh⟩
theorem tuple_mul1 (l : Addr) (items : Array Value) (n : Nat) (dd : Option Addr) (sl : Array (Option Value)) (x : Int) (u : Tok) (c0 : (decide (x < -(2 ^ 63)) || decide (x ≥ 2 ^ 63)) = false) (c1 : (items.isEmpty || x == 1) = true) :
    Meets (Builtin.«tuple.__mul__» ⟨[.ref l, .int x u], []⟩) (fun _ R s => s.heap.get? l = some { cls := .type "tuple", dict := dd, data := .seq items n, slots := sl } ∧ R (.ok (.ret (Value.ref l))) s) :=
  .of_wp fun prog w A R s h => by
    obtain ⟨hp, g, d, tk, os⟩ := s
    obtain ⟨hl, h⟩ := h
    have f1 := AutoSeq1.idx_int
    wp_walk using wpAny_loadPart' hl
    repeat (first
      | (refine wpAny_ite_false (decide_eq_false (by rw [c0]; exact Bool.false_ne_true)) ?_; wp_walk using wpAny_loadPart' hl)
      | (refine wpAny_ite_true (decide_eq_true c1) ?_; wp_walk using wpAny_loadPart' hl))
    exact ⟨_, rfl, h⟩
theorem tuple_mul0 (l : Addr) (items : Array Value) (n : Nat) (dd : Option Addr) (sl : Array (Option Value)) (x : Int) (u : Tok) (c0 : (decide (x < -(2 ^ 63)) || decide (x ≥ 2 ^ 63)) = false) (c1 : (items.isEmpty || x == 1) = false) (c2 : (decide (x ≤ 0) || items.isEmpty) = true) :
    Meets (Builtin.«tuple.__mul__» ⟨[.ref l, .int x u], []⟩) (fun _ R s => s.heap.get? l = some { cls := .type "tuple", dict := dd, data := .seq items n, slots := sl } ∧
      R (.ok (.ret (Value.ref s.heap.objs.size))) { s with heap := s.heap.push { cls := Value.type "tuple", data := Data.seq #[] }, toks := s.toks }) :=
  .of_wp fun prog w A R s h => by
    obtain ⟨hp, g, d, tk, os⟩ := s
    obtain ⟨hl, h⟩ := h
    have f1 := AutoSeq1.idx_int
    wp_walk using wpAny_loadPart' hl
    repeat (first
      | (refine wpAny_ite_false (decide_eq_false (by rw [c0]; exact Bool.false_ne_true)) ?_; wp_walk using wpAny_loadPart' hl)
      | (refine wpAny_ite_false (decide_eq_false (by rw [c1]; exact Bool.false_ne_true)) ?_; wp_walk using wpAny_loadPart' hl)
      | (refine wpAny_ite_true (decide_eq_true c2) ?_; wp_walk using wpAny_loadPart' hl)
      | (refine wpAny_ite_false (decide_eq_false (by simp)) ?_; wp_walk using wpAny_loadPart' hl))
    exact ⟨_, rfl, h⟩
end
end GD

/-! GD4: operations on values, answered. -/
namespace GD
open PySem PySem.Spec PyProof.Rows L2
section
variable {X : Cx}
def rRepA (K : PySem.W.Frag) : R2 := fun x y H Q => ∃ l k xs, x = .ref l ∧ y = .int k ∧ SqT K H l xs ∧ 0 ≤ k ∧ k ≤ 1000 ∧ xs.length ≤ 1000 ∧
  (xs = [] ∨ k = 1 → Q (.ref l) H) ∧ (xs ≠ [] → k ≠ 1 → ∀ p, H p = none → Q (.ref p) (upd H p (.tup (List.replicate k.toNat xs).flatten)))
theorem op_repA : OpR X (binaryOp .Mult) (rRepA X.K) := by
  intro pins s σ H x y v u Q I rx ry h
  obtain ⟨l, k, xs, rfl, rfl, hT, h1, h2, hz, q1, q2⟩ := h
  by_cases hb : xs ≠ [] ∧ 2 ≤ k
  · exact op_repT pins s σ H _ _ v u Q I rx ry ⟨l, k, xs, rfl, rfl, hT, hb.1, hb.2, h2, hz, q2 hb.1 (by omega)⟩
  cases rx
  obtain ⟨t, rfl⟩ := ry
  obtain ⟨its, r, ⟨⟨cls, dd, data, sl⟩, ho, hc, n, hd⟩, hs⟩ := I.tuple hT
  simp only at hc hd
  subst hc hd
  have hle : its.length = xs.length := r.length.symm
  have c0 : (decide (k < -(2 ^ 63)) || decide (k ≥ 2 ^ 63)) = false := by
    rw [decide_eq_false (by omega), decide_eq_false (by omega)] <;> rfl
  by_cases hx : xs = [] ∨ k = 1
  · have c1 : (its.toArray.isEmpty || k == 1) = true := by
      rcases hx with rfl | rfl
      · cases r; rfl
      · simp
    refine wpAny_binaryOp_repeat_ref (T := "tuple") (U := "int") (by decide) ⟨_, ho, rfl⟩ (fun s' => typeIs_int s' k t) noFill_tuple_mul F.fills_int_mul F.slot_int_rmul repeat_tuple F.slot_int_index.lookup
      (call_meets F.slot_int_rmul (typeIs_int s k t) F.entry_int_rmul (F.args_int_rmul_2 _ _) (int_rmul_tuple k t l its.toArray n dd sl)
        ⟨ho, rfl, ⟨_, ho, rfl⟩, call_meets F.slot_tuple_mul ⟨_, ho, rfl⟩ F.entry_tuple_mul (F.args_tuple_mul_2 _ _) (tuple_mul1 l its.toArray n dd sl k t c0 c1) ⟨ho, ?_⟩⟩)
    exact ⟨.ref l, H, I, rfl, q1 hx⟩
  · have hne : xs ≠ [] := fun z => hx (.inl z)
    have hk1 : k ≠ 1 := fun z => hx (.inr z)
    have hk0 : k = 0 := by
      have : ¬ 2 ≤ k := fun z => hb ⟨hne, z⟩
      omega
    subst hk0
    have hi : its.toArray.isEmpty = false := by
      cases its with
      | nil => exact absurd (List.eq_nil_of_length_eq_zero hle.symm) hne
      | cons a b => rfl
    have c1 : (its.toArray.isEmpty || (0 : Int) == 1) = false := by rw [hi]; rfl
    have c2 : (decide ((0 : Int) ≤ 0) || its.toArray.isEmpty) = true := by rfl
    refine wpAny_binaryOp_repeat_ref (T := "tuple") (U := "int") (by decide) ⟨_, ho, rfl⟩ (fun s' => typeIs_int s' 0 t) noFill_tuple_mul F.fills_int_mul F.slot_int_rmul repeat_tuple F.slot_int_index.lookup
      (call_meets F.slot_int_rmul (typeIs_int s 0 t) F.entry_int_rmul (F.args_int_rmul_2 _ _) (int_rmul_tuple 0 t l its.toArray n dd sl)
        ⟨ho, rfl, ⟨_, ho, rfl⟩, call_meets F.slot_tuple_mul ⟨_, ho, rfl⟩ F.entry_tuple_mul (F.args_tuple_mul_2 _ _) (tuple_mul0 l its.toArray n dd sl 0 t c0 c1 c2) ⟨ho, ?_⟩⟩)
    refine ⟨.ref s.heap.objs.size, _, I.laid (t' := s.toks) (o := .tup []) (fun b ob q => Heap.get?_push_of_some _ q) (Nat.le_refl _) ?_, rfl, q2 hne hk1 _ (I.hok.fresh (Nat.le_refl _))⟩
    exact ⟨Nat.zero_le _, [], .nil, IsTup.new _ _⟩

/-! sums, greatest and least of tuples -/
section
variable {prog : Program} {w : World} {A : Around} {E : Value → Shared → Prop} {s : Shared} {l : Addr} {xs : Array (Int × Tok)} {its : List Value} {ns : List Int} {Q : Value → Shared → Prop}
theorem iter_intTuple {Q : Value → Shared → Prop} (hl : s.heap.IsTuple l (intItems xs))
    (h : ∀ s₂ : Shared, s₂ = { s with heap := s.heap.push { cls := .type "tuple_iterator", data := .fields #[.ref l, .int 0 0] } } →
      (s₂.heap.IsTupleIter s.heap.objs.size l 0 ∧ s₂.heap.IsTuple l (intItems xs)) → (∀ b ∈ [s.heap.objs.size, l], b < s₂.heap.objs.size) → l ≠ s.heap.objs.size → Q (.ref s.heap.objs.size) s₂) :
    wpAny (model prog w) A (pyIter (.ref l)) Q E s := by
  have hlt : l < s.heap.objs.size := by obtain ⟨_, e, _⟩ := hl; exact Heap.lt_size e
  refine wpAny_pyIter_tuple hl (h _ rfl ⟨⟨_, Heap.get?_push_size _ rfl, rfl, rfl⟩, hl.push _⟩ (fun b hb => ?_) (Nat.ne_of_lt hlt))
  show b < (s.heap.push _).objs.size
  rw [Heap.size_push]
  rcases List.mem_cons.mp hb with rfl | hb
  · exact Nat.lt_succ_self _
  · rcases List.mem_cons.mp hb with rfl | hb
    · exact Nat.lt_succ_of_lt hlt
    · cases hb
theorem old_keptT {h' : Heap} (hk : ∀ b o, b ∉ [s.heap.objs.size] → (s.heap.push { cls := .type "tuple_iterator", data := .fields #[.ref l, .int 0 0] }).get? b = some o → h'.get? b = some o) :
    ∀ b o, s.heap.get? b = some o → h'.get? b = some o := fun b o e => by
  refine hk b o (fun hm => ?_) (Heap.get?_push_of_some _ e)
  rcases List.mem_cons.mp hm with e1 | hm
  · exact absurd (e1 ▸ Heap.lt_size e) (Nat.lt_irrefl _)
  · cases hm
theorem sumT_raw (hh : A.handled = none) (hl : s.heap.IsTuple l its.toArray) (hi : IntsAre its ns)
    (h : ∀ h' tk t', (∀ b o, s.heap.get? b = some o → h'.get? b = some o) → Q (.int ns.sum t') { s with heap := h', toks := tk }) : wpAny (model prog w) A (call (.builtin "sum") [.ref l]) Q E s := by
  obtain ⟨xs, e⟩ := hi.allInts.items
  have hn : numsOf (intItems xs).toList = ns := by rw [← e]; exact hi.numsOf
  rw [nums_intItems] at hn
  rw [e] at hl
  refine call_sum_walkG (iter_intTuple hl fun s₂ e st hfp hlI => ?_)
  subst e
  refine ⟨_, _, _, _, _, _, numAt xs, rfl, Walks.tuple (A := A.in1) hh _ l hlI (intItems xs), st, hfp, (fun _ _ => intItems_at), fun h' tk t' hk => ?_⟩
  have := h h' tk t' (old_keptT hk)
  have e2 : preSum (numAt xs) (intItems xs).size = ns.sum := by
    rw [preSum_eq, List.take_of_length_le (by simp [intItems]), hn]
  rw [e2]
  exact this
theorem maxT_raw (hh : A.handled = none) (hl : s.heap.IsTuple l its.toArray) (hi : IntsAre its ns) (hne : 0 < ns.length)
    (h : ∀ h' tk M t', (∀ b o, s.heap.get? b = some o → h'.get? b = some o) → M ∈ ns → (∀ a, a ∈ ns → a ≤ M) → Q (.int M t') { s with heap := h', toks := tk }) : wpAny (model prog w) A (call (.builtin "max") [.ref l]) Q E s := by
  obtain ⟨xs, e⟩ := hi.allInts.items
  have hn : numsOf (intItems xs).toList = ns := by rw [← e]; exact hi.numsOf
  rw [nums_intItems] at hn
  subst hn
  rw [e] at hl
  have hsz : 0 < xs.size := by simpa using hne
  refine call_max_walk (iter_intTuple hl fun s₂ e st hfp hlI => ?_)
  subst e
  refine ⟨_, _, _, _, _, _, _, rfl, Walks.tuple (A := A.in1) hh _ l hlI (intItems xs), st, hfp, by simpa [intItems] using hsz, CmpOf.ints_gt (numAt xs) (fun _ _ => intItems_at), fun v h' tk hP hk => ?_⟩
  have hP' : (intItems xs)[argBest (fun i j => decide (numAt xs i > numAt xs j)) (xs.size - 1)]? = some v := by simpa [intItems] using hP
  obtain ⟨t, rfl⟩ := intItems_at hP'
  obtain ⟨h1, h2⟩ := argBest_gt (numAt xs) (xs.size - 1)
  refine h h' tk _ t (old_keptT hk) ?_ fun a ha => ?_
  · rw [numAt_eq]; exact PySem.getD_mem (by rw [List.length_map, Array.length_toList]; omega)
  · obtain ⟨j, hj, rfl⟩ := mem_getD ha
    rw [List.length_map, Array.length_toList] at hj
    rw [← numAt_eq]; exact h2 j (by omega)
theorem minT_raw (hh : A.handled = none) (hl : s.heap.IsTuple l its.toArray) (hi : IntsAre its ns) (hne : 0 < ns.length)
    (h : ∀ h' tk M t', (∀ b o, s.heap.get? b = some o → h'.get? b = some o) → M ∈ ns → (∀ a, a ∈ ns → M ≤ a) → Q (.int M t') { s with heap := h', toks := tk }) : wpAny (model prog w) A (call (.builtin "min") [.ref l]) Q E s := by
  obtain ⟨xs, e⟩ := hi.allInts.items
  have hn : numsOf (intItems xs).toList = ns := by rw [← e]; exact hi.numsOf
  rw [nums_intItems] at hn
  subst hn
  rw [e] at hl
  have hsz : 0 < xs.size := by simpa using hne
  refine call_min_walk (iter_intTuple hl fun s₂ e st hfp hlI => ?_)
  subst e
  refine ⟨_, _, _, _, _, _, _, rfl, Walks.tuple (A := A.in1) hh _ l hlI (intItems xs), st, hfp, by simpa [intItems] using hsz, CmpOf.ints_lt (numAt xs) (fun _ _ => intItems_at), fun v h' tk hP hk => ?_⟩
  have hP' : (intItems xs)[argBest (fun i j => decide (numAt xs i < numAt xs j)) (xs.size - 1)]? = some v := by simpa [intItems] using hP
  obtain ⟨t, rfl⟩ := intItems_at hP'
  obtain ⟨h1, h2⟩ := argBest_lt (numAt xs) (xs.size - 1)
  refine h h' tk _ t (old_keptT hk) ?_ fun a ha => ?_
  · rw [numAt_eq]; exact PySem.getD_mem (by rw [List.length_map, Array.length_toList]; omega)
  · obtain ⟨j, hj, rfl⟩ := mem_getD ha
    rw [List.length_map, Array.length_toList] at hj
    rw [← numAt_eq]; exact h2 j (by omega)
end
def rSumT (K : PySem.W.Frag) : List V → Hp → VK → Prop := fun vs H Q => ∃ (a : Addr) (ns : List Int), vs = [V.ref a] ∧ SqT K H a (ns.map V.int) ∧ Q (.int ns.sum) H
def rMaxT (K : PySem.W.Frag) : List V → Hp → VK → Prop := fun vs H Q => ∃ (a : Addr) (ns : List Int), vs = [V.ref a] ∧ SqT K H a (ns.map V.int) ∧ 0 < ns.length ∧ ∀ m, m ∈ ns → (∀ y, y ∈ ns → y ≤ m) → Q (.int m) H
def rMinT (K : PySem.W.Frag) : List V → Hp → VK → Prop := fun vs H Q => ∃ (a : Addr) (ns : List Int), vs = [V.ref a] ∧ SqT K H a (ns.map V.int) ∧ 0 < ns.length ∧ ∀ m, m ∈ ns → (∀ y, y ∈ ns → m ≤ y) → Q (.int m) H
theorem cr_sumT (hc : X.calm = true) : CallR X (.builtin "sum") (rSumT X.K) := by
  intro pins s σ H vs us Q I r h
  obtain ⟨a, ns, rfl, hs, q⟩ := h
  obtain ⟨its, rv, hl, _⟩ := I.tuple hs
  rw [Vals.ref1 r]
  exact sumT_raw (I.ok.hd hc) (show s.heap.IsTuple a its.toArray from hl) rv.ints fun h' tk t' hk => ⟨.int _, H, I.kept hk, ⟨_, rfl⟩, q⟩
theorem cr_maxT (hc : X.calm = true) : CallR X (.builtin "max") (rMaxT X.K) := by
  intro pins s σ H vs us Q I r h
  obtain ⟨a, ns, rfl, hs, hne, q⟩ := h
  obtain ⟨its, rv, hl, _⟩ := I.tuple hs
  rw [Vals.ref1 r]
  exact maxT_raw (I.ok.hd hc) (show s.heap.IsTuple a its.toArray from hl) rv.ints hne fun h' tk m t' hk h1 h2 => ⟨.int _, H, I.kept hk, ⟨_, rfl⟩, q m h1 h2⟩
theorem cr_minT (hc : X.calm = true) : CallR X (.builtin "min") (rMinT X.K) := by
  intro pins s σ H vs us Q I r h
  obtain ⟨a, ns, rfl, hs, hne, q⟩ := h
  obtain ⟨its, rv, hl, _⟩ := I.tuple hs
  rw [Vals.ref1 r]
  exact minT_raw (I.ok.hd hc) (show s.heap.IsTuple a its.toArray from hl) rv.ints hne fun h' tk m t' hk h1 h2 => ⟨.int _, H, I.kept hk, ⟨_, rfl⟩, q m h1 h2⟩
end
end GD

/-! GD5: operations of the layer, put together, and answered. -/
namespace GD
open PySem PySem.Spec PyProof.Rows L2

def rStrAdd : R2 := fun x y H Q => ∃ i j, x = .str i ∧ y = .str j ∧ i.length + j.length ≤ sizeLine ∧ Q (.str (i ++ j)) H
def rAddG (K : PySem.W.Frag) : R2 := fun x y H Q => rI0 (fun i j => .int (i + j)) x y H Q ∨ (rStrAdd x y H Q ∨ (rCatA K x y H Q ∨ rCatL x y H Q))
def rMulG (K : PySem.W.Frag) : R2 := fun x y H Q => rI CMulW (fun i j => .int (i * j)) x y H Q ∨ (rRepA K x y H Q ∨ rRepL x y H Q)
def rSubG : R2 := rI0 fun i j => .int (i - j)
def rFdivG : R2 := rI CDivW fun i j => .int (i / j)
def rModG : R2 := rI (fun _ j => j ≠ 0) fun i j => .int (i.fmod j)
def rPowG : R2 := rI CPow fun i j => .int (i ^ j.toNat)
def rLtG : R2 := rI0 fun i j => .bl (decide (i < j))
def rLeG : R2 := rI0 fun i j => .bl (decide (i ≤ j))
def rGtG : R2 := rI0 fun i j => .bl (decide (j < i))
def rGeG : R2 := rI0 fun i j => .bl (decide (j ≤ i))
def rIsG : R2 := fun x y H Q => (y = .non ∧ Q (.bl (decide (x = .non))) H) ∨ rIsB x y H Q
def rIsNotG : R2 := fun x y H Q => (y = .non ∧ Q (.bl (!decide (x = .non))) H) ∨ rNotB x y H Q
def rNegG : V → Hp → VK → Prop := rU fun i => .int (-i)
def rSlG (K : PySem.W.Frag) : V → Option Int → Option Int → Hp → VK → Prop := fun x lo hi H Q => rSlA K x lo hi H Q ∨ rSlL K x lo hi H Q
def rLenG (K : PySem.W.Frag) : List V → Hp → VK → Prop := fun xs H Q => ∃ x n, xs = [x] ∧ LenV K x H n ∧ Q (.int n) H
def rAbsG : List V → Hp → VK → Prop := fun xs H Q => ∃ i, xs = [.int i] ∧ Q (.int (if i < 0 then -i else i)) H
def rMaxG (K : PySem.W.Frag) : List V → Hp → VK → Prop := fun xs H Q => (∃ i j, xs = [.int i, .int j] ∧ Q (.int (if j > i then j else i)) H) ∨ (rMax K xs H Q ∨ rMaxT K xs H Q)
def rMinG (K : PySem.W.Frag) : List V → Hp → VK → Prop := fun xs H Q => (∃ i j, xs = [.int i, .int j] ∧ Q (.int (if j < i then j else i)) H) ∨ (rMin K xs H Q ∨ rMinT K xs H Q)
def rSumG (K : PySem.W.Frag) : List V → Hp → VK → Prop := fun xs H Q => rSum K xs H Q ∨ rSumT K xs H Q
def rInt1 : List V → Hp → VK → Prop := fun xs H Q => (∃ i, xs = [.int i] ∧ Q (.int i) H) ∨ ∃ k, xs = [.bl k] ∧ Q (.int (if k then 1 else 0)) H
def rTupOf (K : PySem.W.Frag) : List V → Hp → VK → Prop := fun xs H Q => ∃ p ys, xs = [.ref p] ∧ ((SqL K H p ys ∧ ∀ l, H l = none → Q (.ref l) (upd H l (.tup ys))) ∨ (SqT K H p ys ∧ Q (.ref p) H))
def rLstOf (K : PySem.W.Frag) : List V → Hp → VK → Prop := fun xs H Q => ∃ p ys, xs = [.ref p] ∧ (SqL K H p ys ∨ SqT K H p ys) ∧ ∀ l, H l = none → Q (.ref l) (upd H l (.lst ys))
section
variable {X : Cx}
theorem g_add : OpR X (binaryOp .Add) (rAddG X.K) := op_add.or (op_add_str.or (op_catA.or op_catL))
theorem g_mul : OpR X (binaryOp .Mult) (rMulG X.K) := op_mulW.or (op_repA.or op_repL)
theorem g_sub : OpR X (binaryOp .Sub) rSubG := op_sub
theorem g_fdiv : OpR X (binaryOp .FloorDiv) rFdivG := op_fdivW
theorem g_mod : OpR X (binaryOp .Mod) rModG := op_modN
theorem g_pow : OpR X (binaryOp .Pow) rPowG := op_pow
theorem g_lt : OpR X (compareOp .Lt) rLtG := op_lt
theorem g_le : OpR X (compareOp .LtE) rLeG := op_le
theorem g_gt : OpR X (compareOp .Gt) rGtG := op_gt
theorem g_ge : OpR X (compareOp .GtE) rGeG := op_ge
theorem g_is : OpR X (compareOp .Is) rIsG := op_isN.or op_isBl
theorem g_isnot : OpR X (compareOp .IsNot) rIsNotG := op_notN.or op_notBl
theorem g_neg : UnR X (unaryOp .USub) rNegG := un_neg
theorem g_sl : SlR X (rSlG X.K) := sl_tupA.or sl_list
theorem g_len : CallR X (.builtin "len") (rLenG X.K) := call_len
theorem g_abs : CallR X (.builtin "abs") rAbsG := call_abs
theorem g_max (hc : X.calm = true) : CallR X (.builtin "max") (rMaxG X.K) := (call_max2 hc).or ((cr_max hc).or (cr_maxT hc))
theorem g_min (hc : X.calm = true) : CallR X (.builtin "min") (rMinG X.K) := (call_min2 hc).or ((cr_min hc).or (cr_minT hc))
theorem g_sum (hc : X.calm = true) : CallR X (.builtin "sum") (rSumG X.K) := (cr_sum hc).or (cr_sumT hc)
theorem g_int : CallR X (.type "int") rInt1 := call_int1
theorem g_tuple : CallR X (.type "tuple") (rTupOf X.K) := call_tuple_of
theorem g_list : CallR X (.type "list") (rLstOf X.K) := call_list_of
end

theorem maxL_mem : ∀ {ns : List Int}, ns ≠ [] → maxL ns ∈ ns ∧ ∀ y ∈ ns, y ≤ maxL ns
  | [], h => absurd rfl h
  | [x], _ => by simp [maxL]
  | x :: y :: r, _ => by
    have ih := maxL_mem (ns := y :: r) (by simp)
    unfold maxL
    split
    · rename_i hlt
      refine ⟨List.mem_cons_of_mem _ ih.1, fun z hz => ?_⟩
      rcases List.mem_cons.mp hz with rfl | hz
      · omega
      · exact ih.2 z hz
    · rename_i hlt
      refine ⟨List.mem_cons_self, fun z hz => ?_⟩
      rcases List.mem_cons.mp hz with rfl | hz
      · omega
      · have := ih.2 z hz; omega
theorem minL_mem : ∀ {ns : List Int}, ns ≠ [] → minL ns ∈ ns ∧ ∀ y ∈ ns, minL ns ≤ y
  | [], h => absurd rfl h
  | [x], _ => by simp [minL]
  | x :: y :: r, _ => by
    have ih := minL_mem (ns := y :: r) (by simp)
    unfold minL
    split
    · rename_i hlt
      refine ⟨List.mem_cons_of_mem _ ih.1, fun z hz => ?_⟩
      rcases List.mem_cons.mp hz with rfl | hz
      · omega
      · exact ih.2 z hz
    · rename_i hlt
      refine ⟨List.mem_cons_self, fun z hz => ?_⟩
      rcases List.mem_cons.mp hz with rfl | hz
      · omega
      · have := ih.2 z hz; omega

section
variable {c : CT}
theorem hidT {hs : List Addr} {H : Hp} {a : Addr} {xs : List V} (h : SqT c.K (hid hs H) a xs) : SqT c.K H a xs := same_t hid_le h
theorem hidL {hs : List Addr} {H : Hp} {a : Addr} {xs : List V} (h : SqL c.K (hid hs H) a xs) : SqL c.K H a xs := same_l hid_le h
theorem hidR {hs : List Addr} {H : Hp} {a : Addr} {xs : List V} (h : Rd (hid hs H) a (.lst xs)) : Rd H a (.lst xs) := same_rd hid_le h
theorem rp_newtup {hs : List Addr} {H : Hp} {p : Addr} {vs : List V} {ds : List D} (tr : ∀ a ∈ hs, H a ≠ none) (hp : H p = none) (r : RpL c (hid hs H) vs ds) : Rp c (hid hs (upd H p (.tup vs))) (.ref p) (.tuple ds) :=
  .tup (.inl (.inl (by rw [hid_out fun z => tr p z hp]; exact upd_same))) (r.same (hid_mono (same_new hp)))
theorem Rq.rp {hs : List Addr} {H : Hp} {v : V} {d : D} (h : Rq c hs H v d) (n : ∀ ds, d ≠ .list ds) : Rp c (hid hs H) v d := by
  cases h with
  | da h => exact h
  | ml _ _ => exact absurd rfl (n _)
theorem Rq.intInv {hs : List Addr} {H : Hp} {v : V} {i : Int} (h : Rq c hs H v (.int i)) : v = .int i := (h.rp fun _ z => nomatch z).intInv
theorem Rq.blInv {hs : List Addr} {H : Hp} {v : V} {i : Bool} (h : Rq c hs H v (.bool i)) : v = .bl i := (h.rp fun _ z => nomatch z).blInv
theorem Rq.strInv {hs : List Addr} {H : Hp} {v : V} {i : Str} (h : Rq c hs H v (.str i)) : v = .str i := (h.rp fun _ z => nomatch z).strInv
theorem Rq.nonInv {hs : List Addr} {H : Hp} {v : V} (h : Rq c hs H v .none) : v = .non := (h.rp fun _ z => nomatch z).nonInv
theorem Rq.tupRp {hs : List Addr} {H : Hp} {v : V} {ds : List D} (h : Rq c hs H v (.tuple ds)) : Rp c (hid hs H) v (.tuple ds) := h.rp fun _ z => nomatch z
theorem Rq.tupInv {hs : List Addr} {H : Hp} {v : V} {ds : List D} (h : Rq c hs H v (.tuple ds)) : ∃ a xs, v = .ref a ∧ SqT c.K (hid hs H) a xs ∧ RpL c (hid hs H) xs ds := h.tupRp.tupInv
theorem Rq.scrInv {hs : List Addr} {H : Hp} {v : V} {ds : List D} (h : Rq c hs H v (.dict [(.none, .list ds)])) : ∃ a xs, v = .ref a ∧ SqL c.K (hid hs H) a xs ∧ RpL c (hid hs H) xs ds := (h.rp fun _ z => nomatch z).scrInv
theorem Rq.lstInv {hs : List Addr} {H : Hp} {v : V} {ds : List D} (h : Rq c hs H v (.list ds)) : ∃ a xs, v = .ref a ∧ Rd H a (.lst xs) ∧ RpL c (hid hs H) xs ds := by
  cases h with
  | da h =>
    obtain ⟨a, xs, e, h1, h2⟩ := h.lstInv
    exact ⟨a, xs, e, hidR h1, h2⟩
  | ml h r => exact ⟨_, _, rfl, .inl h, r⟩
theorem RqL.consInv {hs : List Addr} {H : Hp} {vs : List V} {d : D} {ds : List D} (h : RqL c hs H vs (d :: ds)) : ∃ v r, vs = v :: r ∧ Rq c hs H v d ∧ RqL c hs H r ds := by
  cases h with | cons h r => exact ⟨_, _, rfl, h, r⟩
theorem RqL.oneInv {hs : List Addr} {H : Hp} {vs : List V} {d : D} (h : RqL c hs H vs [d]) : ∃ v, vs = [v] ∧ Rq c hs H v d := by
  obtain ⟨v, r, rfl, h1, h2⟩ := h.consInv
  cases h2
  exact ⟨v, rfl, h1⟩
theorem RqL.twoInv {hs : List Addr} {H : Hp} {vs : List V} {d e : D} (h : RqL c hs H vs [d, e]) : ∃ v w, vs = [v, w] ∧ Rq c hs H v d ∧ Rq c hs H w e := by
  obtain ⟨v, r, rfl, h1, h2⟩ := h.consInv
  obtain ⟨w, rfl, h3⟩ := h2.oneInv
  exact ⟨v, w, rfl, h1, h3⟩
theorem Rq.dp {hs : List Addr} {H : Hp} {v : V} {d : D} (n : nodict d = true) (h : Rq c hs H v d) : Dp c.K H v d := by
  cases h with
  | da h => exact (h.same hid_le).dp n
  | ml h r => exact .lst (.inl (.inl h)) ((r.same hid_le).dp (by simpa [nodict] using n))

theorem d_sub : OpD c rSubG subD := by
  intro hs H x y dx dy Q tr hx hy h
  unfold subD at h
  split at h
  next rv e =>
    split at e
    next i j =>
      cases e
      exact ⟨i, j, hx.intInv, hy.intInv, h _ H (Same.refl _) (.int _)⟩
    next => cases e
  next => exact h.elim
theorem d_fdiv : OpD c rFdivG fdivD := by
  intro hs H x y dx dy Q tr hx hy h
  unfold fdivD at h
  split at h
  next rv e =>
    split at e
    next i j =>
      split at e
      next hc => cases e; exact ⟨i, j, hx.intInv, hy.intInv, hc, h _ H (Same.refl _) (.int _)⟩
      next => cases e
    next => cases e
  next => exact h.elim
theorem d_mod : OpD c rModG modD := by
  intro hs H x y dx dy Q tr hx hy h
  unfold modD at h
  split at h
  next rv e =>
    split at e
    next i j =>
      split at e
      next => cases e
      next hc => cases e; exact ⟨i, j, hx.intInv, hy.intInv, hc, h _ H (Same.refl _) (.int _)⟩
    next => cases e
  next => exact h.elim
theorem d_pow : OpD c rPowG powD := by
  intro hs H x y dx dy Q tr hx hy h
  unfold powD at h
  split at h
  next rv e =>
    split at e
    next i j =>
      split at e
      next hc => cases e; exact ⟨i, j, hx.intInv, hy.intInv, hc, h _ H (Same.refl _) (.int _)⟩
      next => cases e
    next => cases e
  next => exact h.elim
theorem d_lt : OpD c rLtG ltD := by
  intro hs H x y dx dy Q tr hx hy h
  unfold ltD at h
  split at h
  next rv e =>
    split at e
    next i j => cases e; exact ⟨i, j, hx.intInv, hy.intInv, h _ H (Same.refl _) (.bl _)⟩
    next => cases e
  next => exact h.elim
theorem d_le : OpD c rLeG leD := by
  intro hs H x y dx dy Q tr hx hy h
  unfold leD at h
  split at h
  next rv e =>
    split at e
    next i j => cases e; exact ⟨i, j, hx.intInv, hy.intInv, h _ H (Same.refl _) (.bl _)⟩
    next => cases e
  next => exact h.elim
theorem d_gt : OpD c rGtG gtD := by
  intro hs H x y dx dy Q tr hx hy h
  unfold gtD at h
  split at h
  next rv e =>
    split at e
    next i j => cases e; exact ⟨i, j, hx.intInv, hy.intInv, h _ H (Same.refl _) (.bl _)⟩
    next => cases e
  next => exact h.elim
theorem d_ge : OpD c rGeG geD := by
  intro hs H x y dx dy Q tr hx hy h
  unfold geD at h
  split at h
  next rv e =>
    split at e
    next i j => cases e; exact ⟨i, j, hx.intInv, hy.intInv, h _ H (Same.refl _) (.bl _)⟩
    next => cases e
  next => exact h.elim
theorem d_neg : UnD c rNegG negD := by
  intro hs H x dx Q tr hx h
  unfold negD at h
  split at h
  next rv e =>
    split at e
    next i => cases e; exact ⟨i, hx.intInv, h _ H (Same.refl _) (.int _)⟩
    next => cases e
  next => exact h.elim
theorem d_eq : OpD c (rEqD c.K) eqD := by
  intro hs H x y dx dy Q tr hx hy h
  unfold eqD at h
  split at h
  next rv e =>
    split at e
    next hc =>
      cases e
      rw [Bool.and_eq_true] at hc
      exact ⟨dx, dy, hx.dp (nodict_of_shaped hc.1), hy.dp (nodict_of_shaped hc.2), hc.1, hc.2, h _ H (Same.refl _) (.bl _)⟩
    next => cases e
  next => exact h.elim
theorem d_ne : OpD c (rNeD c.K) neD := by
  intro hs H x y dx dy Q tr hx hy h
  unfold neD at h
  split at h
  next rv e =>
    split at e
    next hc =>
      cases e
      rw [Bool.and_eq_true] at hc
      exact ⟨dx, dy, hx.dp (nodict_of_shaped hc.1), hy.dp (nodict_of_shaped hc.2), hc.1, hc.2, h _ H (Same.refl _) (.bl _)⟩
    next => cases e
  next => exact h.elim
theorem nonV {H : Hp} {v : V} {d : D} (h : Rp c H v d) : decide (v = .non) = isNoneD d := by
  cases h <;> rfl
theorem nonVq {hs : List Addr} {H : Hp} {v : V} {d : D} (h : Rq c hs H v d) : decide (v = .non) = isNoneD d := by
  cases h with
  | da h => exact nonV h
  | ml _ _ => rfl
theorem d_is : OpD c rIsG isD := by
  intro hs H x y dx dy Q tr hx hy h
  unfold isD at h
  split at h
  next rv e =>
    split at e
    next => cases e; exact .inl ⟨hy.nonInv, by rw [nonVq hx]; exact h _ H (Same.refl _) (.bl _)⟩
    next a b => cases e; exact .inr ⟨a, b, hx.blInv, hy.blInv, h _ H (Same.refl _) (.bl _)⟩
    next => cases e
  next => exact h.elim
theorem d_isnot : OpD c rIsNotG isNotD := by
  intro hs H x y dx dy Q tr hx hy h
  unfold isNotD at h
  split at h
  next rv e =>
    split at e
    next => cases e; exact .inl ⟨hy.nonInv, by rw [nonVq hx]; exact h _ H (Same.refl _) (.bl _)⟩
    next a b => cases e; exact .inr ⟨a, b, hx.blInv, hy.blInv, h _ H (Same.refl _) (.bl _)⟩
    next => cases e
  next => exact h.elim
theorem d_add : OpD c (rAddG c.K) addD := by
  intro hs H x y dx dy Q tr hx hy h
  unfold addD at h
  split at h
  next rv e =>
    split at e
    next i j => cases e; exact .inl ⟨i, j, hx.intInv, hy.intInv, h _ H (Same.refl _) (.int _)⟩
    next i j =>
      split at e
      next hc => cases e; exact .inr (.inl ⟨i, j, hx.strInv, hy.strInv, sz_of hc, h _ H (Same.refl _) (.str _)⟩)
      next => cases e
    next xs ys =>
      split at e
      next hc =>
        cases e
        obtain ⟨a, us, rfl, h1, h2⟩ := hx.tupInv
        obtain ⟨b, ws, rfl, h3, h4⟩ := hy.tupInv
        refine .inr (.inr (.inl ⟨a, b, us, ws, rfl, rfl, hidT h1, hidT h3, by rw [h2.length, h4.length]; exact sz_of hc, fun z => ?_, fun _ z => ?_, fun _ _ p hp => ?_⟩))
        · subst z; cases h2
          exact h _ H (Same.refl _) hy.tupRp
        · subst z; cases h4
          exact h _ H (Same.refl _) (by rw [List.append_nil]; exact hx.tupRp)
        · exact h _ _ (same_new hp) (rp_newtup tr hp (h2.append h4))
      next => cases e
    next xs ys =>
      split at e
      next hc =>
        cases e
        obtain ⟨a, us, rfl, h1, h2⟩ := hx.lstInv
        obtain ⟨b, ws, rfl, h3, h4⟩ := hy.lstInv
        exact .inr (.inr (.inr ⟨a, b, us, ws, rfl, rfl, h1, h3, by rw [h2.length, h4.length]; exact sz_of hc, fun p hp => h _ _ (same_new hp) (rv_newlst tr hp (h2.append h4))⟩))
      next => cases e
    next => cases e
  next => exact h.elim
theorem bigI_lt {i : Int} (h : bigI i = false) : i.natAbs.log2 < 400000 := by
  unfold bigI at h
  have := of_decide_eq_false h
  omega
theorem d_mul : OpD c (rMulG c.K) mulD := by
  intro hs H x y dx dy Q tr hx hy h
  unfold mulD at h
  split at h
  next rv e =>
    split at e
    next i j =>
      split at e
      next => cases e
      next hc =>
        cases e
        have hc' : (bigI i || bigI j) = false := by simpa using hc
        rw [Bool.or_eq_false_iff] at hc'
        have h1 := bigI_lt hc'.1
        have h2 := bigI_lt hc'.2
        exact .inl ⟨i, j, hx.intInv, hy.intInv, (show i.natAbs.log2 + j.natAbs.log2 < 1000000 by omega), h _ H (Same.refl _) (.int _)⟩
    next xs k =>
      split at e
      next hc =>
        cases e
        obtain ⟨a, us, rfl, h1, h2⟩ := hx.tupInv
        refine .inr (.inl ⟨a, k, us, rfl, hy.intInv, hidT h1, hc.2.1, hc.2.2, by rw [h2.length]; exact hc.1, fun z => ?_, fun _ _ p hp => ?_⟩)
        · rcases z with z | z
          · subst z; cases h2
            exact h _ H (Same.refl _) (rvda (by simpa using hx.tupRp))
          · subst z
            exact h _ H (Same.refl _) (rvda (by simpa using hx.tupRp))
        · exact h _ _ (same_new hp) (rp_newtup tr hp (h2.rep _))
      next => cases e
    next xs k =>
      split at e
      next hc =>
        cases e
        obtain ⟨a, us, rfl, h1, h2⟩ := hx.lstInv
        refine .inr (.inr ⟨a, k, us, rfl, hy.intInv, h1, by omega, by omega, ?_, fun p hp => h _ _ (same_new hp) (rv_newlst tr hp (h2.rep _))⟩)
        rw [h2.length]
        have a1 : xs.length * k.toNat ≤ 1000 * 1000 := Nat.mul_le_mul hc.1 (by omega)
        exact sz_of a1
      next => cases e
    next => cases e
  next => exact h.elim
theorem d_ix : OpD c (rIx c.K) ixD := by
  intro hs H x y dx dy Q tr hx hy h
  unfold ixD at h
  split at h
  next rv e =>
    split at e
    next xs i =>
      simp only [Option.map_eq_some_iff] at e
      obtain ⟨d, e1, rfl⟩ := e
      obtain ⟨a, us, rfl, h1, h2⟩ := hx.lstInv
      obtain ⟨v, e2, r⟩ := h2.atI e1
      exact .inl ⟨a, us, i, v, rfl, hy.intInv, .inl (h1), e2, h _ H (Same.refl _) r⟩
    next xs i =>
      simp only [Option.map_eq_some_iff] at e
      obtain ⟨d, e1, rfl⟩ := e
      obtain ⟨a, us, rfl, h1, h2⟩ := hx.tupInv
      obtain ⟨v, e2, r⟩ := h2.atI e1
      exact .inr (.inl ⟨a, us, i, v, rfl, hy.intInv, hidT h1, e2, h _ H (Same.refl _) r⟩)
    next xs i =>
      simp only [Option.map_eq_some_iff] at e
      obtain ⟨d, e1, rfl⟩ := e
      obtain ⟨a, us, rfl, h1, h2⟩ := hx.scrInv
      obtain ⟨v, e2, r⟩ := h2.atI e1
      exact .inl ⟨a, us, i, v, rfl, hy.intInv, hidL h1, e2, h _ H (Same.refl _) r⟩
    next z i =>
      split at e
      next hc =>
        simp only [Option.map_eq_some_iff] at e
        obtain ⟨n, e1, rfl⟩ := e
        exact .inr (.inr ⟨z, i, n, hx.strInv, hy.intInv, sz_of hc, e1, h _ H (Same.refl _) (.str _)⟩)
      next => cases e
    next => cases e
  next => exact h.elim
theorem d_len : CaD c (rLenG c.K) lenD := by
  intro hs H xs ds Q tr hx h
  unfold lenD at h
  split at h
  next rv e =>
    split at e
    next ys =>
      cases e
      obtain ⟨v, rfl, r⟩ := hx.oneInv
      obtain ⟨a, us, rfl, h1, h2⟩ := r.lstInv
      exact ⟨.ref a, ys.length, rfl, .inl ⟨us, .inl (h1), h2.length.symm⟩, h _ H (Same.refl _) (.int _)⟩
    next ys =>
      cases e
      obtain ⟨v, rfl, r⟩ := hx.oneInv
      obtain ⟨a, us, rfl, h1, h2⟩ := r.tupInv
      exact ⟨.ref a, ys.length, rfl, .inr ⟨us, hidT h1, h2.length.symm⟩, h _ H (Same.refl _) (.int _)⟩
    next ys =>
      cases e
      obtain ⟨v, rfl, r⟩ := hx.oneInv
      obtain ⟨a, us, rfl, h1, h2⟩ := r.scrInv
      exact ⟨.ref a, ys.length, rfl, .inl ⟨us, hidL h1, h2.length.symm⟩, h _ H (Same.refl _) (.int _)⟩
    next z =>
      split at e
      next hc =>
        cases e
        obtain ⟨v, rfl, r⟩ := hx.oneInv
        cases r.strInv
        exact ⟨.str z, z.length, rfl, ⟨sz_of hc, rfl⟩, h _ H (Same.refl _) (.int _)⟩
      next => cases e
    next => cases e
  next => exact h.elim
theorem d_abs : CaD c rAbsG absD := by
  intro hs H xs ds Q tr hx h
  unfold absD at h
  split at h
  next rv e =>
    split at e
    next i =>
      cases e
      obtain ⟨v, rfl, r⟩ := hx.oneInv
      exact ⟨i, by rw [r.intInv], h _ H (Same.refl _) (.int _)⟩
    next => cases e
  next => exact h.elim
theorem d_max : CaD c (rMaxG c.K) maxD := by
  intro hs H xs ds Q tr hx h
  unfold maxD at h
  split at h
  next rv e =>
    split at e
    next i j =>
      cases e
      obtain ⟨v, w, rfl, r, r2⟩ := hx.twoInv
      exact .inl ⟨i, j, by rw [r.intInv, r2.intInv], h _ H (Same.refl _) (.int _)⟩
    next ys =>
      simp only [Option.bind_eq_some_iff] at e
      obtain ⟨ns, e1, e2⟩ := e
      split at e2
      next => cases e2
      next hne =>
        cases e2
        obtain ⟨v, rfl, r⟩ := hx.oneInv
        obtain ⟨a, us, rfl, h1, h2⟩ := r.lstInv
        rw [h2.ints e1] at h1
        refine .inr (.inl ⟨a, ns, rfl, .inl (h1), List.length_pos_iff.mpr hne, fun m hm hle => ?_⟩)
        obtain ⟨q1, q2⟩ := maxL_mem hne
        have : m = maxL ns := Int.le_antisymm (q2 m hm) (hle _ q1)
        subst this
        exact h _ H (Same.refl _) (.int _)
    next ys =>
      simp only [Option.bind_eq_some_iff] at e
      obtain ⟨ns, e1, e2⟩ := e
      split at e2
      next => cases e2
      next hne =>
        cases e2
        obtain ⟨v, rfl, r⟩ := hx.oneInv
        obtain ⟨a, us, rfl, h1, h2⟩ := r.tupInv
        rw [h2.ints e1] at h1
        refine .inr (.inr ⟨a, ns, rfl, hidT h1, List.length_pos_iff.mpr hne, fun m hm hle => ?_⟩)
        obtain ⟨q1, q2⟩ := maxL_mem hne
        have : m = maxL ns := Int.le_antisymm (q2 m hm) (hle _ q1)
        subst this
        exact h _ H (Same.refl _) (.int _)
    next => cases e
  next => exact h.elim
theorem d_min : CaD c (rMinG c.K) minD := by
  intro hs H xs ds Q tr hx h
  unfold minD at h
  split at h
  next rv e =>
    split at e
    next i j =>
      cases e
      obtain ⟨v, w, rfl, r, r2⟩ := hx.twoInv
      exact .inl ⟨i, j, by rw [r.intInv, r2.intInv], h _ H (Same.refl _) (.int _)⟩
    next ys =>
      simp only [Option.bind_eq_some_iff] at e
      obtain ⟨ns, e1, e2⟩ := e
      split at e2
      next => cases e2
      next hne =>
        cases e2
        obtain ⟨v, rfl, r⟩ := hx.oneInv
        obtain ⟨a, us, rfl, h1, h2⟩ := r.lstInv
        rw [h2.ints e1] at h1
        refine .inr (.inl ⟨a, ns, rfl, .inl (h1), List.length_pos_iff.mpr hne, fun m hm hle => ?_⟩)
        obtain ⟨q1, q2⟩ := minL_mem hne
        have : m = minL ns := Int.le_antisymm (hle _ q1) (q2 m hm)
        subst this
        exact h _ H (Same.refl _) (.int _)
    next ys =>
      simp only [Option.bind_eq_some_iff] at e
      obtain ⟨ns, e1, e2⟩ := e
      split at e2
      next => cases e2
      next hne =>
        cases e2
        obtain ⟨v, rfl, r⟩ := hx.oneInv
        obtain ⟨a, us, rfl, h1, h2⟩ := r.tupInv
        rw [h2.ints e1] at h1
        refine .inr (.inr ⟨a, ns, rfl, hidT h1, List.length_pos_iff.mpr hne, fun m hm hle => ?_⟩)
        obtain ⟨q1, q2⟩ := minL_mem hne
        have : m = minL ns := Int.le_antisymm (hle _ q1) (q2 m hm)
        subst this
        exact h _ H (Same.refl _) (.int _)
    next => cases e
  next => exact h.elim
theorem d_sum : CaD c (rSumG c.K) sumD := by
  intro hs H xs ds Q tr hx h
  unfold sumD at h
  split at h
  next rv e =>
    split at e
    next ys =>
      simp only [Option.map_eq_some_iff] at e
      obtain ⟨ns, e1, rfl⟩ := e
      obtain ⟨v, rfl, r⟩ := hx.oneInv
      obtain ⟨a, us, rfl, h1, h2⟩ := r.lstInv
      rw [h2.ints e1] at h1
      exact .inl ⟨a, ns, rfl, .inl (h1), h _ H (Same.refl _) (.int _)⟩
    next ys =>
      simp only [Option.map_eq_some_iff] at e
      obtain ⟨ns, e1, rfl⟩ := e
      obtain ⟨v, rfl, r⟩ := hx.oneInv
      obtain ⟨a, us, rfl, h1, h2⟩ := r.tupInv
      rw [h2.ints e1] at h1
      exact .inr ⟨a, ns, rfl, hidT h1, h _ H (Same.refl _) (.int _)⟩
    next => cases e
  next => exact h.elim
theorem d_all : CaD c (rAll c.K) allD := by
  intro hs H xs ds Q tr hx h
  unfold allD at h
  split at h
  next rv e =>
    split at e
    next ys =>
      simp only [Option.map_eq_some_iff] at e
      obtain ⟨ns, e1, rfl⟩ := e
      obtain ⟨v, rfl, r⟩ := hx.oneInv
      obtain ⟨a, us, rfl, h1, h2⟩ := r.lstInv
      rw [h2.bools e1] at h1
      exact ⟨a, ns, rfl, .inl (h1), h _ H (Same.refl _) (.bl _)⟩
    next => cases e
  next => exact h.elim
theorem d_any : CaD c (rAny c.K) anyD := by
  intro hs H xs ds Q tr hx h
  unfold anyD at h
  split at h
  next rv e =>
    split at e
    next ys =>
      simp only [Option.map_eq_some_iff] at e
      obtain ⟨ns, e1, rfl⟩ := e
      obtain ⟨v, rfl, r⟩ := hx.oneInv
      obtain ⟨a, us, rfl, h1, h2⟩ := r.lstInv
      rw [h2.bools e1] at h1
      exact ⟨a, ns, rfl, .inl (h1), h _ H (Same.refl _) (.bl _)⟩
    next => cases e
  next => exact h.elim
theorem d_int : CaD c rInt1 intD := by
  intro hs H xs ds Q tr hx h
  unfold intD at h
  split at h
  next rv e =>
    split at e
    next i =>
      cases e
      obtain ⟨v, rfl, r⟩ := hx.oneInv
      exact .inl ⟨i, by rw [r.intInv], h _ H (Same.refl _) (.int _)⟩
    next i =>
      cases e
      obtain ⟨v, rfl, r⟩ := hx.oneInv
      exact .inr ⟨i, by rw [r.blInv], h _ H (Same.refl _) (.int _)⟩
    next => cases e
  next => exact h.elim
theorem d_tuple : CaD c (rTupOf c.K) tupleD := by
  intro hs H xs ds Q tr hx h
  unfold tupleD at h
  split at h
  next rv e =>
    split at e
    next ys =>
      cases e
      obtain ⟨v, rfl, r⟩ := hx.oneInv
      obtain ⟨a, us, rfl, h1, h2⟩ := r.lstInv
      exact ⟨a, us, rfl, .inl ⟨.inl (h1), fun p hp => h _ _ (same_new hp) (rp_newtup tr hp h2)⟩⟩
    next ys =>
      cases e
      obtain ⟨v, rfl, r⟩ := hx.oneInv
      obtain ⟨a, us, rfl, h1, h2⟩ := id r.tupInv
      exact ⟨a, us, rfl, .inr ⟨hidT h1, h _ H (Same.refl _) r.tupRp⟩⟩
    next => cases e
  next => exact h.elim
theorem d_list : CaD c (rLstOf c.K) listD := by
  intro hs H xs ds Q tr hx h
  unfold listD at h
  split at h
  next rv e =>
    split at e
    next ys =>
      cases e
      obtain ⟨v, rfl, r⟩ := hx.oneInv
      obtain ⟨a, us, rfl, h1, h2⟩ := r.lstInv
      exact ⟨a, us, rfl, .inl (.inl (h1)), fun p hp => h _ _ (same_new hp) (rv_newlst tr hp h2)⟩
    next ys =>
      cases e
      obtain ⟨v, rfl, r⟩ := hx.oneInv
      obtain ⟨a, us, rfl, h1, h2⟩ := r.tupInv
      exact ⟨a, us, rfl, .inr (hidT h1), fun p hp => h _ _ (same_new hp) (rv_newlst tr hp h2)⟩
    next => cases e
  next => exact h.elim
/-! isinstance of a built-in type -/
theorem tyx_of {H : Hp} {v : V} {d : D} (hx : c.X = none) (h : Rp c H v d) : ∃ t, TyX c.K H v (.type t) ∧ ∀ T : String, (T = "int" ∨ T = "bool" ∨ T = "str" ∨ T = "list" ∨ T = "tuple" ∨ T = "dict") → PySem.W.kitOne c.K (.type t) (.type T) = some (isiD T d) := by
  cases h with
  | non => exact ⟨_, .base .non, by rintro T (rfl | rfl | rfl | rfl | rfl | rfl) <;> rfl⟩
  | bl b => exact ⟨_, .base (.bl b), by rintro T (rfl | rfl | rfl | rfl | rfl | rfl) <;> rfl⟩
  | int b => exact ⟨_, .base (.int b), by rintro T (rfl | rfl | rfl | rfl | rfl | rfl) <;> rfl⟩
  | str b => exact ⟨_, .base (.str b), by rintro T (rfl | rfl | rfl | rfl | rfl | rfl) <;> rfl⟩
  | lst h r =>
    rcases h with h | ⟨o, h⟩
    · exact ⟨"list", .base (.lst h), by rintro T (rfl | rfl | rfl | rfl | rfl | rfl) <;> rfl⟩
    · exact ⟨"list", .base (.frz h), by rintro T (rfl | rfl | rfl | rfl | rfl | rfl) <;> rfl⟩
  | tup h r =>
    rcases h with (h | ⟨o, h⟩) | ⟨o, its, n, h, hc, _⟩
    · exact ⟨"tuple", .base (.tup h), by rintro T (rfl | rfl | rfl | rfl | rfl | rfl) <;> rfl⟩
    · exact ⟨"tuple", .fTuple h, by rintro T (rfl | rfl | rfl | rfl | rfl | rfl) <;> rfl⟩
    · exact ⟨"tuple", .kTuple h hc, by rintro T (rfl | rfl | rfl | rfl | rfl | rfl) <;> rfl⟩
  | exc h1 _ => rw [hx] at h1; cases h1
  | dct0 h => exact ⟨"dict", .base (.dK h), by rintro T (rfl | rfl | rfl | rfl | rfl | rfl) <;> rfl⟩
  | dcti h => exact ⟨"dict", .base (.dK h), by rintro T (rfl | rfl | rfl | rfl | rfl | rfl) <;> rfl⟩
  | scr h r =>
    rcases h with (h | ⟨o, h⟩) | ⟨o, its, n, h, hc, _⟩
    · exact ⟨"list", .base (.lst h), by rintro T (rfl | rfl | rfl | rfl | rfl | rfl) <;> rfl⟩
    · exact ⟨"list", .base (.frz h), by rintro T (rfl | rfl | rfl | rfl | rfl | rfl) <;> rfl⟩
    · exact ⟨"list", .kList h hc, by rintro T (rfl | rfl | rfl | rfl | rfl | rfl) <;> rfl⟩
theorem tyx_grow {K : PySem.W.Frag} {H H' : Hp} {v : V} {t : Value} (e : Same H H') (h : TyX K H v t) : TyX K H' v t := by
  cases h with
  | base b =>
    refine .base ?_
    cases b with
    | non => exact .non
    | bl x => exact .bl x
    | int x => exact .int x
    | str x => exact .str x
    | flt x => exact .flt x
    | lst h => exact .lst (e _ _ h)
    | frz h => exact .frz (e _ _ h)
    | tup h => exact .tup (e _ _ h)
    | dK h => exact .dK (e _ _ h)
    | dT h => exact .dT (e _ _ h)
    | ins h cl ha hn htk hm => exact .ins (e _ _ h) cl ha hn htk hm
  | byt b => exact .byt b
  | set h => exact .set (e _ _ h)
  | kList h c => exact .kList h c
  | kTuple h c => exact .kTuple h c
  | kDict h c => exact .kDict h c
  | fTuple h => exact .fTuple (e _ _ h)
  | fDict h => exact .fDict (e _ _ h)
theorem tyq_of {hs : List Addr} {H : Hp} {v : V} {d : D} (hx : c.X = none) (h : Rq c hs H v d) : ∃ t, TyX c.K H v (.type t) ∧ ∀ T : String, (T = "int" ∨ T = "bool" ∨ T = "str" ∨ T = "list" ∨ T = "tuple" ∨ T = "dict") → PySem.W.kitOne c.K (.type t) (.type T) = some (isiD T d) := by
  cases h with
  | da h =>
    obtain ⟨t, q1, q2⟩ := tyx_of hx h
    exact ⟨t, tyx_grow hid_le q1, q2⟩
  | ml h r => exact ⟨"list", .base (.lst h), by rintro T (rfl | rfl | rfl | rfl | rfl | rfl) <;> rfl⟩
def isiE (T : String) (a : M Rv) : M Rv := op1 (fun d => some (.da (.bool (isiD T d)))) a
theorem dn_isi {E : XK} {T : String} {ta : TE} {fa : M Rv} (hT : T = "int" ∨ T = "bool" ∨ T = "str" ∨ T = "list" ∨ T = "tuple" ∨ T = "dict") (ha : Dn c E ta fa) (hx : c.X = none := by rfl) :
    Dn c E (tCB (rIsi c.K) (tCons ta (tCons (tC (.ty T)) tNil))) (isiE T fa) := by
  intro F ms hs g σ H Q Y h
  unfold isiE op1 at h
  refine ha F ms hs g σ H _ Y ?_
  cases e1 : fa g with
  | no => rw [e1] at h; exact h
  | ex _ => rw [e1] at h; exact h
  | ok p =>
    obtain ⟨x, g1⟩ := p
    simp only [e1, Re.ok_bind] at h
    intro v1 H1 Y1 S1 o1
    cases q3 : x.dat g1 with
    | none => rw [q3] at h; exact False.elim h
    | some d3 =>
      simp only [q3, ofO_some, Re.ok_bind, Re.pure_eq] at h
      obtain ⟨t, q1, q2⟩ := tyq_of hx ((o1.l Y.tr).q Y1 q3)
      exact ⟨v1, .ty T, .type t, .type T, isiD T d3, rfl, .ty T, q1, q2 T hT, h _ H1 Y1 S1 rvok_bool⟩
end
end GD

/-! GD6: slices, targets, statements. -/
namespace GD
open PySem PySem.Spec PyProof.Rows L2

def oN : M (Option Int) := fun g => .ok (none, g)
def intOf : Rv → Option Int
  | .da (.int i) => some i
  | _ => none
@[simp] theorem intOf_int (i : Int) : intOf (.da (.int i)) = some i := rfl
def oS (a : M Rv) : M (Option Int) := fun g => do
  let (x, g1) ← a g
  let i ← ofO (intOf x)
  pure (some i, g1)
def slE (f : D → Option Int → Option Int → Option Rv) (a : M Rv) (lo hi : M (Option Int)) : M Rv := fun g => do
  let (x, g1) ← a g
  let (l, g2) ← lo g1
  let (u, g3) ← hi g2
  let d ← ofO (x.dat g3)
  let r ← ofO (f d l u)
  pure (r, g3)
def slD : D → Option Int → Option Int → Option Rv
  | .tuple xs, lo, hi => some (.da (.tuple (cutD xs lo hi)))
  | .list xs, lo, hi => some (.fl (cutD xs lo hi))
  | _, _, _ => none

inductive SR where
  | nx (g : G)
  | rt (r : Rv) (g : G)
  | bk (g : G)
  | ct (g : G)
  | ex (c : Str)
  | no
def seqS (a b : G → SR) : G → SR := fun g => match a g with
  | .nx g1 => b g1
  | r => r
def nextS : G → SR := .nx
def asgS (e : M Rv) (T : Rv → G → Re G) : G → SR := fun g => match e g with
  | .ok (r, g1) => (match T r g1 with
    | .ok g2 => .nx g2
    | _ => .no)
  | .ex e => .ex e
  | .no => .no
def parS (i j : Nat) (a : M (List Rv)) : G → SR := fun g => match a g with
  | .ok ([r1, r2], g1) => (match rawL g1 [r1, r2] with
    | some [d1, d2] => .nx ((g1.set i (.da d1)).set j (.da d2))
    | _ => .no)
  | .ok _ => .no
  | .ex e => .ex e
  | .no => .no
def ifS (t : M Bool) (a b : G → SR) : G → SR := fun g => match t g with
  | .ok (x, g1) => if x = true then a g1 else b g1
  | .ex e => .ex e
  | .no => .no
def retS (e : M Rv) : G → SR := fun g => match e g with
  | .ok (.da d, g1) => .rt (.da d) g1
  | .ok (.fl d, g1) => .rt (.fl d) g1
  | .ok (.bl i, g1) => (match g1[i]? with
    | some (.ml true ds) => .rt (.fl ds) g1
    | _ => .no)
  | .ex e => .ex e
  | .no => .no
def retN : G → SR := fun g => .rt (.da .none) g
def dropS (e : M Rv) : G → SR := fun g => match e g with
  | .ok (_, g1) => .nx g1
  | .ex e => .ex e
  | .no => .no
def raiseS (c : Str) : G → SR := fun _ => .ex c
def neverS : G → SR := fun _ => .no
def contS : G → SR := .ct
def breakS : G → SR := .bk
def frzS (i : Nat) (g : G) : G := match g[i]? with
  | some (.ml true ds) => g.set i (.da (.list ds))
  | _ => g
/-- xs.append(e) -/
def appS (o e : M Rv) : G → SR := fun g => match o g with
  | .ok (.bl i, g1) => (match g1[i]? with
    | some (.ml _ _) => (match e g1 with
      | .ok (r, g2) => (match rawL g2 [r] with
        | some [d] => (match g2[i]? with
          | some (.ml own ds) => if ds.length < 1000000 then .nx (g2.set i (.ml own (ds ++ [d]))) else .no
          | _ => .no)
        | _ => .no)
      | .ex e => .ex e
      | .no => .no)
    | _ => .no)
  | .ok _ => .no
  | .ex e => .ex e
  | .no => .no
/-- xs.extend(a list) -/
def extS (o e : M Rv) : G → SR := fun g => match o g with
  | .ok (.bl i, g1) => (match g1[i]? with
    | some (.ml _ _) => (match e g1 with
      | .ok (r, g2) => (match rawL g2 [r] with
        | some [.list es] => (match g2[i]? with
          | some (.ml own ds) => if ds.length + es.length ≤ 1000000 then .nx (g2.set i (.ml own (ds ++ es))) else .no
          | _ => .no)
        | _ => .no)
      | .ex e => .ex e
      | .no => .no)
    | _ => .no)
  | .ok _ => .no
  | .ex e => .ex e
  | .no => .no
/-! targets -/
def tgN (j : Nat) : Rv → G → Re G := fun r g => match r with
  | .da d => .ok (g.set j (.da d))
  | .fl ds => .ok (g.set j (.da (.list ds)))
  | .bl i => (match g[i]? with
    | some (.ml true ds) => .ok ((g.set i (.da (.list ds))).set j (.da (.list ds)))
    | _ => .no)
def tgM (j : Nat) : Rv → G → Re G := fun r g => match r with
  | .fl ds => .ok (g.set j (.ml true ds))
  | .bl i => (match g[i]? with
    | some (.ml true ds) => .ok ((g.set i .un).set j (.ml true ds))
    | _ => .no)
  | .da _ => .no
def tgs : List (Rv → G → Re G) → List D → G → Re G
  | [], [], g => .ok g
  | T :: Ts, d :: ds, g => (match T (.da d) g with
    | .ok g1 => tgs Ts ds g1
    | _ => .no)
  | _, _, _ => .no
def tgT (Ts : List (Rv → G → Re G)) : Rv → G → Re G := fun r g => match r with
  | .da (.tuple ds) => tgs Ts ds g
  | _ => .no
/-- x[i] = e -/
def tgS (o i : M Rv) : Rv → G → Re G := fun r g => match rawL g [r] with
  | some [d] => (match o g with
    | .ok (.bl s, g1) => (match i g1 with
      | .ok (.da (.int k), g2) => (match g2[s]? with
        | some (.ml own ds) => (match ixN ds.length k with
          | some j => .ok (g2.set s (.ml own (ds.set j d)))
          | none => .no)
        | _ => .no)
      | _ => .no)
    | _ => .no)
  | _ => .no

section
variable {c : CT} {E : XK}
theorem do_none : Do c E tNoPart oN := fun F ms hs g σ H Q Y h => h none H Y Sm.refl rfl
theorem intInvR {F : Fx} {ms hs : List Addr} {g : G} {σ : L2.St} {H H' : Hp} {v : V} {r : Rv} {i : Int} (h : RvR c F ms g σ hs H H' v r) (e : intOf r = some i) : v = .int i := by
  unfold intOf at e
  split at e
  next => cases e; exact (show Rp c (hid hs H') v (.int _) from h).intInv
  next => cases e
theorem do_some {te : TE} {f : M Rv} (ha : Dn c E te f) : Do c E (tPart te) (oS f) := by
  intro F ms hs g σ H Q Y h
  unfold oS at h
  refine ha F ms hs g σ H _ Y ?_
  cases e1 : f g with
  | no => rw [e1] at h; exact h
  | ex _ => rw [e1] at h; exact h
  | ok p =>
    obtain ⟨x1, g1⟩ := p
    simp only [e1, Re.ok_bind] at h
    intro v1 H1 Y1 S1 o1
    cases q3 : intOf x1 with
    | none => rw [q3] at h; exact False.elim h
    | some i =>
      simp only [q3, ofO_some, Re.ok_bind, Re.pure_eq] at h
      exact ⟨i, intInvR o1 q3, h _ H1 Y1 S1 rfl⟩
theorem dn_sl {r : V → Option Int → Option Int → Hp → VK → Prop} {f : D → Option Int → Option Int → Option Rv} {te : TE} {tl th : TO} {fe : M Rv} {fl fh : M (Option Int)} (ho : SlD c r f) (ha : Dn c E te fe) (hl : Do c E tl fl) (hh : Do c E th fh) :
    Dn c E (tSl r te tl th) (slE f fe fl fh) := by
  intro F ms hs g σ H Q Y h
  unfold slE at h
  refine ha F ms hs g σ H _ Y ?_
  cases e1 : fe g with
  | no => rw [e1] at h; exact h
  | ex _ => rw [e1] at h; exact h
  | ok p =>
    obtain ⟨x1, g1⟩ := p
    simp only [e1, Re.ok_bind] at h
    intro v1 H1 Y1 S1 o1
    refine hl F ms hs g1 σ H1 _ Y1 ?_
    cases e2 : fl g1 with
    | no => rw [e2] at h; exact h
    | ex _ => rw [e2] at h; exact h
    | ok p =>
      obtain ⟨l, g2⟩ := p
      simp only [e2, Re.ok_bind] at h
      intro v2 H2 Y2 S2 o2
      cases (show v2 = l from o2)
      refine hh F ms hs g2 σ H2 _ Y2 ?_
      cases e3 : fh g2 with
      | no => rw [e3] at h; exact h
      | ex _ => rw [e3] at h; exact h
      | ok p =>
        obtain ⟨u, g3⟩ := p
        simp only [e3, Re.ok_bind] at h
        intro v3 H3 Y3 S3 o3
        cases (show v3 = u from o3)
        cases q3 : x1.dat g3 with
        | none => rw [q3] at h; exact False.elim h
        | some d =>
          simp only [q3, ofO_some, Re.ok_bind, Re.pure_eq] at h
          refine ho hs H3 v1 d l u Q Y3.tr ((((o1.l Y.tr).same S2.s).same S3.s).q Y3 q3) ?_
          cases q4 : f d l u with
          | none => rw [q4] at h; exact False.elim h
          | some rv =>
            simp only [q4, ofO_some, Re.ok_bind, Re.pure_eq] at h
            exact fin_op Y3 ((S1.trans S2).trans S3) h
theorem cut_whole {ds : List D} {lo hi : Option Int} (h : HT.sIx ds.length 0 lo = 0 ∧ HT.sIx ds.length ds.length hi = ds.length) : cutD ds lo hi = ds := by
  unfold cutD
  rw [h.1, h.2]
  simp
theorem d_sl : SlD c (rSlG c.K) slD := by
  intro hs H x dx lo hi Q tr hx h
  unfold slD at h
  split at h
  next rv e =>
    split at e
    next xs lo hi =>
      cases e
      obtain ⟨a, us, rfl, h1, h2⟩ := hx.tupInv
      refine .inl ⟨a, us, rfl, hidT h1, fun z => ?_, fun _ p hp => h _ _ (same_new hp) (rp_newtup tr hp (h2.cut _ _))⟩
      rw [h2.length] at z
      exact h _ H (Same.refl _) (rvda (by rw [cut_whole z]; exact hx.tupRp))
    next xs lo hi =>
      cases e
      obtain ⟨a, us, rfl, h1, h2⟩ := hx.lstInv
      exact .inr ⟨a, us, rfl, .inl h1, fun p hp => h _ _ (same_new hp) (rv_newlst tr hp (h2.cut _ _))⟩
    next => cases e
  next => exact h.elim

/-! ### statements -/
def RvT (c : CT) (F : Fx) (hs : List Addr) (H : Hp) (v : V) : Rv → Prop
  | .da d => Rp c (hid hs H) v d
  | .fl ds => ∃ a vs, v = .ref a ∧ F.H0 a = none ∧ H a = some (.lst vs) ∧ RpL c (hid (a :: hs) H) vs ds
  | .bl _ => False
def SPost (c : CT) (E : XK) (F : Fx) (hs : List Addr) (H : Hp) (D : Ends) : SR → Prop
  | .nx g => ∀ ms' hs' σ' H', Rel c F ms' hs' g σ' H' → Same (hid hs H) (hid hs' H') → D.nx σ' H'
  | .bk g => ∀ ms' hs' σ' H', Rel c F ms' hs' g σ' H' → Same (hid hs H) (hid hs' H') → D.bk σ' H'
  | .ct g => ∀ ms' hs' σ' H', Rel c F ms' hs' g σ' H' → Same (hid hs H) (hid hs' H') → D.ct σ' H'
  | .rt r g => ∀ ms' hs' σ' v H', Rel c F ms' hs' g σ' H' → Same (hid hs H) (hid hs' H') → RvT c F hs' H' v r → D.rt v H'
  | .ex e => ∀ u H', c.mg e = some u → (∀ b o, F.H0 b = some o → b ∉ F.ps → H' b = some o) → E u none H'
  | .no => False
def Sn (c : CT) (E : XK) (t : TS) (f : G → SR) : Prop :=
  ∀ (F : Fx) (ms hs : List Addr) (g : G) (σ : L2.St) (H : Hp) (D : Ends), Rel c F ms hs g σ H → SPost c E F hs H D (f g) → t D σ H
theorem SPost.of {F : Fx} {hs hs' : List Addr} {H H' : Hp} {D : Ends} {r : SR} (e : Same (hid hs H) (hid hs' H')) (h : SPost c E F hs H D r) : SPost c E F hs' H' D r := by
  cases r with
  | nx g => exact fun m a b d Y S => h m a b d Y (e.trans S)
  | bk g => exact fun m a b d Y S => h m a b d Y (e.trans S)
  | ct g => exact fun m a b d Y S => h m a b d Y (e.trans S)
  | rt r g => exact fun m a b v d Y S o => h m a b v d Y (e.trans S) o
  | ex e => exact h
  | no => exact h
theorem sn_next : Sn c E tNext nextS := fun F ms hs g σ H D Y h => h ms hs σ H Y (Same.refl _)
theorem sn_cont : Sn c E tCont contS := fun F ms hs g σ H D Y h => h ms hs σ H Y (Same.refl _)
theorem sn_break : Sn c E tBreak breakS := fun F ms hs g σ H D Y h => h ms hs σ H Y (Same.refl _)
theorem sn_never {t : TS} : Sn c E t neverS := fun F ms hs g σ H D Y h => h.elim
theorem sn_seq {t u : TS} {f k : G → SR} (h1 : Sn c E t f) (h2 : Sn c E u k) : Sn c E (tSeq t u) (seqS f k) := by
  intro F ms hs g σ H D Y h
  refine h1 F ms hs g σ H _ Y ?_
  unfold seqS at h
  cases e : f g with
  | nx g1 =>
    rw [e] at h
    intro ms' hs' σ' H' Y' S'
    exact h2 F ms' hs' g1 σ' H' D Y' (SPost.of S' h)
  | bk g1 => rw [e] at h; exact h
  | ct g1 => rw [e] at h; exact h
  | rt r g1 => rw [e] at h; exact h
  | ex c => rw [e] at h; exact h
  | no => rw [e] at h; exact h
theorem sn_if {tt : TT} {t u : TS} {ft : M Bool} {f k : G → SR} (ht : Dt c E tt ft) (h1 : Sn c E t f) (h2 : Sn c E u k) : Sn c E (tIfS tt t u) (ifS ft f k) := by
  intro F ms hs g σ H D Y h
  unfold ifS at h
  refine ht F ms hs g σ H _ Y ?_
  cases e1 : ft g with
  | no => rw [e1] at h; exact h
  | ex _ => rw [e1] at h; exact h
  | ok p =>
    obtain ⟨x, g1⟩ := p
    rw [e1] at h
    intro v1 H1 Y1 S1 o1
    cases (show v1 = x from o1)
    cases x with
    | true => exact h1 F ms hs g1 σ H1 D Y1 (SPost.of S1.s h)
    | false => exact h2 F ms hs g1 σ H1 D Y1 (SPost.of S1.s h)
theorem sn_ret {te : TE} {fe : M Rv} (he : Dn c E te fe) : Sn c E (tRet te) (retS fe) := by
  intro F ms hs g σ H D Y h
  unfold retS at h
  refine he F ms hs g σ H _ Y ?_
  cases e1 : fe g with
  | no => rw [e1] at h; exact h
  | ex _ => rw [e1] at h; exact h
  | ok p =>
    obtain ⟨x, g1⟩ := p
    rw [e1] at h
    intro v1 H1 Y1 S1 o1
    cases x with
    | da d => exact h ms hs σ v1 H1 Y1 S1.s o1
    | fl ds =>
      obtain ⟨a, vs, rfl, n, q1, q2, _⟩ := o1
      exact h ms hs σ _ H1 Y1 S1.s ⟨a, vs, rfl, Y.fresh0 n, q1, q2⟩
    | bl i =>
      dsimp only at h
      split at h
      next ds hi =>
        obtain ⟨a, vs, e2, m, o2, o3, ha, rr⟩ := Y1.sl i _ hi
        have o1' : σ[i]? = some (some v1) := o1
        rw [o1'] at e2
        cases e2
        refine h ms hs σ _ H1 Y1 S1.s ⟨a, vs, rfl, o2 rfl, ha, rr.same fun b o q => ?_⟩
        rw [hid_out (show b ∉ a :: hs from fun z => (List.mem_cons.mp z).elim (fun z => by subst z; rw [hid_in (Y1.mh _ m)] at q; cases q) fun z => by rw [hid_in z] at q; cases q)]
        exact hid_le _ _ q
      next => exact h.elim
theorem sn_retN : Sn c E tRetN retN := fun F ms hs g σ H D Y h => h ms hs σ .non H Y (Same.refl _) .non
theorem sn_drop {te : TE} {fe : M Rv} (he : Dn c E te fe) : Sn c E (tDrop te) (dropS fe) := by
  intro F ms hs g σ H D Y h
  unfold dropS at h
  refine he F ms hs g σ H _ Y ?_
  cases e1 : fe g with
  | no => rw [e1] at h; exact h
  | ex _ => rw [e1] at h; exact h
  | ok p =>
    obtain ⟨x, g1⟩ := p
    rw [e1] at h
    intro v1 H1 Y1 S1 o1
    exact h ms hs σ H1 Y1 S1.s
/-- raise of an own class that has no __init__ of its own -/
theorem sn_raise {C : Addr} {e : Str} (hm : c.mg e = some (.ref C)) {t : TS} (ht : ∀ D σ H, E (.ref C) none H → t D σ H) : Sn c E t (raiseS e) := fun F ms hs g σ H D Y h =>
  ht D σ H (h (.ref C) H hm Y.fr)

/-! ### slots changed -/
theorem Rel.setDa {F : Fx} {ms hs : List Addr} {g : G} {σ : L2.St} {H : Hp} {v : V} {d : D} (Y : Rel c F ms hs g σ H) (r : Rp c (hid hs H) v d) (j : Nat) : Rel c F ms hs (g.set j (.da d)) (σ.set j (some v)) H := by
  refine ⟨by rw [List.length_set, List.length_set]; exact Y.len, fun i γ hi => ?_, fun i k oi di ok dk a h1 h2 e1 e2 => ?_, Y.fr, Y.tr, Y.sub, Y.pc, Y.oc, Y.mh, Y.tab⟩
  · by_cases e : j = i
    · subst e
      have hl : j < g.length := by
        have := (List.getElem?_eq_some_iff.mp hi).1
        rwa [List.length_set] at this
      rw [List.getElem?_set_self hl] at hi
      cases hi
      exact ⟨v, List.getElem?_set_self (by rw [← Y.len]; exact hl), r⟩
    · rw [List.getElem?_set_ne e] at hi
      rw [List.getElem?_set_ne e]
      exact Y.sl i γ hi
  · have back : ∀ {i : Nat} {oi : Bool} {di : List PyData}, (g.set j (.da d))[i]? = some (.ml oi di) → i ≠ j := fun {i oi di} h z => by
      subst z
      have hl : i < g.length := by
        have := (List.getElem?_eq_some_iff.mp h).1
        rwa [List.length_set] at this
      rw [List.getElem?_set_self hl] at h
      cases h
    have n1 := back h1
    have n2 := back h2
    rw [List.getElem?_set_ne (Ne.symm n1)] at h1 e1
    rw [List.getElem?_set_ne (Ne.symm n2)] at h2 e2
    exact Y.dis i k oi di ok dk a h1 h2 e1 e2
theorem Rel.setUn {F : Fx} {ms hs : List Addr} {g : G} {σ : L2.St} {H : Hp} (Y : Rel c F ms hs g σ H) (j : Nat) : Rel c F ms hs (g.set j .un) σ H := by
  refine ⟨by rw [List.length_set]; exact Y.len, fun i γ hi => ?_, fun i k oi di ok dk a h1 h2 e1 e2 => ?_, Y.fr, Y.tr, Y.sub, Y.pc, Y.oc, Y.mh, Y.tab⟩
  · by_cases e : j = i
    · subst e
      have hl : j < g.length := by
        have := (List.getElem?_eq_some_iff.mp hi).1
        rwa [List.length_set] at this
      rw [List.getElem?_set_self hl] at hi
      cases hi
      exact True.intro
    · rw [List.getElem?_set_ne e] at hi
      exact Y.sl i γ hi
  · have back : ∀ {i : Nat} {oi : Bool} {di : List PyData}, (g.set j .un)[i]? = some (.ml oi di) → i ≠ j := fun {i oi di} h z => by
      subst z
      have hl : i < g.length := by
        have := (List.getElem?_eq_some_iff.mp h).1
        rwa [List.length_set] at this
      rw [List.getElem?_set_self hl] at h
      cases h
    have n1 := back h1
    have n2 := back h2
    rw [List.getElem?_set_ne (Ne.symm n1)] at h1
    rw [List.getElem?_set_ne (Ne.symm n2)] at h2
    exact Y.dis i k oi di ok dk a h1 h2 e1 e2
/-- the slot's value is replaced by anything where nothing is known of the slot -/
theorem Rel.setAny {F : Fx} {ms hs : List Addr} {g : G} {σ : L2.St} {H : Hp} {j : Nat} {x : Option V} (Y : Rel c F ms hs g σ H) (hj : ∀ γ, g[j]? = some γ → γ = .un) : Rel c F ms hs g (σ.set j x) H := by
  have ne : ∀ {i : Nat} {γ : Sl}, g[i]? = some γ → γ ≠ .un → j ≠ i := fun {i γ} h n z => by subst z; exact n (hj _ h)
  refine ⟨by rw [List.length_set]; exact Y.len, fun i γ hi => ?_, fun i k oi di ok dk a h1 h2 e1 e2 => ?_, Y.fr, Y.tr, Y.sub, Y.pc, Y.oc, Y.mh, Y.tab⟩
  · cases γ with
    | un => exact True.intro
    | da d => rw [List.getElem?_set_ne (ne hi (by simp))]; exact Y.sl i _ hi
    | ml o d => rw [List.getElem?_set_ne (ne hi (by simp))]; exact Y.sl i _ hi
  · rw [List.getElem?_set_ne (ne h1 (by simp))] at e1
    rw [List.getElem?_set_ne (ne h2 (by simp))] at e2
    exact Y.dis i k oi di ok dk a h1 h2 e1 e2
theorem SlOk.moreMs {F : Fx} {ms ms' hs : List Addr} {H : Hp} {s : Option (Option V)} {γ : Sl} (m : ∀ b ∈ ms, b ∈ ms') (h : SlOk c F ms hs H s γ) : SlOk c F ms' hs H s γ := by
  cases γ with
  | un => exact True.intro
  | da d => exact h
  | ml o d => obtain ⟨a, vs, e1, m1, r⟩ := h; exact ⟨a, vs, e1, m a m1, r⟩
theorem Rel.setMl {F : Fx} {ms hs : List Addr} {g : G} {σ : L2.St} {H : Hp} {a : Addr} {vs : List V} {ds : List D} (Y : Rel c F ms (a :: hs) g σ H) (na : a ∉ ms) (h0 : F.H0 a = none) (ha : H a = some (.lst vs)) (r : RpL c (hid (a :: hs) H) vs ds) (j : Nat) :
    Rel c F (a :: ms) (a :: hs) (g.set j (.ml true ds)) (σ.set j (some (.ref a))) H := by
  have nadr : ∀ {i : Nat} {oi : Bool} {di : List PyData}, g[i]? = some (.ml oi di) → σ[i]? ≠ some (some (.ref a)) := fun {i oi di} h z => by
    obtain ⟨b, ws, e1, m, _⟩ := Y.sl i _ h
    rw [z] at e1
    cases e1
    exact na m
  have at_j : ∀ {γ : Sl}, (g.set j (.ml true ds))[j]? = some γ → γ = .ml true ds ∧ j < g.length := fun {γ} h => by
    have hl : j < g.length := by
      have := (List.getElem?_eq_some_iff.mp h).1
      rwa [List.length_set] at this
    rw [List.getElem?_set_self hl] at h
    cases h
    exact ⟨rfl, hl⟩
  refine ⟨by rw [List.length_set, List.length_set]; exact Y.len, fun i γ hi => ?_, fun i k oi di ok dk b h1 h2 e1 e2 => ?_, Y.fr, Y.tr, Y.sub, Y.pc, Y.oc, fun b hb => ?_, fun p hp => ⟨⟨List.mem_cons_of_mem _ (Y.tab p hp).1.1, (Y.tab p hp).1.2⟩, (Y.tab p hp).2⟩⟩
  · by_cases e : j = i
    · subst e
      obtain ⟨rfl, hl⟩ := at_j hi
      exact ⟨a, vs, List.getElem?_set_self (by rw [← Y.len]; exact hl), List.mem_cons_self, fun _ => h0, (fun z => nomatch z), ha, r⟩
    · rw [List.getElem?_set_ne e] at hi
      rw [List.getElem?_set_ne e]
      exact (Y.sl i γ hi).moreMs fun b hb => List.mem_cons_of_mem _ hb
  · by_cases e : j = i
    · by_cases e' : j = k
      · exact e.symm.trans e'
      · subst e
        obtain ⟨_, hl⟩ := at_j h1
        rw [List.getElem?_set_self (by rw [← Y.len]; exact hl)] at e1
        cases e1
        rw [List.getElem?_set_ne e'] at h2 e2
        exact absurd e2 (nadr h2)
    · by_cases e' : j = k
      · subst e'
        obtain ⟨_, hl⟩ := at_j h2
        rw [List.getElem?_set_self (by rw [← Y.len]; exact hl)] at e2
        cases e2
        rw [List.getElem?_set_ne e] at h1 e1
        exact absurd e1 (nadr h1)
      · rw [List.getElem?_set_ne e] at h1 e1
        rw [List.getElem?_set_ne e'] at h2 e2
        exact Y.dis i k oi di ok dk b h1 h2 e1 e2
  · rcases List.mem_cons.mp hb with rfl | hb
    · exact List.mem_cons_self
    · exact Y.mh b hb
/-- a list of one's own is no longer changed -/
theorem Rel.freeze {F : Fx} {ms hs : List Addr} {g : G} {σ : L2.St} {H : Hp} {i : Nat} {ds : List D} {a : Addr} (Y : Rel c F ms hs g σ H) (hi : g[i]? = some (.ml true ds)) (ha : σ[i]? = some (some (.ref a))) :
    Rel c F (ms.filter fun b => decide (b ≠ a)) (hs.filter fun b => decide (b ≠ a)) (g.set i (.da (.list ds))) σ H ∧ Same (hid hs H) (hid (hs.filter fun b => decide (b ≠ a)) H) ∧ Rp c (hid (hs.filter fun b => decide (b ≠ a)) H) (.ref a) (.list ds) := by
  obtain ⟨a', vs, e1, m, o1, _, h1, rr⟩ := Y.sl i _ hi
  rw [ha] at e1
  cases e1
  have sm : Same (hid hs H) (hid (hs.filter fun b => decide (b ≠ a)) H) := hid_sub fun b hb => (List.mem_filter.mp hb).1
  have na : a ∉ hs.filter fun b => decide (b ≠ a) := fun z => by
    have := (List.mem_filter.mp z).2
    simp at this
  have rp : Rp c (hid (hs.filter fun b => decide (b ≠ a)) H) (.ref a) (.list ds) := .lst (.inl (by rw [hid_out na]; exact h1)) (rr.same sm)
  have hl := (List.getElem?_eq_some_iff.mp hi).1
  refine ⟨⟨by rw [List.length_set]; exact Y.len, fun k γ hk => ?_, fun k l ok dk ol dl b h1 h2 e1 e2 => ?_, Y.fr, fun b hb => Y.tr b (List.mem_filter.mp hb).1, fun b hb => List.mem_filter.mpr ⟨Y.sub b hb, ?_⟩, Y.pc, Y.oc, fun b hb => List.mem_filter.mpr ⟨Y.mh b (List.mem_filter.mp hb).1, (List.mem_filter.mp hb).2⟩, fun p hp => ⟨⟨List.mem_filter.mpr ⟨(Y.tab p hp).1.1, ?_⟩, (Y.tab p hp).1.2⟩, (Y.tab p hp).2⟩⟩, sm, rp⟩
  · by_cases e : i = k
    · subst e
      rw [List.getElem?_set_self hl] at hk
      cases hk
      exact ⟨_, ha, rp⟩
    · rw [List.getElem?_set_ne e] at hk
      have q := Y.sl k γ hk
      cases γ with
      | un => exact True.intro
      | da d => obtain ⟨v, e1, r⟩ := q; exact ⟨v, e1, r.same sm⟩
      | ml ok dk =>
        obtain ⟨b, ws, e1, m', p1, p2, hb, x⟩ := q
        have hne : b ≠ a := fun z => e (Y.dis i k true ds ok dk a hi hk ha (z ▸ e1))
        exact ⟨b, ws, e1, List.mem_filter.mpr ⟨m', by simpa using hne⟩, p1, p2, hb, x.same sm⟩
  · have back : ∀ {k : Nat} {ok : Bool} {dk : List PyData}, (g.set i (.da (.list ds)))[k]? = some (.ml ok dk) → g[k]? = some (.ml ok dk) := fun {k ok dk} h => by
      by_cases e : i = k
      · subst e
        rw [List.getElem?_set_self hl] at h
        cases h
      · rwa [List.getElem?_set_ne e] at h
    exact Y.dis k l ok dk ol dl b (back h1) (back h2) e1 e2
  · have : b ≠ a := fun z => by subst z; exact Y.oc b hb (o1 rfl)
    simpa using this
  · have : p.1 ≠ a := fun z => by
      obtain ⟨ps, z1, _⟩ := (Y.tab p hp).2
      rw [z, h1] at z1
      cases z1
    simpa using this
theorem sn_frz {t : TS} {f : G → SR} (i : Nat) (h1 : Sn c E t f) : Sn c E t (fun g => f (frzS i g)) := by
  intro F ms hs g σ H D Y h
  dsimp only at h
  unfold frzS at h
  split at h
  next ds hi =>
    obtain ⟨a, vs, e1, _⟩ := Y.sl i _ hi
    obtain ⟨Y1, S1, _⟩ := Y.freeze hi e1
    exact h1 F _ _ _ σ H D Y1 (SPost.of S1 h)
  next => exact h1 F ms hs g σ H D Y h

/-- a list of one's own goes to another slot -/
theorem Rel.move {F : Fx} {ms hs : List Addr} {g : G} {σ : L2.St} {H : Hp} {i : Nat} {ds : List D} {a : Addr} (Y : Rel c F ms hs g σ H) (hi : g[i]? = some (.ml true ds)) (ha : σ[i]? = some (some (.ref a))) (j : Nat) :
    Rel c F ms hs ((g.set i .un).set j (.ml true ds)) (σ.set j (some (.ref a))) H := by
  obtain ⟨a', vs, e1, m, o1, _, h1, rr⟩ := Y.sl i _ hi
  rw [ha] at e1
  cases e1
  have Y1 := Y.setUn i
  have nadr : ∀ {k : Nat} {ok : Bool} {dk : List PyData}, (g.set i .un)[k]? = some (.ml ok dk) → σ[k]? ≠ some (some (.ref a)) := fun {k ok dk} h z => by
    by_cases e : i = k
    · subst e
      rw [List.getElem?_set_self (List.getElem?_eq_some_iff.mp hi).1] at h
      cases h
    · rw [List.getElem?_set_ne e] at h
      exact e (Y.dis i k true ds ok dk a hi h ha z)
  have at_j : ∀ {γ : Sl}, ((g.set i .un).set j (.ml true ds))[j]? = some γ → γ = .ml true ds ∧ j < (g.set i .un).length := fun {γ} h => by
    have hl : j < (g.set i .un).length := by
      have := (List.getElem?_eq_some_iff.mp h).1
      rwa [List.length_set] at this
    rw [List.getElem?_set_self hl] at h
    cases h
    exact ⟨rfl, hl⟩
  refine ⟨by simp only [List.length_set]; exact Y.len, fun k γ hk => ?_, fun k l ok dk ol dl b h1 h2 e1 e2 => ?_, Y.fr, Y.tr, Y.sub, Y.pc, Y.oc, Y.mh, Y.tab⟩
  · by_cases e : j = k
    · subst e
      obtain ⟨rfl, hl⟩ := at_j hk
      exact ⟨a, vs, List.getElem?_set_self (by rw [← Y1.len]; exact hl), m, o1, (fun z => nomatch z), h1, rr⟩
    · rw [List.getElem?_set_ne e] at hk
      rw [List.getElem?_set_ne e]
      exact Y1.sl k γ hk
  · by_cases e : j = k
    · by_cases e' : j = l
      · exact e.symm.trans e'
      · subst e
        obtain ⟨_, hl⟩ := at_j h1
        rw [List.getElem?_set_self (by rw [← Y1.len]; exact hl)] at e1
        cases e1
        rw [List.getElem?_set_ne e'] at h2 e2
        exact absurd e2 (nadr h2)
    · by_cases e' : j = l
      · subst e'
        obtain ⟨_, hl⟩ := at_j h2
        rw [List.getElem?_set_self (by rw [← Y1.len]; exact hl)] at e2
        cases e2
        rw [List.getElem?_set_ne e] at h1 e1
        exact absurd e1 (nadr h1)
      · rw [List.getElem?_set_ne e] at h1 e1
        rw [List.getElem?_set_ne e'] at h2 e2
        exact Y1.dis k l ok dk ol dl b h1 h2 e1 e2

/-! ### targets -/
def Dg (c : CT) (t : TG) (T : Rv → G → Re G) : Prop :=
  ∀ (F : Fx) (ms hs : List Addr) (g0 g : G) (σ : L2.St) (Hs H : Hp) (v : V) (r : Rv) (Q : L2.St → Hp → Prop), Rel c F ms hs g0 σ Hs → Rel c F ms hs g σ H → Same (hid hs Hs) (hid hs H) → RvR c F ms g σ hs Hs H v r →
    (match T r g with
      | .ok g' => ∀ ms' hs' σ' H', Rel c F ms' hs' g' σ' H' → Same (hid hs Hs) (hid hs' H') → Q σ' H'
      | _ => False) → t v σ H Q
def Dgs (c : CT) (t : TGs) (Ts : List (Rv → G → Re G)) : Prop :=
  ∀ (F : Fx) (ms hs : List Addr) (g : G) (σ : L2.St) (H : Hp) (vs : List V) (ds : List D) (Q : L2.St → Hp → Prop), Rel c F ms hs g σ H → RpL c (hid hs H) vs ds →
    (match tgs Ts ds g with
      | .ok g' => ∀ ms' hs' σ' H', Rel c F ms' hs' g' σ' H' → Same (hid hs H) (hid hs' H') → Q σ' H'
      | _ => False) → t vs σ H Q
theorem wipe_get {σ : L2.St} {i : Nat} : ∀ {ws : List Nat}, (wipe σ ws)[i]? = if i ∈ ws ∧ i < σ.length then some none else σ[i]?
  | [] => by simp [wipe]
  | w :: ws => by
    unfold wipe
    by_cases e : w = i
    · subst e
      by_cases hl : w < σ.length
      · rw [List.getElem?_set_self (by rw [wipe_length]; exact hl), if_pos ⟨List.mem_cons_self, hl⟩]
      · rw [List.getElem?_eq_none (by rw [List.length_set, wipe_length]; omega), if_neg (fun z => hl z.2), List.getElem?_eq_none (by omega)]
    · rw [List.getElem?_set_ne e, wipe_get]
      have : (i ∈ w :: ws) ↔ i ∈ ws := by simp [Ne.symm e]
      simp only [this]
theorem wipe_set {σ : L2.St} {j : Nat} {x : Option V} {ws : List Nat} (h : j ∈ ws) : wipe (σ.set j x) ws = wipe σ ws := by
  refine List.ext_getElem? fun i => ?_
  rw [wipe_get, wipe_get, List.length_set]
  by_cases e : j = i
  · subst e
    by_cases hl : j < σ.length
    · rw [if_pos ⟨h, hl⟩, if_pos ⟨h, hl⟩]
    · rw [if_neg (fun z => hl z.2), if_neg (fun z => hl z.2), List.getElem?_eq_none (by rw [List.length_set]; omega), List.getElem?_eq_none (by omega)]
  · rw [List.getElem?_set_ne e]
theorem same_cons {hs : List Addr} {Hs H : Hp} {a : Addr} (n : Hs a = none) (S : Same (hid hs Hs) (hid hs H)) : Same (hid hs Hs) (hid (a :: hs) H) := fun b o q => by
  have q2 := S b o q
  by_cases hb : b ∈ hs
  · rw [hid_in hb] at q; cases q
  · rw [hid_out hb] at q q2
    rw [hid_out (show b ∉ a :: hs from fun z => (List.mem_cons.mp z).elim (fun z => by subst z; rw [n] at q; cases q) hb)]
    exact q2
theorem dg_name {j : Nat} : Dg c (gName j) (tgN j) := by
  intro F ms hs g0 g σ Hs H v r Q Y0 Y S o h
  unfold tgN at h
  cases r with
  | da d => exact h ms hs _ H (Y.setDa o j) S
  | fl ds =>
    obtain ⟨a, vs, rfl, n, h1, h2, _⟩ := o
    have na : a ∉ hs := Y0.fresh n
    exact h ms hs _ H (Y.setDa (.lst (.inl (by rw [hid_out na]; exact h1)) (h2.same (hid_sub fun b hb => List.mem_cons_of_mem _ hb))) j) S
  | bl i =>
    dsimp only at h
    split at h
    next g' e =>
      split at e
      next ds hi =>
        cases e
        obtain ⟨a, vs, e1, _⟩ := Y.sl i _ hi
        obtain ⟨Y1, S1, r1⟩ := Y.freeze hi e1
        have o' : σ[i]? = some (some v) := o
        rw [o'] at e1
        cases e1
        exact h _ _ _ H (Y1.setDa r1 j) (S.trans S1)
      next => cases e
    next => exact h.elim
theorem dg_own {j : Nat} : Dg c (gName j) (tgM j) := by
  intro F ms hs g0 g σ Hs H v r Q Y0 Y S o h
  unfold tgM at h
  cases r with
  | da d => exact h.elim
  | fl ds =>
    obtain ⟨a, vs, rfl, n, h1, h2, Y2⟩ := o
    exact h (a :: ms) (a :: hs) _ H (Rel.setMl Y2 (fun z => Y0.fresh n (Y0.mh a z)) (Y0.fresh0 n) h1 h2 j) (same_cons n S)
  | bl i =>
    dsimp only at h
    split at h
    next g' e =>
      split at e
      next ds hi =>
        cases e
        obtain ⟨a, vs, e1, _⟩ := Y.sl i _ hi
        have o' : σ[i]? = some (some v) := o
        rw [o'] at e1
        cases e1
        exact h _ _ _ H (Y.move hi o' j) S
      next => cases e
    next => exact h.elim
theorem dgs_nil : Dgs c gNil [] := by
  intro F ms hs g σ H vs ds Q Y r h
  cases r with
  | nil => exact ⟨rfl, h ms hs σ H Y (Same.refl _)⟩
  | cons _ _ => exact h.elim
theorem dgs_cons {t : TG} {u : TGs} {T : Rv → G → Re G} {Ts : List (Rv → G → Re G)} (h1 : Dg c t T) (h2 : Dgs c u Ts) : Dgs c (gCons t u) (T :: Ts) := by
  intro F ms hs g σ H vs ds Q Y r h
  cases r with
  | nil => exact h.elim
  | cons r rs =>
    rename_i v vs d ds
    refine ⟨v, vs, rfl, ?_⟩
    unfold tgs at h
    refine h1 F ms hs g g σ H H v (.da d) _ Y Y (Same.refl _) r ?_
    cases e : T (.da d) g with
    | no => rw [e] at h; exact h
    | ex _ => rw [e] at h; exact h
    | ok g1 =>
      rw [e] at h
      intro ms1 hs1 σ1 H1 Y1 S1
      refine h2 F ms1 hs1 g1 σ1 H1 vs ds Q Y1 (rs.same S1) ?_
      dsimp only at h
      cases e2 : tgs Ts ds g1 with
      | no => rw [e2] at h; exact h
      | ex _ => rw [e2] at h; exact h
      | ok g2 =>
        rw [e2] at h
        exact fun ms2 hs2 σ2 H2 Y2 S2 => h ms2 hs2 σ2 H2 Y2 (S1.trans S2)
theorem tgs_length : ∀ {Ts : List (Rv → G → Re G)} {ds : List D} {g g' : G}, tgs Ts ds g = .ok g' → ds.length = Ts.length
  | [], [], _, _, _ => rfl
  | T :: Ts, d :: ds, g, g', h => by
    unfold tgs at h
    split at h
    next g1 e => rw [List.length_cons, List.length_cons, tgs_length h]
    next => cases h
  | [], _ :: _, _, _, h => by simp [tgs] at h
  | _ :: _, [], _, _, h => by simp [tgs] at h
theorem dg_tup {n : Nat} {u : TGs} {Ts : List (Rv → G → Re G)} (hn : Ts.length = n) (h2 : Dgs c u Ts) : Dg c (gTup c.K n u) (tgT Ts) := by
  intro F ms hs g0 g σ Hs H v r Q Y0 Y S o h
  unfold tgT at h
  split at h
  next g' e =>
    split at e
    next ds =>
      obtain ⟨a, xs, rfl, q1, q2⟩ := (show Rp c (hid hs H) v (.tuple ds) from o).tupInv
      refine ⟨a, xs, rfl, same_t hid_le q1, by rw [q2.length, tgs_length e, hn], ?_⟩
      refine h2 F ms hs g σ H xs ds Q Y q2 ?_
      rw [e]
      exact fun ms2 hs2 σ2 H2 Y2 S2 => h ms2 hs2 σ2 H2 Y2 (S.trans S2)
    next => cases e
  next => exact h.elim
theorem dg_sub {to ti : TE} {fo fi : M Rv} (ho : Dn c E0 to fo) (hi : Dn c E0 ti fi) : Dg c (gSub to ti rSetL) (tgS fo fi) := by
  intro F ms hs g0 g σ Hs H v r Q Y0 Y S o h
  unfold tgS at h
  split at h
  next g' e =>
    split at e
    next d hd =>
      refine ho F ms hs g σ H _ Y ?_
      cases e1 : fo g with
      | no => rw [e1] at e; cases e
      | ex _ => rw [e1] at e; cases e
      | ok p =>
        obtain ⟨x1, g1⟩ := p
        rw [e1] at e
        cases x1 with
        | da _ => cases e
        | fl _ => cases e
        | bl s =>
          dsimp only at e
          intro v1 H1 Y1 S1 o1
          refine hi F ms hs g1 σ H1 _ Y1 ?_
          cases e2 : fi g1 with
          | no => rw [e2] at e; cases e
          | ex _ => rw [e2] at e; cases e
          | ok p =>
            obtain ⟨x2, g2⟩ := p
            rw [e2] at e
            intro v2 H2 Y2 S2 o2
            cases x2 with
            | fl _ => cases e
            | bl _ => cases e
            | da dk =>
              cases dk with
              | int k =>
                dsimp only at e
                split at e
                next own ds hs2 =>
                  split at e
                  next j hj =>
                    cases e
                    obtain ⟨a, vs, q1, m, q2, q3, ha, rr⟩ := Y2.sl s _ hs2
                    have o1' : σ[s]? = some (some v1) := o1
                    rw [o1'] at q1
                    cases q1
                    have rp : Rp c (hid hs H2) v d := by
                      have := RvLs.raw (g := g) (RvLs.cons ((o.l Y0.tr).same (S1.trans S2).s) .nil) hd
                      cases this with | cons h _ => exact h
                    refine ⟨a, vs, k, j, rfl, (show Rp c (hid hs H2) v2 (.int k) from o2).intInv, ha, by rw [rr.length]; exact hj, ?_⟩
                    refine h ms hs σ _ (Y2.write hs2 o1' (rr.set rp j)) ?_
                    rw [hid_upd (Y2.mh _ m)]
                    exact (S.trans S1.s).trans S2.s
                  next => cases e
                next => cases e
              | _ => cases e
    next => cases e
  next => exact h.elim
/-! ### assignments, changes -/
theorem sn_asg {te : TE} {gt : TG} {fe : M Rv} {T : Rv → G → Re G} (he : Dn c E te fe) (hg : Dg c gt T) : Sn c E (tAsg te gt) (asgS fe T) := by
  intro F ms hs g σ H D Y h
  unfold asgS at h
  refine he F ms hs g σ H _ Y ?_
  cases e1 : fe g with
  | no => rw [e1] at h; exact h
  | ex _ => rw [e1] at h; exact h
  | ok p =>
    obtain ⟨x, g1⟩ := p
    rw [e1] at h
    intro v1 H1 Y1 S1 o1
    refine hg F ms hs g g1 σ H H1 v1 x _ Y Y1 S1.s o1 ?_
    dsimp only at h
    cases e2 : T x g1 with
    | no => rw [e2] at h; exact h
    | ex _ => rw [e2] at h; exact h
    | ok g2 =>
      rw [e2] at h
      exact fun ms2 hs2 σ2 H2 Y2 S2 => h ms2 hs2 σ2 H2 Y2 S2
theorem sn_par {i j : Nat} {ta : TA} {fa : M (List Rv)} (ha : Da c E ta fa) : Sn c E (tPar i j ta) (parS i j fa) := by
  intro F ms hs g σ H D Y h
  unfold parS at h
  refine ha F ms hs g σ H _ Y ?_
  cases e1 : fa g with
  | no => rw [e1] at h; exact h
  | ex _ => rw [e1] at h; exact h
  | ok p =>
    obtain ⟨rs, g1⟩ := p
    rw [e1] at h
    intro v1 H1 Y1 S1 o1
    match rs, o1, h with
    | [r1, r2], .cons (v := v) q1 (.cons (v := w) q2 .nil), h =>
      dsimp only at h
      cases e2 : rawL g1 [r1, r2] with
      | none => rw [e2] at h; exact h.elim
      | some ds =>
        rw [e2] at h
        have rr := RvLs.raw (g := g1) (RvLs.cons q1 (RvLs.cons q2 .nil)) e2
        match ds, rr, h with
        | [d1, d2], .cons p1 (.cons p2 .nil), h =>
          exact ⟨v, w, rfl, h ms hs _ H1 ((Y1.setDa p1 i).setDa p2 j) S1.s⟩
    | [], _, h => exact h.elim
    | [_], _, h => exact h.elim
    | _ :: _ :: _ :: _, _, h => exact h.elim
theorem sn_app {to te : TE} {fo fe : M Rv} (ho : Dn c E to fo) (he : Dn c E te fe) : Sn c E (tDrop (tBM c.K "list" rAppend to (tCons te tNil))) (appS fo fe) := by
  intro F ms hs g σ H D Y h
  unfold appS at h
  refine ho F ms hs g σ H _ Y ?_
  cases e1 : fo g with
  | no => rw [e1] at h; exact h
  | ex _ => rw [e1] at h; exact h
  | ok p =>
    obtain ⟨x1, g1⟩ := p
    rw [e1] at h
    cases x1 with
    | da _ => exact h.elim
    | fl _ => exact h.elim
    | bl s =>
      dsimp only at h
      intro v1 H1 Y1 S1 o1
      have o1' : σ[s]? = some (some v1) := o1
      split at h
      next own1 ds1 hs1 =>
        obtain ⟨a, vs, q1, m, _, _, ha, _⟩ := Y1.sl s _ hs1
        rw [o1'] at q1
        cases q1
        refine ⟨.inl ⟨rfl, vs, .inl (.inl ha)⟩, ?_⟩
        refine he F ms hs g1 σ H1 _ Y1 ?_
        cases e2 : fe g1 with
        | no => rw [e2] at h; exact h
        | ex _ => rw [e2] at h; exact h
        | ok p =>
          obtain ⟨r, g2⟩ := p
          rw [e2] at h
          dsimp only at h
          intro v2 H2 Y2 S2 o2
          split at h
          next d hd =>
            split at h
            next own ds hs2 =>
              split at h
              next hz =>
                obtain ⟨a', ws, q1, m, _, _, ha, rr⟩ := Y2.sl s _ hs2
                rw [o1'] at q1
                cases q1
                have rp : RpL c (hid hs H2) [v2] [d] := RvLs.raw (g := g2) (RvLs.cons (o2.l Y1.tr) .nil) hd
                refine ⟨a, ws, v2, rfl, rfl, ha, by rw [rr.length]; exact sz_lt hz, ?_⟩
                refine h ms hs σ _ (Y2.write hs2 o1' (rr.append rp)) ?_
                rw [hid_upd (Y2.mh _ m)]
                exact (S1.trans S2).s
              next => exact h.elim
            next => exact h.elim
          next => exact h.elim
      next => exact h.elim
end
/-- xs.extend(ys), ys a list that may be locked -/
def rExtL : V → List V → Hp → VK → Prop := fun x vs H Q => ∃ l b xs zs, x = .ref l ∧ vs = [.ref b] ∧ H l = some (.lst xs) ∧ Rd H b (.lst zs) ∧ xs.length + zs.length ≤ sizeLine ∧ Q .non (upd H l (.lst (xs ++ zs)))
theorem mt_extL {X : Cx} : MtM X "list.extend" rExtL := by
  intro pins s σ H x vs v us Q I rx rv h
  obtain ⟨l, b, xs, zs, rfl, rfl, hH, hB, hz, q⟩ := h
  cases rx
  obtain ⟨u, rfl, ru⟩ := rv.one
  cases ru
  obtain ⟨z, its, n, r, hl, e⟩ := I.lstM hH
  obtain ⟨z2, its2, n2, r2, hl2, e2⟩ := rdL I hB
  have hsz : its.toArray.size + its2.toArray.size ≤ sizeLine := by rw [List.size_toArray, List.size_toArray]; omega
  have hlong : ¬ (!its.toArray.isEmpty && Builtin.List.listTooLong (its.toArray.size + its2.toArray.size)) = true := by
    rw [notLongL hsz, Bool.and_false]
    exact Bool.false_ne_true
  refine call_meets F.slot_list_extend ⟨_, e, rfl⟩ F.entry_list_extend (F.args_list_extend_2 _ _)
    (AutoSeq1.list_extend_list_list_0 l its.toArray n b its2.toArray n2 hlong (by rw [List.size_toArray]; omega) (by omega)) ⟨e, e2, ?_⟩
  refine ⟨.non, _, I.lset (its' := its ++ its2) hH e (by simp) (r.append r2) ?_, rfl, q⟩
  rw [List.length_append]
  omega
section
variable {c : CT} {E : XK}
theorem sn_ext {to te : TE} {fo fe : M Rv} (ho : Dn c E to fo) (he : Dn c E te fe) : Sn c E (tDrop (tBM c.K "list" rExtL to (tCons te tNil))) (extS fo fe) := by
  intro F ms hs g σ H D Y h
  unfold extS at h
  refine ho F ms hs g σ H _ Y ?_
  cases e1 : fo g with
  | no => rw [e1] at h; exact h
  | ex _ => rw [e1] at h; exact h
  | ok p =>
    obtain ⟨x1, g1⟩ := p
    rw [e1] at h
    cases x1 with
    | da _ => exact h.elim
    | fl _ => exact h.elim
    | bl s =>
      dsimp only at h
      intro v1 H1 Y1 S1 o1
      have o1' : σ[s]? = some (some v1) := o1
      split at h
      next own1 ds1 hs1 =>
        obtain ⟨a, vs, q1, m, _, _, ha, _⟩ := Y1.sl s _ hs1
        rw [o1'] at q1
        cases q1
        refine ⟨.inl ⟨rfl, vs, .inl (.inl ha)⟩, ?_⟩
        refine he F ms hs g1 σ H1 _ Y1 ?_
        cases e2 : fe g1 with
        | no => rw [e2] at h; exact h
        | ex _ => rw [e2] at h; exact h
        | ok p =>
          obtain ⟨r, g2⟩ := p
          rw [e2] at h
          dsimp only at h
          intro v2 H2 Y2 S2 o2
          split at h
          next es hd =>
            split at h
            next own ds hs2 =>
              split at h
              next hz =>
                obtain ⟨a', ws, q1, m, _, _, ha, rr⟩ := Y2.sl s _ hs2
                rw [o1'] at q1
                cases q1
                have rp : RpL c (hid hs H2) [v2] [.list es] := RvLs.raw (g := g2) (RvLs.cons (o2.l Y1.tr) .nil) hd
                obtain ⟨w, e3, rp⟩ := rp.oneInv
                cases e3
                obtain ⟨b, zs, rfl, p1, p2⟩ := rp.lstInv
                refine ⟨a, b, ws, zs, rfl, rfl, ha, hidR p1, by rw [rr.length, p2.length]; exact sz_of hz, ?_⟩
                refine h ms hs σ _ (Y2.write hs2 o1' (rr.append p2)) ?_
                rw [hid_upd (Y2.mh _ m)]
                exact (S1.trans S2).s
              next => exact h.elim
            next => exact h.elim
          next => exact h.elim
      next => exact h.elim
end
end GD

/-! GD7: loops, comprehensions, calls, defs. -/
namespace GD
open PySem PySem.Spec PyProof.Rows L2

def whileD (t : M Bool) (b : G → SR) : Nat → G → SR
  | 0, _ => .no
  | n + 1, g => match t g with
    | .ok (x, g1) => if x = true then (match b g1 with
        | .nx g2 => whileD t b n g2
        | .ct g2 => whileD t b n g2
        | .bk g2 => .nx g2
        | r => r)
      else .nx g1
    | .ex e => .ex e
    | .no => .no
def whileS (fu : G → Nat) (t : M Bool) (b : G → SR) : G → SR := fun g => whileD t b (fu g) g
def forD (T : Rv → G → Re G) (b : G → SR) : List D → G → SR
  | [], g => .nx g
  | d :: ds, g => match T (.da d) g with
    | .ok g1 => (match b g1 with
      | .nx g2 => forD T b ds g2
      | .ct g2 => forD T b ds g2
      | .bk g2 => .nx g2
      | r => r)
    | _ => .no
def forS (it : M (List D)) (T : Rv → G → Re G) (b : G → SR) : G → SR := fun g => match it g with
  | .ok (ds, g1) => forD T b ds g1
  | .ex e => .ex e
  | .no => .no
def wipeG (g : G) : List Nat → G
  | [] => g
  | v :: vs => (wipeG g vs).set v .un
def rawOf : Rv → Option D
  | .da d => some d
  | .fl d => some (.list d)
  | .bl _ => none
@[simp] theorem rawOf_da (d : D) : rawOf (.da d) = some d := rfl
@[simp] theorem rawOf_fl (d : List D) : rawOf (.fl d) = some (.list d) := rfl
/-! targets of comprehensions -/
def cgN (j : Nat) : D → G → Option G := fun d g => some (g.set j (.da d))
def cgs : List (D → G → Option G) → List D → G → Option G
  | [], [], g => some g
  | T :: Ts, d :: ds, g => (T d g).bind (cgs Ts ds)
  | _, _, _ => none
def cgT (Ts : List (D → G → Option G)) : D → G → Option G := fun d g => match d with
  | .tuple ds => cgs Ts ds g
  | _ => none
def compD (T : D → G → Option G) (tt : M Bool) (te : M Rv) (ws : List Nat) : List D → G → Option (List D × G)
  | [], g => some ([], g)
  | d :: ds, g => match T d g with
    | some g1 => (match tt g1 with
      | .ok (b, g2) => if b = true then (match te g2 with
          | .ok (y, g3) => (match rawOf y with
            | some dy => (compD T tt te ws ds (wipeG g3 ws)).map fun p => (dy :: p.1, p.2)
            | none => none)
          | _ => none)
        else compD T tt te ws ds (wipeG g2 ws)
      | _ => none)
    | none => none
def lcE (it : M (List D)) (T : D → G → Option G) (tt : M Bool) (te : M Rv) (ws : List Nat) : M Rv := fun g => do
  let (ds, g1) ← it g
  if ds.length ≤ 1000000 then do
    let p ← ofO (compD T tt te ws ds (wipeG g1 ws))
    pure (.fl p.1, p.2)
  else .no
def yesT : M Bool := fun g => .ok (true, g)

section
variable {c : CT} {E : XK}
theorem sn_while {tc : TT} {tb : TS} {fc : M Bool} {fb : G → SR} (fu : G → Nat) (hc : Dt c E tc fc) (hb : Sn c E tb fb) : Sn c E (tWhile tc tb) (whileS fu fc fb) := by
  intro F ms hs g σ H D Y h
  unfold whileS at h
  refine ⟨fun m σ' H' => ∃ ms' hs' g', Rel c F ms' hs' g' σ' H' ∧ SPost c E F hs' H' D (whileD fc fb m g'), ⟨fu g, ms, hs, g, Y, h⟩, ?_⟩
  rintro m σ' H' ⟨ms', hs', g', Y', h'⟩
  cases m with
  | zero => exact h'.elim
  | succ n =>
    unfold whileD at h'
    refine hc F ms' hs' g' σ' H' _ Y' ?_
    cases e1 : fc g' with
    | no => rw [e1] at h'; exact h'
    | ex _ => rw [e1] at h'; exact h'
    | ok p =>
      obtain ⟨x, g1⟩ := p
      rw [e1] at h'
      intro v1 H1 Y1 S1 o1
      cases (show v1 = x from o1)
      cases x with
      | false => exact h' ms' hs' σ' H1 Y1 S1.s
      | true =>
        simp only [if_true] at h' ⊢
        refine ⟨fun σ2 H2 => ∃ ms2 hs2 g2, Rel c F ms2 hs2 g2 σ2 H2 ∧ SPost c E F hs2 H2 D (whileD fc fb n g2), fun σ2 H2 hw => ⟨n, Nat.lt_succ_self n, hw⟩, ?_⟩
        refine hb F ms' hs' g1 σ' H1 _ Y1 ?_
        have h2 := SPost.of S1.s h'
        cases e2 : fb g1 with
        | nx g2 => rw [e2] at h2; exact fun ms2 hs2 σ2 H2 Y2 S2 => ⟨ms2, hs2, g2, Y2, SPost.of S2 h2⟩
        | ct g2 => rw [e2] at h2; exact fun ms2 hs2 σ2 H2 Y2 S2 => ⟨ms2, hs2, g2, Y2, SPost.of S2 h2⟩
        | bk g2 => rw [e2] at h2; exact h2
        | rt r g2 => rw [e2] at h2; exact h2
        | ex e => rw [e2] at h2; exact h2
        | no => rw [e2] at h2; exact h2

/-! ### what is walked -/
/-- the items of the walk, wherever what could be read still can -/
def Yl (c : CT) (J : It) (hs : List Addr) (H : Hp) (ds : List D) : Prop :=
  ∀ hs2 H2, Same (hid hs H) (hid hs2 H2) → (∀ i, i < ds.length → J.go i H2) ∧ J.stop ds.length H2 ∧
    ∀ i d x H3, ds[i]? = some d → J.yld i H2 x H3 → Same H2 H3 ∧ ((∀ a ∈ hs2, H2 a ≠ none) → Rp c (hid hs2 H3) x d)
def Di (c : CT) (E : XK) (wi : TI) (f : M (List D)) : Prop :=
  ∀ (F : Fx) (ms hs : List Addr) (g : G) (σ : L2.St) (H : Hp) (Q : It → Hp → Prop), Rel c F ms hs g σ H →
    (match f g with
      | .ok (ds, g') => ∀ J H', Rel c F ms hs g' σ H' → Sm ms hs H H' → Yl c J hs H' ds → Q J H'
      | .ex e => ∀ u H', c.mg e = some u → (∀ b o, F.H0 b = some o → b ∉ F.ps → H' b = some o) → E u none H'
      | .no => False) → wi σ H Q
theorem Yl.mono {J : It} {hs hs' : List Addr} {H H' : Hp} {ds : List D} (h : Yl c J hs H ds) (e : Same (hid hs H) (hid hs' H')) : Yl c J hs' H' ds := fun hs2 H2 S => h hs2 H2 (e.trans S)

theorem sn_for {wi : TI} {gt : TG} {tb : TS} {fi : M (List D)} {T : Rv → G → Re G} {fb : G → SR} (hi : Di c E wi fi) (hg : Dg c gt T) (hb : Sn c E tb fb) : Sn c E (tFor wi gt tb) (forS fi T fb) := by
  intro F ms hs g σ H D Y h
  unfold forS at h
  refine hi F ms hs g σ H _ Y ?_
  cases e1 : fi g with
  | no => rw [e1] at h; exact h
  | ex _ => rw [e1] at h; exact h
  | ok p =>
    obtain ⟨ds, g1⟩ := p
    rw [e1] at h
    intro J H1 Y1 S1 yl
    have h1 := SPost.of S1.s h
    refine ⟨fun i m σ' H' => m = ds.length - i ∧ i ≤ ds.length ∧ ∃ ms' hs' g', Rel c F ms' hs' g' σ' H' ∧ Yl c J hs' H' ds ∧ SPost c E F hs' H' D (forD T fb (ds.drop i) g'), ⟨ds.length, by simp, Nat.zero_le _, ms, hs, g1, Y1, yl, h1⟩, ?_⟩
    rintro i m σ' H' ⟨rfl, hle, ms', hs', g', Y', yl', h'⟩
    obtain ⟨y1, y2, y3⟩ := yl' hs' H' (Same.refl _)
    by_cases hlt : i < ds.length
    · refine .inr ⟨y1 i hlt, fun σ2 H2 => ∃ ms2 hs2 g2, Rel c F ms2 hs2 g2 σ2 H2 ∧ Yl c J hs2 H2 ds ∧ SPost c E F hs2 H2 D (forD T fb (ds.drop (i + 1)) g2), fun σ2 H2 hw => ⟨ds.length - (i + 1), by omega, rfl, hlt, hw⟩, fun x H3 hy => ?_⟩
      obtain ⟨e3, r3⟩ := y3 i ds[i] x H3 (List.getElem?_eq_getElem hlt) hy
      have rp := r3 Y'.tr
      have Y3 := Y'.grow e3
      rw [List.drop_eq_getElem_cons hlt] at h'
      unfold forD at h'
      refine hg F ms' hs' g' g' σ' H3 H3 x (.da ds[i]) _ Y3 Y3 (Same.refl _) rp ?_
      cases e4 : T (.da ds[i]) g' with
      | no => rw [e4] at h'; exact h'
      | ex _ => rw [e4] at h'; exact h'
      | ok g2 =>
        rw [e4] at h'
        intro ms4 hs4 σ4 H4 Y4 S4
        have S04 : Same (hid hs' H') (hid hs4 H4) := (hid_mono e3).trans S4
        refine hb F ms4 hs4 g2 σ4 H4 _ Y4 ?_
        have h2 := SPost.of S04 h'
        have yl4 := yl'.mono S04
        dsimp only at h2
        cases e5 : fb g2 with
        | nx g3 => rw [e5] at h2; exact fun ms5 hs5 σ5 H5 Y5 S5 => ⟨ms5, hs5, g3, Y5, yl4.mono S5, SPost.of S5 h2⟩
        | ct g3 => rw [e5] at h2; exact fun ms5 hs5 σ5 H5 Y5 S5 => ⟨ms5, hs5, g3, Y5, yl4.mono S5, SPost.of S5 h2⟩
        | bk g3 => rw [e5] at h2; exact h2
        | rt r g3 => rw [e5] at h2; exact h2
        | ex e => rw [e5] at h2; exact h2
        | no => rw [e5] at h2; exact h2
    · have e : i = ds.length := by omega
      subst e
      rw [List.drop_length] at h'
      exact .inl ⟨y2, h' ms' hs' σ' H' Y' (Same.refl _)⟩

/-! ### comprehensions -/
theorem wipeG_length (g : G) : ∀ ws : List Nat, (wipeG g ws).length = g.length
  | [] => rfl
  | w :: ws => by unfold wipeG; rw [List.length_set, wipeG_length g ws]
theorem Rel.wipeG {F : Fx} {ms hs : List Addr} {g : G} {σ : L2.St} {H : Hp} (Y : Rel c F ms hs g σ H) : ∀ ws : List Nat, Rel c F ms hs (wipeG g ws) σ H
  | [] => Y
  | w :: ws => (Y.wipeG ws).setUn w
theorem wipeG_get {g : G} {i : Nat} {γ : Sl} : ∀ {ws : List Nat}, (GD.wipeG g ws)[i]? = some γ → i ∈ ws → γ = .un
  | [], _, h => by cases h
  | w :: ws, h, hm => by
    unfold GD.wipeG at h
    by_cases e : w = i
    · subst e
      by_cases hl : w < (GD.wipeG g ws).length
      · rw [List.getElem?_set_self hl] at h; cases h; rfl
      · rw [List.getElem?_eq_none (by rw [List.length_set]; omega)] at h; cases h
    · rw [List.getElem?_set_ne e] at h
      rcases List.mem_cons.mp hm with z | z
      · exact absurd z.symm e
      · exact wipeG_get h z
/-- slots of which nothing is known may hold anything -/
theorem Rel.slots {F : Fx} {ms hs : List Addr} {g : G} {σ σ' : L2.St} {H : Hp} (Y : Rel c F ms hs g σ H) (hl : σ'.length = σ.length) (he : ∀ (i : Nat) (γ : Sl), g[i]? = some γ → γ ≠ Sl.un → σ'[i]? = σ[i]?) : Rel c F ms hs g σ' H := by
  refine ⟨by rw [hl]; exact Y.len, fun i γ hi => ?_, fun i k oi di ok dk a h1 h2 e1 e2 => ?_, Y.fr, Y.tr, Y.sub, Y.pc, Y.oc, Y.mh, Y.tab⟩
  · cases γ with
    | un => exact True.intro
    | da d => rw [he i _ hi (by simp)]; exact Y.sl i _ hi
    | ml o d => rw [he i _ hi (by simp)]; exact Y.sl i _ hi
  · rw [he i _ h1 (by simp)] at e1
    rw [he k _ h2 (by simp)] at e2
    exact Y.dis i k oi di ok dk a h1 h2 e1 e2
theorem Rel.toWipe {F : Fx} {ms hs : List Addr} {g : G} {σ : L2.St} {H : Hp} {ws : List Nat} (Y : Rel c F ms hs (GD.wipeG g ws) σ H) : Rel c F ms hs (GD.wipeG g ws) (wipe σ ws) H :=
  Y.slots (wipe_length _ _) fun i γ hi n => by
    rw [wipe_get, if_neg (fun z => n (wipeG_get hi z.1))]
theorem Rel.reWipe {F : Fx} {ms hs : List Addr} {g : G} {σ σ' : L2.St} {H : Hp} {ws : List Nat} (Y : Rel c F ms hs g σ' H) (e : wipe σ' ws = wipe σ ws) : Rel c F ms hs (GD.wipeG g ws) (wipe σ ws) H := by
  rw [← e]
  exact (Y.wipeG ws).toWipe
theorem Rel.fromWipe {F : Fx} {ms hs : List Addr} {g : G} {σ : L2.St} {H : Hp} {ws : List Nat} (Y : Rel c F ms hs g (wipe σ ws) H) (hu : ∀ (i : Nat) (γ : Sl), g[i]? = some γ → i ∈ ws → γ = Sl.un) : Rel c F ms hs g σ H :=
  Y.slots (wipe_length _ _).symm fun i γ hi n => by
    rw [wipe_get, if_neg (fun z => n (hu i γ hi z.1))]
/-- less is hidden -/
theorem Rel.unHid {F : Fx} {ms hs hs' : List Addr} {g : G} {σ : L2.St} {H : Hp} (Y : Rel c F ms hs g σ H) (h : ∀ a ∈ hs', a ∈ hs) (m : ∀ a ∈ ms, a ∈ hs') (s : ∀ a ∈ F.hc, a ∈ hs') : Rel c F ms hs' g σ H := by
  refine ⟨Y.len, fun i γ hi => ?_, Y.dis, Y.fr, fun b hb => Y.tr b (h b hb), s, Y.pc, Y.oc, m, Y.tab⟩
  have q := Y.sl i γ hi
  cases γ with
  | un => exact True.intro
  | da d => obtain ⟨v, e1, r⟩ := q; exact ⟨v, e1, r.same (hid_sub h)⟩
  | ml o d => obtain ⟨b, vs, e1, m1, o1, o2, hb, r⟩ := q; exact ⟨b, vs, e1, m1, o1, o2, hb, r.same (hid_sub h)⟩
theorem rawOf_l {σ : L2.St} {hs : List Addr} {H : Hp} {v : V} {r : Rv} {d : D} (h : RvL c σ hs H v r) (e : rawOf r = some d) : Rp c (hid hs H) v d := by
  cases r with
  | da d => cases e; exact h
  | fl ds => cases e; exact h
  | bl i => cases e
def Dc (c : CT) (ws : List Nat) (t : TG) (T : D → G → Option G) : Prop :=
  ∀ (F : Fx) (ms hs : List Addr) (g : G) (σ : L2.St) (H : Hp) (v : V) (d : D) (Q : L2.St → Hp → Prop), Rel c F ms hs g σ H → Rp c (hid hs H) v d →
    (match T d g with
      | some g' => ∀ σ', Rel c F ms hs g' σ' H → wipe σ' ws = wipe σ ws → Q σ' H
      | none => False) → t v σ H Q
def Dcs (c : CT) (ws : List Nat) (t : TGs) (Ts : List (D → G → Option G)) : Prop :=
  ∀ (F : Fx) (ms hs : List Addr) (g : G) (σ : L2.St) (H : Hp) (vs : List V) (ds : List D) (Q : L2.St → Hp → Prop), Rel c F ms hs g σ H → RpL c (hid hs H) vs ds →
    (match cgs Ts ds g with
      | some g' => ∀ σ', Rel c F ms hs g' σ' H → wipe σ' ws = wipe σ ws → Q σ' H
      | none => False) → t vs σ H Q
theorem dc_name {j : Nat} {ws : List Nat} (hw : j ∈ ws) : Dc c ws (gName j) (cgN j) := fun F ms hs g σ H v d Q Y r h => h _ (Y.setDa r j) (wipe_set hw)
theorem dcs_nil {ws : List Nat} : Dcs c ws gNil [] := by
  intro F ms hs g σ H vs ds Q Y r h
  cases r with
  | nil => exact ⟨rfl, h σ Y rfl⟩
  | cons _ _ => exact h.elim
theorem dcs_cons {ws : List Nat} {t : TG} {u : TGs} {T : D → G → Option G} {Ts : List (D → G → Option G)} (h1 : Dc c ws t T) (h2 : Dcs c ws u Ts) : Dcs c ws (gCons t u) (T :: Ts) := by
  intro F ms hs g σ H vs ds Q Y r h
  cases r with
  | nil => exact h.elim
  | cons r rs =>
    rename_i v vs d ds
    refine ⟨v, vs, rfl, ?_⟩
    unfold cgs at h
    refine h1 F ms hs g σ H v d _ Y r ?_
    cases e : T d g with
    | none => rw [e] at h; exact h
    | some g1 =>
      rw [e] at h
      intro σ1 Y1 w1
      refine h2 F ms hs g1 σ1 H vs ds Q Y1 rs ?_
      simp only [Option.bind_some] at h
      cases e2 : cgs Ts ds g1 with
      | none => rw [e2] at h; exact h
      | some g2 =>
        rw [e2] at h
        exact fun σ2 Y2 w2 => h σ2 Y2 (w2.trans w1)
theorem cgs_length : ∀ {Ts : List (D → G → Option G)} {ds : List D} {g g' : G}, cgs Ts ds g = some g' → ds.length = Ts.length
  | [], [], _, _, _ => rfl
  | T :: Ts, d :: ds, g, g', h => by
    unfold cgs at h
    obtain ⟨g1, _, e⟩ := Option.bind_eq_some_iff.mp h
    rw [List.length_cons, List.length_cons, cgs_length e]
  | [], _ :: _, _, _, h => by simp [cgs] at h
  | _ :: _, [], _, _, h => by simp [cgs] at h
theorem dc_tup {ws : List Nat} {n : Nat} {u : TGs} {Ts : List (D → G → Option G)} (hn : Ts.length = n) (h2 : Dcs c ws u Ts) : Dc c ws (gTup c.K n u) (cgT Ts) := by
  intro F ms hs g σ H v d Q Y r h
  unfold cgT at h
  split at h
  next g' e =>
    split at e
    next ds =>
      obtain ⟨a, xs, rfl, q1, q2⟩ := r.tupInv
      refine ⟨a, xs, rfl, same_t hid_le q1, by rw [q2.length, cgs_length e, hn], ?_⟩
      refine h2 F ms hs g σ H xs ds Q Y q2 ?_
      rw [e]
      exact h
    next => cases e
  next => exact h.elim
theorem dt_yes : Dt c E tYes yesT := fun F ms hs g σ H Q Y h => h true H Y Sm.refl rfl
theorem dn_lc {wi : TI} {gt : TG} {tt : TT} {te : TE} {fi : M (List D)} {T : D → G → Option G} {ft : M Bool} {fe : M Rv} {ws : List Nat} (hi : Di c E wi fi) (hg : Dc c ws gt T) (ht : Dt c E0 tt ft) (he : Dn c E0 te fe) :
    Dn c E (tLc wi gt tt te ws) (lcE fi T ft fe ws) := by
  intro F ms hs g σ H Q Y h
  unfold lcE at h
  refine hi F ms hs g σ H _ Y ?_
  cases e1 : fi g with
  | no => rw [e1] at h; exact h
  | ex _ => rw [e1] at h; exact h
  | ok p =>
    obtain ⟨ds, g1⟩ := p
    simp only [e1, Re.ok_bind] at h
    intro J H1 Y1 S1 yl
    by_cases hz : ds.length ≤ 1000000
    · simp only [hz, if_true] at h
      intro p np
      cases e2 : compD T ft fe ws ds (GD.wipeG g1 ws) with
      | none => rw [e2] at h; exact h.elim
      | some q =>
        obtain ⟨ys, g2⟩ := q
        simp only [e2, ofO_some, Re.ok_bind, Re.pure_eq] at h
        have np' := Y1.fresh np
        have n0 : H p = none := by
          have := S1.s.free (l := p) (by rw [hid_out np']; exact np)
          rwa [hid_out np'] at this
        have npm : p ∉ ms := fun z => np' (Y1.mh p z)
        -- the turn's word
        refine ⟨fun i m H' => m = ds.length - i ∧ i ≤ ds.length ∧ ∃ g' acc ads ys', Rel c F ms (p :: hs) g' (wipe σ ws) H' ∧ Sm ms (p :: hs) (upd H1 p (.lst [])) (upd H' p (.lst [])) ∧ H' p = some (.lst acc) ∧ acc.length ≤ i ∧ RpL c (hid (p :: hs) H') acc ads ∧
            compD T ft fe ws (ds.drop i) g' = some (ys', g2) ∧ ys = ads ++ ys' ∧ (∀ (i : Nat) (γ : Sl), g'[i]? = some γ → i ∈ ws → γ = Sl.un), ⟨ds.length, by simp, Nat.zero_le _, GD.wipeG g1 ws, [], [], ys, ?_, ?_, upd_same, Nat.le_refl _, .nil, e2, rfl, fun i γ h m => wipeG_get h m⟩, ?_⟩
        · exact ((Y1.newHid (same_new np) np (by rw [upd_same]; exact fun z => nomatch z)).wipeG ws).toWipe
        · rw [upd_upd]; exact Sm.refl
        rintro i m H' ⟨rfl, hle, g', acc, ads, ys', Ya, S', hp, hl, rr, ec, ey, hu⟩
        have S1' : Same (hid hs H1) (hid (p :: hs) H') := by
          refine (same_cons np (hid_mono (same_new (o := .lst []) np))).trans ?_
          have := S'.s
          rw [hid_upd List.mem_cons_self, hid_upd List.mem_cons_self] at this
          rw [hid_upd List.mem_cons_self]
          exact this
        obtain ⟨y1, y2, y3⟩ := yl (p :: hs) H' S1'
        by_cases hlt : i < ds.length
        · refine .inr ⟨y1 i hlt, fun H2 => ∃ g' acc ads ys', Rel c F ms (p :: hs) g' (wipe σ ws) H2 ∧ Sm ms (p :: hs) (upd H1 p (.lst [])) (upd H2 p (.lst [])) ∧ H2 p = some (.lst acc) ∧ acc.length ≤ i + 1 ∧ RpL c (hid (p :: hs) H2) acc ads ∧
            compD T ft fe ws (ds.drop (i + 1)) g' = some (ys', g2) ∧ ys = ads ++ ys' ∧ (∀ (i : Nat) (γ : Sl), g'[i]? = some γ → i ∈ ws → γ = Sl.un), fun H2 hw => ⟨ds.length - (i + 1), by omega, rfl, hlt, hw⟩, fun x H3 hy => ?_⟩
          obtain ⟨e3, r3⟩ := y3 i ds[i] x H3 (List.getElem?_eq_getElem hlt) hy
          have rp := r3 Ya.tr
          have Y3 := Ya.grow e3
          rw [List.drop_eq_getElem_cons hlt] at ec
          unfold compD at ec
          refine hg F ms (p :: hs) g' (wipe σ ws) H3 x ds[i] _ Y3 rp ?_
          cases e4 : T ds[i] g' with
          | none => rw [e4] at ec; cases ec
          | some g3 =>
            rw [e4] at ec
            dsimp only at ec
            intro σ4 Y4 w4
            have w4' : wipe σ4 ws = wipe σ ws := by
              rw [w4]
              refine List.ext_getElem? fun k => ?_
              rw [wipe_get, wipe_get, wipe_length]
              split <;> rfl
            refine ⟨w4', ?_⟩
            refine ht F ms (p :: hs) g3 σ4 H3 _ Y4 ?_
            cases e5 : ft g3 with
            | no => rw [e5] at ec; cases ec
            | ex _ => rw [e5] at ec; cases ec
            | ok q =>
              obtain ⟨b, g4⟩ := q
              rw [e5] at ec
              dsimp only at ec
              intro b' H5 Y5 S5 o5
              cases (show b' = b from o5)
              have S35 : Sm ms (p :: hs) H' H5 := (Sm.grow e3).trans S5
              have hp5 : H5 p = some (.lst acc) := S35.f p _ hp npm
              have S5' : Sm ms (p :: hs) (upd H1 p (.lst [])) (upd H5 p (.lst [])) := S'.trans (by
                constructor
                · rw [hid_upd List.mem_cons_self, hid_upd List.mem_cons_self]; exact S35.s
                · intro b o q n
                  by_cases hb : b = p
                  · subst hb; rw [upd_same] at q ⊢; exact q
                  · rw [upd_ne hb] at q ⊢; exact S35.f b o q n)
              cases b with
              | false =>
                simp only [Bool.false_eq_true, if_false] at ec ⊢
                exact ⟨GD.wipeG g4 ws, acc, ads, ys', Y5.reWipe w4', S5', hp5, by omega, rr.same S35.s, ec, ey, fun i γ h m => wipeG_get h m⟩
              | true =>
                simp only [if_true] at ec ⊢
                refine he F ms (p :: hs) g4 σ4 H5 _ Y5 ?_
                cases e6 : fe g4 with
                | no => rw [e6] at ec; cases ec
                | ex _ => rw [e6] at ec; cases ec
                | ok q =>
                  obtain ⟨y, g5⟩ := q
                  rw [e6] at ec
                  dsimp only at ec
                  intro v6 H6 Y6 S6 o6
                  cases e7 : rawOf y with
                  | none => rw [e7] at ec; cases ec
                  | some dy =>
                    rw [e7] at ec
                    simp only [Option.map_eq_some_iff] at ec
                    obtain ⟨⟨ys2, g6⟩, ec2, e8⟩ := ec
                    cases e8
                    have hp6 : H6 p = some (.lst acc) := S6.f p _ hp5 npm
                    have rp6 : Rp c (hid (p :: hs) H6) v6 dy := rawOf_l (o6.l Y5.tr) e7
                    have S36 := S35.trans S6
                    refine ⟨acc, hp6, sz_lt (by omega), ?_⟩
                    have hx : hid (p :: hs) (upd H6 p (.lst (acc ++ [v6]))) = hid (p :: hs) H6 := hid_upd List.mem_cons_self
                    refine ⟨GD.wipeG g5 ws, acc ++ [v6], ads ++ [dy], ys2, ?_, ?_, upd_same, by rw [List.length_append, List.length_singleton]; omega, by rw [hx]; exact (rr.same S36.s).append (.cons rp6 .nil), ec2, by rw [ey, List.append_assoc]; rfl, fun i γ h m => wipeG_get h m⟩
                    · have Y7 := Y6.reWipe w4'
                      refine ⟨Y7.len, fun k γ hk => ?_, Y7.dis, fun b o hb hn => ?_, fun b hb q => ?_, Y7.sub, Y7.pc, Y7.oc, Y7.mh, fun t ht => ⟨(Y7.tab t ht).1, tab_but (Y7.tab t ht).2 hp6 fun b o z n => by rw [upd_ne n]; exact z⟩⟩
                      · have q := Y7.sl k γ hk
                        cases γ with
                        | un => exact True.intro
                        | da d => obtain ⟨v, z1, z2⟩ := q; exact ⟨v, z1, by rw [hx]; exact z2⟩
                        | ml ow d =>
                          obtain ⟨b, vs, z1, z2, z3, z4, z5, z6⟩ := q
                          exact ⟨b, vs, z1, z2, z3, z4, by rw [upd_ne (fun z : b = p => npm (by rw [← z]; exact z2))]; exact z5, by rw [hx]; exact z6⟩
                      · have q := Y7.fr b o hb hn
                        by_cases hbp : b = p
                        · subst hbp
                          exact absurd (Y.fresh0 n0) (by rw [hb]; exact fun z => nomatch z)
                        · rw [upd_ne hbp]; exact q
                      · by_cases hbp : b = p
                        · subst hbp; rw [upd_same] at q; cases q
                        · rw [upd_ne hbp] at q; exact Y7.tr b hb q
                    · rw [upd_upd]
                      refine S5'.trans ?_
                      constructor
                      · rw [hid_upd List.mem_cons_self, hid_upd List.mem_cons_self]; exact S6.s
                      · intro b o q n
                        by_cases hb : b = p
                        · subst hb; rw [upd_same] at q ⊢; exact q
                        · rw [upd_ne hb] at q ⊢; exact S6.f b o q n
        · have e : i = ds.length := by omega
          subst e
          rw [List.drop_length] at ec
          unfold compD at ec
          cases ec
          rw [List.append_nil] at ey
          subst ey
          have Yz := Ya.fromWipe hu
          have Sf : Sm ms hs H1 H' := by
            constructor
            · exact S1'.trans (hid_sub fun b hb => List.mem_cons_of_mem _ hb)
            · intro b o q n
              have hb : b ≠ p := fun z => by subst z; rw [np] at q; cases q
              have := S'.f b o (by rw [upd_ne hb]; exact q) n
              rwa [upd_ne hb] at this
          exact .inl ⟨y2, h _ _ (Yz.unHid (fun a ha => List.mem_cons_of_mem _ ha) Y1.mh Y1.sub) (S1.trans Sf) ⟨p, acc, rfl, n0, hp, rr, Yz⟩⟩
    · simp only [hz, if_false] at h
end
end GD

/-! GD8: what is walked; calls; defs. -/
namespace GD
open PySem PySem.Spec PyProof.Rows L2

/-! ### a list, a tuple, a text -/
def iAny (K : PySem.W.Frag) (tl : TE) : TI := fun σ H R => tl σ H fun x H1 =>
  (∃ a, x = .ref a ∧ (∃ xs, SqL K H1 a xs) ∧ R (Itl K a) H1) ∨ (∃ a, x = .ref a ∧ (∃ xs, SqT K H1 a xs) ∧ R (Itt K a) H1) ∨ (∃ z, x = .str z ∧ R (Its z) H1)
theorem pi_any {X : Cx} {tg l : Expr} {tl : TE} (hl : PE X l tl) : PI X tg l (iAny X.K tl) := by
  refine ⟨fun pins s σ H R I h => ?_⟩
  refine thn (hl.run pins s σ H _ I h) fun v s1 ⟨x, H1, I1, r1, q1⟩ => ?_
  rcases q1 with ⟨a, e, ⟨xs, hq⟩, q⟩ | ⟨a, e, ⟨xs, hq⟩, q⟩ | ⟨z, e, q⟩
  · subst e
    cases r1
    obtain ⟨its, rv, p, hz⟩ := I1.list hq
    refine wpAny_pyIter_list p.isList ?_
    refine ⟨s1.heap.objs.size, [s1.heap.objs.size], _, _, H1, rfl, I1.kept (t' := s1.toks) fun b o e => Heap.get?_push_of_some _ e, turn_list a _, ⟨_, Heap.get?_push_size _ rfl, rfl, rfl⟩, fun b hb => ?_, q⟩
    have e : b = s1.heap.objs.size := by simpa using hb
    subst e
    exact I1.fpOk (Nat.le_refl _) (I1.hok.fresh (Nat.le_refl _))
  · subst e
    cases r1
    obtain ⟨its, rv, p, hz⟩ := I1.tuple hq
    refine wpAny_pyIter_tuple (show s1.heap.IsTuple a its.toArray from p) ?_
    refine ⟨s1.heap.objs.size, [s1.heap.objs.size], _, _, H1, rfl, I1.kept (t' := s1.toks) fun b o e => Heap.get?_push_of_some _ e, turn_tuple a _, ⟨_, Heap.get?_push_size _ rfl, rfl, rfl⟩, fun b hb => ?_, q⟩
    have e : b = s1.heap.objs.size := by simpa using hb
    subst e
    exact I1.fpOk (Nat.le_refl _) (I1.hok.fresh (Nat.le_refl _))
  · subst e
    obtain ⟨t, rfl⟩ := r1
    cases ha : z.cps.all (· < 128)
    · exact wpAny_pyIter_wide ha (pi_one (tk := s1.toks) I1 _ (turn_str _ z t "str_iterator" (.inr rfl)) ⟨_, Heap.get?_push_size _ rfl, rfl, rfl⟩ q)
    · exact wpAny_pyIter_ascii ha (pi_one (tk := s1.toks) I1 _ (turn_str _ z t "str_ascii_iterator" (.inl rfl)) ⟨_, Heap.get?_push_size _ rfl, rfl, rfl⟩ q)

def itemsOf : D → Option (List D)
  | .list xs => some xs
  | .tuple xs => some xs
  | .str z => some (z.cps.toList.map fun n => .str ⟨#[n]⟩)
  | _ => none
def anyI (e : M Rv) : M (List D) := fun g => do
  let (x, g1) ← e g
  let d ← ofO (rawOf x)
  let ds ← ofO (itemsOf d)
  pure (ds, g1)
def rngD : List Rv → Option (List D)
  | [.da (.int j)] => if -1000000 ≤ j ∧ j ≤ 1000000 then some ((List.range j.toNat).map fun i : Nat => .int i) else none
  | [.da (.int i), .da (.int j)] => if -1000000 ≤ i ∧ i ≤ 1000000 ∧ -1000000 ≤ j ∧ j ≤ 1000000 then some ((List.range (j - i).toNat).map fun k : Nat => .int (i + k)) else none
  | _ => none
def zipD : List D → Option (List D)
  | [.list xs, .list ys] => some ((xs.zip ys).map fun p => .tuple [p.1, p.2])
  | [.tuple xs, .tuple ys] => some ((xs.zip ys).map fun p => .tuple [p.1, p.2])
  | _ => none
def rngI (a : M (List Rv)) : M (List D) := fun g => do
  let (rs, g1) ← a g
  let ds ← ofO (rngD rs)
  pure (ds, g1)
def zipI (a : M (List Rv)) : M (List D) := fun g => do
  let (rs, g1) ← a g
  let xs ← ofO (rawL g1 rs)
  let ds ← ofO (zipD xs)
  pure (ds, g1)

section
variable {c : CT} {E : XK}
theorem hid_rd {hs2 : List Addr} {H2 : Hp} {a : Addr} {xs : List V} (h : Rd (hid hs2 H2) a (.lst xs)) : SqL c.K H2 a xs := .inl (same_rd hid_le h)
theorem sqL_inj {K : PySem.W.Frag} {H : Hp} {a : Addr} {xs ys : List V} (h : Rd H a (.lst xs)) (h' : SqL K H a ys) (nk : ∀ o, K.lookup a = some o → H a = none) : xs = ys := by
  rcases h' with h' | ⟨o, its, n, hk, _⟩
  · rcases h with h | ⟨o, h⟩ <;> rcases h' with h' | ⟨o', h'⟩ <;> rw [h] at h' <;> cases h' <;> rfl
  · rcases h with h | ⟨o', h⟩ <;> rw [nk o hk] at h <;> cases h
theorem yl_list {hs : List Addr} {H : Hp} {a : Addr} {vs : List V} {ds : List D} (h : Rd (hid hs H) a (.lst vs)) (r : RpL c (hid hs H) vs ds) : Yl c (Itl c.K a) hs H ds := by
  intro hs2 H2 S
  have h2 := same_rd S h
  have r2 := r.same S
  have sq : SqL c.K H2 a vs := hid_rd h2
  refine ⟨fun i hi => ⟨vs, vs[i]'(by rw [r.length]; exact hi), sq, List.getElem?_eq_getElem _⟩, ⟨vs, sq, by rw [r.length]; exact Nat.le_refl _⟩, fun i d x H3 hd hy => ?_⟩
  obtain ⟨rfl, hx⟩ := hy
  refine ⟨Same.refl _, fun _ => ?_⟩
  obtain ⟨v, e1, rp⟩ := r2.get hd
  have := hx vs sq
  rw [e1] at this
  cases this
  exact rp
theorem yl_tup {hs : List Addr} {H : Hp} {a : Addr} {vs : List V} {ds : List D} (h : SqT c.K (hid hs H) a vs) (r : RpL c (hid hs H) vs ds) : Yl c (Itt c.K a) hs H ds := by
  intro hs2 H2 S
  have r2 := r.same S
  have sq : SqT c.K H2 a vs := same_t hid_le (same_t S h)
  refine ⟨fun i hi => ⟨vs, vs[i]'(by rw [r.length]; exact hi), sq, List.getElem?_eq_getElem _⟩, ⟨vs, sq, by rw [r.length]; exact Nat.le_refl _⟩, fun i d x H3 hd hy => ?_⟩
  obtain ⟨rfl, hx⟩ := hy
  refine ⟨Same.refl _, fun _ => ?_⟩
  obtain ⟨v, e1, rp⟩ := r2.get hd
  have := hx vs sq
  rw [e1] at this
  cases this
  exact rp
theorem di_any {te : TE} {fe : M Rv} (he : Dn c E te fe) : Di c E (iAny c.K te) (anyI fe) := by
  intro F ms hs g σ H Q Y h
  unfold anyI at h
  refine he F ms hs g σ H _ Y ?_
  cases e1 : fe g with
  | no => rw [e1] at h; exact h
  | ex _ => rw [e1] at h; exact h
  | ok p =>
    obtain ⟨x1, g1⟩ := p
    simp only [e1, Re.ok_bind] at h
    intro v1 H1 Y1 S1 o1
    cases q3 : rawOf x1 with
    | none => rw [q3] at h; exact False.elim h
    | some d =>
      simp only [q3, ofO_some, Re.ok_bind] at h
      have rp := rawOf_l (o1.l Y.tr) q3
      cases q4 : itemsOf d with
      | none => rw [q4] at h; exact False.elim h
      | some ds =>
        simp only [q4, ofO_some, Re.ok_bind, Re.pure_eq] at h
        cases d with
        | list xs =>
          cases q4
          obtain ⟨a, us, rfl, h1, h2⟩ := rp.lstInv
          exact .inl ⟨a, rfl, ⟨us, hid_rd h1⟩, h _ H1 Y1 S1 (yl_list h1 h2)⟩
        | tuple xs =>
          cases q4
          obtain ⟨a, us, rfl, h1, h2⟩ := rp.tupInv
          exact .inr (.inl ⟨a, rfl, ⟨us, same_t hid_le h1⟩, h _ H1 Y1 S1 (yl_tup h1 h2)⟩)
        | str z =>
          cases q4
          refine .inr (.inr ⟨z, rp.strInv, h _ H1 Y1 S1 ?_⟩)
          intro hs2 H2 S
          refine ⟨fun i hi => by show i < z.cps.size; simpa using hi, by show z.cps.size ≤ _; simp, fun i d x H3 hd hy => ?_⟩
          obtain ⟨rfl, n, e1, rfl⟩ := hy
          refine ⟨Same.refl _, fun _ => ?_⟩
          rw [List.getElem?_map, Option.map_eq_some_iff] at hd
          obtain ⟨m, e2, rfl⟩ := hd
          rw [Array.getElem?_toList, e1] at e2
          cases e2
          exact .str _
        | _ => cases q4
theorem yl_rng {hs : List Addr} {H : Hp} {lo : Int} {n : Nat} : Yl c (Itr lo n) hs H ((List.range n).map fun k : Nat => .int (lo + k)) := by
  intro hs2 H2 S
  refine ⟨fun i hi => by show i < n; simpa using hi, by show n ≤ _; simp, fun i d x H3 hd hy => ?_⟩
  obtain ⟨rfl, rfl⟩ := hy
  refine ⟨Same.refl _, fun _ => ?_⟩
  rw [List.getElem?_map, Option.map_eq_some_iff] at hd
  obtain ⟨m, e2, rfl⟩ := hd
  obtain ⟨hm1, hm2⟩ := List.getElem?_eq_some_iff.mp e2
  rw [List.getElem_range] at hm2
  subst hm2
  exact .int _
theorem di_rng1 {ta : TA} {fa : M (List Rv)} (ha : Da c E ta fa) (h1 : ∀ g rs g', fa g = .ok (rs, g') → rs.length = 1) : Di c E (iRng1 ta) (rngI fa) := by
  intro F ms hs g σ H Q Y h
  unfold rngI at h
  refine ha F ms hs g σ H _ Y ?_
  cases e1 : fa g with
  | no => rw [e1] at h; exact h
  | ex _ => rw [e1] at h; exact h
  | ok p =>
    obtain ⟨rs, g1⟩ := p
    have hl := h1 _ _ _ e1
    simp only [e1, Re.ok_bind] at h
    intro v1 H1 Y1 S1 o1
    cases q3 : rngD rs with
    | none => rw [q3] at h; exact False.elim h
    | some ds =>
      simp only [q3, ofO_some, Re.ok_bind, Re.pure_eq] at h
      unfold rngD at q3
      split at q3
      next j =>
        split at q3
        next hj =>
          cases q3
          cases o1 with
          | cons o1 o2 =>
            cases o2
            cases (show Rp c (hid hs H1) _ (.int j) from o1).intInv
            refine ⟨j, rfl, by omega, by omega, h _ H1 Y1 S1 ?_⟩
            have := yl_rng (c := c) (hs := hs) (H := H1) (lo := 0) (n := j.toNat)
            simpa only [Int.zero_add] using this
        next => cases q3
      next => simp at hl
      next => cases q3
theorem di_rng2 {ta : TA} {fa : M (List Rv)} (ha : Da c E ta fa) (h1 : ∀ g rs g', fa g = .ok (rs, g') → rs.length = 2) : Di c E (iRng2 ta) (rngI fa) := by
  intro F ms hs g σ H Q Y h
  unfold rngI at h
  refine ha F ms hs g σ H _ Y ?_
  cases e1 : fa g with
  | no => rw [e1] at h; exact h
  | ex _ => rw [e1] at h; exact h
  | ok p =>
    obtain ⟨rs, g1⟩ := p
    have hl := h1 _ _ _ e1
    simp only [e1, Re.ok_bind] at h
    intro v1 H1 Y1 S1 o1
    cases q3 : rngD rs with
    | none => rw [q3] at h; exact False.elim h
    | some ds =>
      simp only [q3, ofO_some, Re.ok_bind, Re.pure_eq] at h
      unfold rngD at q3
      split at q3
      next => simp at hl
      next i j =>
        split at q3
        next hj =>
          cases q3
          cases o1 with
          | cons o1 o2 =>
            cases o2 with
            | cons o2 o3 =>
              cases o3
              cases (show Rp c (hid hs H1) _ (.int i) from o1).intInv
              cases (show Rp c (hid hs H1) _ (.int j) from o2).intInv
              exact ⟨i, j, rfl, ⟨by omega, by omega, by omega, by omega⟩, h _ H1 Y1 S1 yl_rng⟩
        next => cases q3
      next => cases q3
theorem aC_len {a : M Rv} {r : M (List Rv)} {n : Nat} (h : ∀ g rs g', r g = .ok (rs, g') → rs.length = n) : ∀ g rs g', aC a r g = .ok (rs, g') → rs.length = n + 1 := by
  intro g rs g' e
  unfold aC at e
  cases e1 : a g with
  | no => rw [e1] at e; cases e
  | ex _ => rw [e1] at e; cases e
  | ok p =>
    obtain ⟨x, g1⟩ := p
    simp only [e1, Re.ok_bind] at e
    cases e2 : r g1 with
    | no => rw [e2] at e; cases e
    | ex _ => rw [e2] at e; cases e
    | ok q =>
      obtain ⟨ys, g2⟩ := q
      simp only [e2, Re.ok_bind, Re.pure_eq] at e
      cases e
      rw [List.length_cons, h _ _ _ e2]
theorem aN_len : ∀ g rs g', aN g = .ok (rs, g') → rs.length = 0 := by
  intro g rs g' e
  cases e
  rfl
theorem yl_zipL {hs : List Addr} {H : Hp} {a b : Addr} {vs us : List V} {ds es : List D} (h : Rd (hid hs H) a (.lst vs)) (r : RpL c (hid hs H) vs ds) (h' : Rd (hid hs H) b (.lst us)) (r' : RpL c (hid hs H) us es) :
    Yl c (Itz c.K a b) hs H ((ds.zip es).map fun p => .tuple [p.1, p.2]) := by
  intro hs2 H2 S
  have r2 := r.same S
  have r2' := r'.same S
  have sq : SqL c.K H2 a vs := hid_rd (same_rd S h)
  have sq' : SqL c.K H2 b us := hid_rd (same_rd S h')
  have l1 := r.length
  have l2 := r'.length
  refine ⟨fun i hi => ?_, ⟨vs, us, sq, sq', ?_⟩, fun i d x H3 hd hy => ?_⟩
  · simp only [List.length_map, List.length_zip] at hi
    exact ⟨vs, us, vs[i]'(by omega), us[i]'(by omega), sq, sq', List.getElem?_eq_getElem _, List.getElem?_eq_getElem _⟩
  · simp only [List.length_map, List.length_zip]
    omega
  · obtain ⟨T, v, u, rfl, nT, rfl, f1, f2⟩ := hy
    refine ⟨same_new nT, fun tr => ?_⟩
    rw [List.getElem?_map, Option.map_eq_some_iff] at hd
    obtain ⟨⟨d1, d2⟩, e2, rfl⟩ := hd
    rw [List.getElem?_zip_eq_some] at e2
    obtain ⟨w1, q1, p1⟩ := r2.get e2.1
    obtain ⟨w2, q2, p2⟩ := r2'.get e2.2
    have := f1 vs sq
    rw [q1] at this
    cases this
    have := f2 us sq'
    rw [q2] at this
    cases this
    exact rp_newtup tr nT (.cons p1 (.cons p2 .nil))
theorem yl_zipT {hs : List Addr} {H : Hp} {a b : Addr} {vs us : List V} {ds es : List D} (h : SqT c.K (hid hs H) a vs) (r : RpL c (hid hs H) vs ds) (h' : SqT c.K (hid hs H) b us) (r' : RpL c (hid hs H) us es) :
    Yl c (RZ.ItzT c.K a b) hs H ((ds.zip es).map fun p => .tuple [p.1, p.2]) := by
  intro hs2 H2 S
  have r2 := r.same S
  have r2' := r'.same S
  have sq : SqT c.K H2 a vs := same_t hid_le (same_t S h)
  have sq' : SqT c.K H2 b us := same_t hid_le (same_t S h')
  have l1 := r.length
  have l2 := r'.length
  refine ⟨fun i hi => ?_, ⟨vs, us, sq, sq', ?_⟩, fun i d x H3 hd hy => ?_⟩
  · simp only [List.length_map, List.length_zip] at hi
    exact ⟨vs, us, vs[i]'(by omega), us[i]'(by omega), sq, sq', List.getElem?_eq_getElem _, List.getElem?_eq_getElem _⟩
  · simp only [List.length_map, List.length_zip]
    omega
  · obtain ⟨T, v, u, rfl, nT, rfl, f1, f2⟩ := hy
    refine ⟨same_new nT, fun tr => ?_⟩
    rw [List.getElem?_map, Option.map_eq_some_iff] at hd
    obtain ⟨⟨d1, d2⟩, e2, rfl⟩ := hd
    rw [List.getElem?_zip_eq_some] at e2
    obtain ⟨w1, q1, p1⟩ := r2.get e2.1
    obtain ⟨w2, q2, p2⟩ := r2'.get e2.2
    have := f1 vs sq
    rw [q1] at this
    cases this
    have := f2 us sq'
    rw [q2] at this
    cases this
    exact rp_newtup tr nT (.cons p1 (.cons p2 .nil))
theorem di_zip {ta : TA} {fa : M (List Rv)} (ha : Da c E ta fa) : Di c E (RZ.iZipA c.K ta) (zipI fa) := by
  intro F ms hs g σ H Q Y h
  unfold zipI at h
  refine ha F ms hs g σ H _ Y ?_
  cases e1 : fa g with
  | no => rw [e1] at h; exact h
  | ex _ => rw [e1] at h; exact h
  | ok p =>
    obtain ⟨rs, g1⟩ := p
    simp only [e1, Re.ok_bind] at h
    intro v1 H1 Y1 S1 o1
    cases q3 : rawL g1 rs with
    | none => rw [q3] at h; exact False.elim h
    | some xs =>
      simp only [q3, ofO_some, Re.ok_bind] at h
      have rr := RvLs.raw o1 q3
      cases q4 : zipD xs with
      | none => rw [q4] at h; exact False.elim h
      | some ds =>
        simp only [q4, ofO_some, Re.ok_bind, Re.pure_eq] at h
        unfold zipD at q4
        split at q4
        next xs ys =>
          cases q4
          obtain ⟨v, w, rfl, r1, r2⟩ := rr.twoInv
          obtain ⟨a, us, rfl, p1, p2⟩ := r1.lstInv
          obtain ⟨b, ws, rfl, p3, p4⟩ := r2.lstInv
          exact ⟨a, b, us, ws, rfl, .inl ⟨hid_rd p1, hid_rd p3, h _ H1 Y1 S1 (yl_zipL p1 p2 p3 p4)⟩⟩
        next xs ys =>
          cases q4
          obtain ⟨v, w, rfl, r1, r2⟩ := rr.twoInv
          obtain ⟨a, us, rfl, p1, p2⟩ := r1.tupInv
          obtain ⟨b, ws, rfl, p3, p4⟩ := r2.tupInv
          exact ⟨a, b, us, ws, rfl, .inr ⟨same_t hid_le p1, same_t hid_le p3, h _ H1 Y1 S1 (yl_zipT p1 p2 p3 p4)⟩⟩
        next => cases q4
end

/-! ### calls of defs -/
/-- a def without lists that change: what it hands back is F of its arguments' data -/
def spP (c : CT) (Fd : List D → Re Rv) : Sp := fun vs H Q E => ∃ hc ds, (∀ a ∈ hc, H a ≠ none) ∧ RpL c (hid hc H) vs ds ∧
  match Fd ds with
  | .ok r => ∀ v H', Same H H' → RvOk c hc H H' v r → Q v H'
  | .ex e => ∀ u H', c.mg e = some u → Same H H' → E u none H'
  | .no => False
/-- a def whose first argument is a list that it changes -/
def spS (c : CT) (Fd : List D → List D → Re (D × List D)) : Sp := fun vs H Q E => ∃ hc a vs0 ds0 ws ds, vs = .ref a :: ws ∧ a ∈ hc ∧ (∀ a ∈ hc, H a ≠ none) ∧ H a = some (.lst vs0) ∧ RpL c (hid hc H) vs0 ds0 ∧ RpL c (hid hc H) ws ds ∧
  match Fd ds0 ds with
  | .ok (d, ds1) => ∀ v H' vs1, (∀ b o, H b = some o → b ≠ a → H' b = some o) → H' a = some (.lst vs1) → RpL c (hid hc H') vs1 ds1 → Rp c (hid hc H') v d → Q v H'
  | .ex e => ∀ u H', c.mg e = some u → (∀ b o, H b = some o → b ≠ a → H' b = some o) → E u none H'
  | .no => False
def callE (Fd : List D → Re Rv) (a : M (List Rv)) : M Rv := fun g => do
  let (rs, g1) ← a g
  let xs ← ofO (rawL g1 rs)
  let r ← Fd xs
  match r with
  | .bl _ => .no
  | r => pure (r, g1)
def callS (Fd : List D → List D → Re (D × List D)) (a : M (List Rv)) : M Rv := fun g => do
  let (rs, g1) ← a g
  match rs with
  | .bl i :: rs' => do
    let xs ← ofO (rawL g1 rs')
    match g1[i]? with
    | some (.ml own ds0) => do
      let (r, ds1) ← Fd ds0 xs
      pure (.da r, g1.set i (.ml own ds1))
    | _ => .no
  | _ => .no
section
variable {c : CT} {E : XK}
theorem RvOk.cast {c c' : CT} {hs : List Addr} {H H' : Hp} {v : V} {r : Rv} (hK : c'.K = c.K) (hm : c'.mg = c.mg) (hX : c'.X = c.X) (h : RvOk c hs H H' v r) : RvOk c' hs H H' v r := by
  cases r with
  | da d => exact Rp.cast hK hm hX h
  | fl ds =>
    obtain ⟨a, vs, e, n, q, r⟩ := h
    exact ⟨a, vs, e, n, q, r.cast hK hm hX⟩
  | bl i => exact h
theorem dn_call {c' : CT} {Fd : List D → Re Rv} {ta : TA} {fa : M (List Rv)} (ha : Da c E ta fa) (hK : c'.K = c.K := by rfl) (hm0 : c'.mg = c.mg := by rfl) (hX : c'.X = c.X := by rfl) : Dn c E (tCall (spP c' Fd) [] E ta) (callE Fd fa) := by
  intro F ms hs g σ H Q Y h
  unfold callE at h
  refine ha F ms hs g σ H _ Y ?_
  cases e1 : fa g with
  | no => rw [e1] at h; exact h
  | ex _ => rw [e1] at h; exact h
  | ok p =>
    obtain ⟨rs, g1⟩ := p
    simp only [e1, Re.ok_bind] at h
    intro v1 H1 Y1 S1 o1
    cases q3 : rawL g1 rs with
    | none => rw [q3] at h; exact False.elim h
    | some xs =>
      simp only [q3, ofO_some, Re.ok_bind] at h
      rw [List.append_nil]
      refine ⟨hs, xs, Y1.tr, (RvLs.raw o1 q3).cast hK hm0 hX, ?_⟩
      cases q4 : Fd xs with
      | no => rw [q4] at h; exact h
      | ex e =>
        rw [q4] at h
        exact fun u H' hm sm => h u H' (hm0 ▸ hm) fun b o hb hp => sm _ _ (Y1.fr b o hb hp)
      | ok r =>
        simp only [q4, Re.ok_bind] at h
        cases r with
        | da d => exact fun v H' sm o => fin_op Y1 S1 h v H' sm (o.cast hK.symm hm0.symm hX.symm)
        | fl d => exact fun v H' sm o => fin_op Y1 S1 h v H' sm (o.cast hK.symm hm0.symm hX.symm)
        | bl i => exact h.elim
theorem dn_callS {c' : CT} {Fd : List D → List D → Re (D × List D)} {ta : TA} {fa : M (List Rv)} (ha : Da c E ta fa) (hK : c'.K = c.K := by rfl) (hm0 : c'.mg = c.mg := by rfl) (hX : c'.X = c.X := by rfl) : Dn c E (tCall (spS c' Fd) [] E ta) (callS Fd fa) := by
  intro F ms hs g σ H Q Y h
  unfold callS at h
  refine ha F ms hs g σ H _ Y ?_
  cases e1 : fa g with
  | no => rw [e1] at h; exact h
  | ex _ => rw [e1] at h; exact h
  | ok p =>
    obtain ⟨rs, g1⟩ := p
    simp only [e1, Re.ok_bind] at h
    intro v1 H1 Y1 S1 o1
    match rs, o1, h with
    | [], _, h => exact h.elim
    | .da _ :: _, _, h => exact h.elim
    | .fl _ :: _, _, h => exact h.elim
    | .bl i :: rs', .cons (v := v) (vs := ws) q1 q2, h =>
      dsimp only at h
      cases q3 : rawL g1 rs' with
      | none => rw [q3] at h; exact False.elim h
      | some xs =>
        simp only [q3, ofO_some, Re.ok_bind] at h
        cases q5 : g1[i]? with
        | none => rw [q5] at h; exact False.elim h
        | some γ =>
          cases γ with
          | un => rw [q5] at h; exact False.elim h
          | da _ => rw [q5] at h; exact False.elim h
          | ml own ds0 =>
            simp only [q5] at h
            obtain ⟨a, vs0, z1, m, o1', o2', ha0, r0⟩ := Y1.sl i _ q5
            have z0 : σ[i]? = some (some v) := q1
            rw [z0] at z1
            cases z1
            rw [List.append_nil]
            refine ⟨hs, a, vs0, ds0, ws, xs, rfl, Y1.mh a m, Y1.tr, ha0, r0.cast hK hm0 hX, (RvLs.raw q2 q3).cast hK hm0 hX, ?_⟩
            cases q4 : Fd ds0 xs with
            | no => rw [q4] at h; exact h
            | ex e =>
              rw [q4] at h
              refine fun u H' hm sm => h u H' (hm0 ▸ hm) fun b o hb hp => ?_
              by_cases hba : b = a
              · subst hba
                cases own with
                | true => rw [o1' rfl] at hb; cases hb
                | false => exact absurd (o2' rfl) hp
              · exact sm _ _ (Y1.fr b o hb hp) hba
            | ok pr =>
              obtain ⟨d, ds1⟩ := pr
              simp only [q4, Re.ok_bind, Re.pure_eq] at h
              intro v H' vs1 fr ha1 r1 rd
              replace r1 := r1.cast hK.symm hm0.symm hX.symm
              replace rd := rd.cast hK.symm hm0.symm hX.symm
              have Sx : Sm ms hs H1 H' := by
                constructor
                · intro b o q
                  by_cases hb : b ∈ hs
                  · rw [hid_in hb] at q; cases q
                  · rw [hid_out hb] at q ⊢
                    exact fr _ _ q fun z => hb (by subst z; exact Y1.mh _ m)
                · exact fun b o q n => fr _ _ q fun z => n (by subst z; exact m)
              refine h v H' ?_ (S1.trans Sx) rd
              have Y2 := Y1.write q5 z0 (vs' := vs0) (ds' := ds0) r0
              refine ⟨by rw [List.length_set]; exact Y1.len, fun j γ hj => ?_, fun j k oj dj ok dk b hj hk e1 e2 => ?_, fun b o hb hp => ?_, fun b hb q => ?_, Y1.sub, Y1.pc, Y1.oc, Y1.mh, fun t ht => ⟨(Y1.tab t ht).1, tab_but (Y1.tab t ht).2 ha0 fr⟩⟩
              · by_cases e : i = j
                · subst e
                  rw [List.getElem?_set_self (List.getElem?_eq_some_iff.mp q5).1] at hj
                  cases hj
                  exact ⟨a, vs1, z0, m, o1', o2', ha1, r1⟩
                · rw [List.getElem?_set_ne e] at hj
                  have q := Y1.sl j γ hj
                  cases γ with
                  | un => exact True.intro
                  | da d => obtain ⟨v, e1, x⟩ := q; exact ⟨v, e1, x.same Sx.s⟩
                  | ml oj dj =>
                    obtain ⟨b, ws, e1, m', p1, p2, hb, x⟩ := q
                    have hne : b ≠ a := fun z => e (Y1.dis i j own ds0 oj dj a q5 hj z0 (z ▸ e1))
                    exact ⟨b, ws, e1, m', p1, p2, fr _ _ hb hne, x.same Sx.s⟩
              · have back : ∀ {j : Nat} {oj : Bool} {dj : List D}, (g1.set i (.ml own ds1))[j]? = some (.ml oj dj) → ∃ o d, g1[j]? = some (.ml o d) := fun {j oj dj} hj => by
                  by_cases e : i = j
                  · subst e; exact ⟨_, _, q5⟩
                  · rw [List.getElem?_set_ne e] at hj; exact ⟨_, _, hj⟩
                obtain ⟨_, _, q1⟩ := back hj
                obtain ⟨_, _, q2⟩ := back hk
                exact Y1.dis _ _ _ _ _ _ b q1 q2 e1 e2
              · by_cases e : b = a
                · subst e
                  cases own with
                  | true => rw [o1' rfl] at hb; cases hb
                  | false => exact absurd (o2' rfl) hp
                · exact fr _ _ (Y1.fr b o hb hp) e
              · by_cases e : b = a
                · subst e; rw [ha1] at q; cases q
                · cases z : H1 b with
                  | none => exact Y1.tr b hb z
                  | some o => rw [fr _ _ z e] at q; cases q
end

/-! ### defs -/
def runP (n m : Nat) (fb : G → SR) (ds : List D) : Re Rv :=
  if ds.length = n then (match fb (ds.map .da ++ List.replicate (m - n) .un) with
    | .nx _ => .ok (.da .none)
    | .rt r _ => .ok r
    | .ex e => .ex e
    | _ => .no) else .no
def runS (n m : Nat) (fb : G → SR) (ds0 : List D) (ds : List D) : Re (D × List D) :=
  if ds.length + 1 = n then (match fb (.ml false ds0 :: (ds.map .da ++ List.replicate (m - n) .un)) with
    | .nx (.ml false ds1 :: _) => .ok (.none, ds1)
    | .rt r (.ml false ds1 :: _) => (match rawOf r with
      | some d => .ok (d, ds1)
      | none => .no)
    | .ex e => .ex e
    | _ => .no) else .no
section
variable {P : Program} {w : World} {K : PySem.W.Frag} {mg : Str → Option Value} {base : Heap}
theorem rp_slots {c : CT} {H : Hp} {F : Fx} {ms hs : List Addr} : ∀ {vs : List V} {ds : List D} {k : Nat}, RpL c (hid hs H) vs ds → ∀ (i : Nat) (γ : Sl), (ds.map Sl.da ++ List.replicate k .un)[i]? = some γ → SlOk c F ms hs H (vs.map some ++ List.replicate k none)[i]? γ
  | _, _, k, .nil, i, γ, h => by
    simp only [List.map_nil, List.nil_append] at h ⊢
    have : γ = .un := by
      rw [List.getElem?_replicate] at h
      split at h
      · cases h; rfl
      · cases h
    subst this
    exact True.intro
  | _, _, k, .cons r rs, 0, γ, h => by
    cases h
    exact ⟨_, rfl, r⟩
  | _, _, k, .cons r rs, i + 1, γ, h => rp_slots rs i γ (by simpa using h)
theorem okP {x qual : Str} {st : Stmt} {f : Addr} {fd : FuncData} {N ps : List Str} {k : Nat} {fb : G → SR} (F : Fun K x qual st f fd) (S : FnScope N ps (defScope st))
    (hbody : ∀ (cdv : Value) (A : Around) (outer : List Env) (s : Shared) (H : Hp) (E : XK), Room k (A.deeper (envOfC qual (defScope st) s.heap.objs.size f cdv)) →
      ∃ t, PSs (cxOf (L2.CX P w) P w K mg base N qual (defScope st) f cdv A outer s H E) (defBody st) t ∧ Sn ⟨P, w, K, mg, [], none⟩ E t fb) :
    FnOk P w K mg base (L2.CX P w) (k + 1) f fd ps (spP ⟨P, w, K, mg, [], none⟩ (runP ps.length N.length fb)) := by
  have len : ∀ vs H Q E, spP ⟨P, w, K, mg, [], none⟩ (runP ps.length N.length fb) vs H Q E → vs.length = ps.length := fun vs H Q E ⟨hc, ds, _, r, h⟩ => by
    rw [r.length]
    unfold runP at h
    split at h
    next r e =>
      split at e
      next hl => exact hl
      next => cases e
    next e h' =>
      split at h'
      next hl => exact hl
      next => cases h'
    next => exact h.elim
  refine F.okX S len fun cdv A outer s H vs Q E hr h => ?_
  obtain ⟨t, h1, h2⟩ := hbody cdv A outer s H E hr
  refine ⟨t, h1, ?_⟩
  have hl := len _ _ _ _ h
  obtain ⟨hc, ds, tr, r, h⟩ := h
  have hds : ds.length = ps.length := by rw [← r.length]; exact hl
  have hpn : ps.length ≤ N.length := by have := congrArg List.length S.pre; rw [List.length_take] at this; omega
  unfold runP at h
  rw [if_pos hds] at h
  refine h2 ⟨H, [], hc⟩ [] hc (ds.map .da ++ List.replicate (N.length - ps.length) .un) (L2.start N vs) H _ ?_ ?_
  · refine ⟨?_, fun i γ hi => ?_, fun i j oi di oj dj a hi => ?_, fun b o hb _ => hb, tr, fun a ha => ha, fun a ha => absurd ha (by simp), tr, fun a ha => absurd ha (by simp), fun p hp => absurd hp (by simp)⟩
    · unfold L2.start
      simp only [List.length_append, List.length_map, List.length_replicate]
      omega
    · unfold L2.start
      rw [hl]
      exact rp_slots r i γ hi
    · exfalso
      have : ∀ {ds : List D} {k : Nat} {i : Nat}, (ds.map Sl.da ++ List.replicate k .un)[i]? ≠ some (.ml oi di) := by
        intro ds
        induction ds with
        | nil =>
          intro k i z
          simp only [List.map_nil, List.nil_append] at z
          rw [List.getElem?_replicate] at z
          split at z <;> cases z
        | cons d ds ih =>
          intro k i z
          cases i with
          | zero => cases z
          | succ i => exact ih (by simpa using z)
      exact this hi
  · cases e : fb (ds.map .da ++ List.replicate (N.length - ps.length) .un) with
    | nx g =>
      rw [e] at h
      exact fun ms' hs' σ' H' Y' S' => h .non H' (fun b o hb => Y'.fr b o hb (by simp)) .non
    | rt r g =>
      rw [e] at h
      intro ms' hs' σ' v H' Y' S' o'
      refine h v H' (fun b o hb => Y'.fr b o hb (by simp)) ?_
      cases r with
      | da d => exact Rp.same (hid_sub Y'.sub) o'
      | fl ds =>
        obtain ⟨a, us, e1, n, q1, q2⟩ := o'
        exact ⟨a, us, e1, n, q1, q2.same (hid_sub fun b hb => by
          rcases List.mem_cons.mp hb with rfl | hb
          · exact List.mem_cons_self
          · exact List.mem_cons_of_mem _ (Y'.sub b hb))⟩
      | bl i => exact o'.elim
    | ex e' =>
      rw [e] at h
      exact fun u H' hm hf => h u H' hm fun b o hb => hf b o hb (by simp)
    | bk g => rw [e] at h; exact h.elim
    | ct g => rw [e] at h; exact h.elim
    | no => rw [e] at h; exact h.elim
theorem no_ml {oi : Bool} {di : List D} : ∀ {ds : List D} {k i : Nat}, (ds.map Sl.da ++ List.replicate k .un)[i]? ≠ some (.ml oi di)
  | [], k, i, z => by
    simp only [List.map_nil, List.nil_append] at z
    rw [List.getElem?_replicate] at z
    split at z <;> cases z
  | d :: ds, k, 0, z => by cases z
  | d :: ds, k, i + 1, z => no_ml (ds := ds) (k := k) (i := i) (by simpa using z)
theorem okS {x qual : Str} {st : Stmt} {f : Addr} {fd : FuncData} {N ps : List Str} {k : Nat} {fb : G → SR} (F : Fun K x qual st f fd) (S : FnScope N ps (defScope st))
    (hbody : ∀ (cdv : Value) (A : Around) (outer : List Env) (s : Shared) (H : Hp) (E : XK), Room k (A.deeper (envOfC qual (defScope st) s.heap.objs.size f cdv)) →
      ∃ t, PSs (cxOf (L2.CX P w) P w K mg base N qual (defScope st) f cdv A outer s H E) (defBody st) t ∧ Sn ⟨P, w, K, mg, [], none⟩ E t fb) :
    FnOk P w K mg base (L2.CX P w) (k + 1) f fd ps (spS ⟨P, w, K, mg, [], none⟩ (runS ps.length N.length fb)) := by
  have len : ∀ vs H Q E, spS ⟨P, w, K, mg, [], none⟩ (runS ps.length N.length fb) vs H Q E → vs.length = ps.length := fun vs H Q E ⟨hc, a, vs0, ds0, ws, ds, e0, _, _, _, _, r, h⟩ => by
    subst e0
    rw [List.length_cons, r.length]
    unfold runS at h
    split at h
    next d ds1 e =>
      split at e
      next hl => exact hl
      next => cases e
    next e h' =>
      split at h'
      next hl => exact hl
      next => cases h'
    next => exact h.elim
  refine F.okX S len fun cdv A outer s H vs Q E hr h => ?_
  obtain ⟨t, h1, h2⟩ := hbody cdv A outer s H E hr
  refine ⟨t, h1, ?_⟩
  have hl := len _ _ _ _ h
  obtain ⟨hc, a, vs0, ds0, ws, ds, rfl, ha, tr, h0, r0, r, h⟩ := h
  have hds : ds.length + 1 = ps.length := by rw [← r.length]; exact hl
  have hpn : ps.length ≤ N.length := by have := congrArg List.length S.pre; rw [List.length_take] at this; omega
  unfold runS at h
  rw [if_pos hds] at h
  have st0 : L2.start N (V.ref a :: ws) = some (V.ref a) :: (ws.map some ++ List.replicate (N.length - ps.length) none) := by
    unfold L2.start
    rw [hl]
    rfl
  refine h2 ⟨H, [a], hc⟩ [a] hc (.ml false ds0 :: (ds.map .da ++ List.replicate (N.length - ps.length) .un)) (L2.start N (V.ref a :: ws)) H _ ?_ ?_
  · refine ⟨?_, fun i γ hi => ?_, fun i j oi di oj dj b hi hj _ _ => ?_, fun b o hb _ => hb, tr, fun a ha => ha, fun b hb => ?_, tr, fun b hb => ?_, fun p hp => absurd hp (by simp)⟩
    · rw [st0]
      simp only [List.length_append, List.length_map, List.length_replicate, List.length_cons]
      have := r.length
      omega
    · rw [st0]
      cases i with
      | zero =>
        cases hi
        exact ⟨a, vs0, rfl, List.mem_singleton.mpr rfl, (fun z => nomatch z), fun _ => List.mem_singleton.mpr rfl, h0, r0⟩
      | succ i => exact rp_slots r i γ (by simpa using hi)
    · cases i with
      | zero =>
        cases j with
        | zero => rfl
        | succ j => exact absurd (show (ds.map Sl.da ++ List.replicate (N.length - ps.length) .un)[j]? = _ by simpa using hj) no_ml
      | succ i => exact absurd (show (ds.map Sl.da ++ List.replicate (N.length - ps.length) .un)[i]? = _ by simpa using hi) no_ml
    · rw [List.mem_singleton.mp hb]; exact ha
    · rw [List.mem_singleton.mp hb]; exact ha
  · -- the ends
    have fin : ∀ {ms' hs' : List Addr} {ds1 : List D} {g : G} {σ' : L2.St} {H' : Hp}, Rel ⟨P, w, K, mg, [], none⟩ ⟨H, [a], hc⟩ ms' hs' (.ml false ds1 :: g) σ' H' →
        (∀ b o, H b = some o → b ≠ a → H' b = some o) ∧ ∃ vs1, H' a = some (.lst vs1) ∧ RpL ⟨P, w, K, mg, [], none⟩ (hid hc H') vs1 ds1 := fun {ms' hs' ds1 g σ' H'} Y' => by
      refine ⟨fun b o hb n => Y'.fr b o hb (by simpa using n), ?_⟩
      obtain ⟨b, vs1, _, _, _, z2, z3, z4⟩ := Y'.sl 0 _ rfl
      have e : b = a := List.mem_singleton.mp (z2 rfl)
      subst e
      exact ⟨vs1, z3, z4.same (hid_sub Y'.sub)⟩
    cases e : fb (.ml false ds0 :: (ds.map .da ++ List.replicate (N.length - ps.length) .un)) with
    | nx g =>
      rw [e] at h
      match g, h with
      | .ml false ds1 :: g, h =>
        intro ms' hs' σ' H' Y' S'
        obtain ⟨q1, vs1, q2, q3⟩ := fin Y'
        exact h .non H' vs1 q1 q2 q3 .non
      | [], h => exact h.elim
      | .un :: _, h => exact h.elim
      | .da _ :: _, h => exact h.elim
      | .ml true _ :: _, h => exact h.elim
    | rt r g =>
      rw [e] at h
      match g, h with
      | .ml false ds1 :: g, h =>
        intro ms' hs' σ' v H' Y' S' o'
        obtain ⟨q1, vs1, q2, q3⟩ := fin Y'
        dsimp only at h
        cases e2 : rawOf r with
        | none => rw [e2] at h; exact h.elim
        | some d =>
          rw [e2] at h
          refine h v H' vs1 q1 q2 q3 ?_
          cases r with
          | da d' => cases e2; exact Rp.same (hid_sub Y'.sub) o'
          | fl es =>
            cases e2
            obtain ⟨b, us, rfl, n, p1, p2⟩ := o'
            exact .lst (.inl (by rw [hid_out (show b ∉ hc from fun z => tr b z n)]; exact p1)) (p2.same (hid_sub fun x hx => List.mem_cons_of_mem _ (Y'.sub x hx)))
          | bl i => cases e2
      | [], h => exact h.elim
      | .un :: _, h => exact h.elim
      | .da _ :: _, h => exact h.elim
      | .ml true _ :: _, h => exact h.elim
    | ex e' =>
      rw [e] at h
      exact fun u H' hm hf => h u H' hm fun b o hb n => hf b o hb (by simpa using n)
    | bk g => rw [e] at h; exact h.elim
    | ct g => rw [e] at h; exact h.elim
    | no => rw [e] at h; exact h.elim
/-- a promise of another function that says the same -/
theorem spP_of {c : CT} {CX : CXT} {k : Nat} {f : Addr} {fd : FuncData} {ps : List Str} {F1 F2 : List D → Re Rv} (h : FnOk P w K mg base CX k f fd ps (spP c F1)) (e : ∀ ds, F2 ds ≠ .no → F1 ds = F2 ds) : FnOk P w K mg base CX k f fd ps (spP c F2) :=
  h.imp fun vs H Q E ⟨hc, ds, q1, q2, q3⟩ => ⟨hc, ds, q1, q2, by
    rw [e ds (fun z => by rw [z] at q3; exact q3)]
    exact q3⟩
theorem spS_of {c : CT} {CX : CXT} {k : Nat} {f : Addr} {fd : FuncData} {ps : List Str} {F1 F2 : List D → List D → Re (D × List D)} (h : FnOk P w K mg base CX k f fd ps (spS c F1)) (e : ∀ ds0 ds, F2 ds0 ds ≠ .no → F1 ds0 ds = F2 ds0 ds) : FnOk P w K mg base CX k f fd ps (spS c F2) :=
  h.imp fun vs H Q E ⟨hc, a, vs0, ds0, ws, ds, q1, q2, q3, q4, q5, q6, q7⟩ => ⟨hc, a, vs0, ds0, ws, ds, q1, q2, q3, q4, q5, q6, by
    rw [e ds0 ds (fun z => by rw [z] at q7; exact q7)]
    exact q7⟩
/-- how a callee's exception goes on -/
theorem pass_on {X : Cx} {E : XK} (tk : Takes X (fun cls d _ H => E cls d H)) : Passes (L2.CX X.prog X.w) X E := passes_call tk fun _ _ _ _ h => h
end
end GD

/-! GD9: the end of a law. -/
namespace GD
open PySem PySem.Spec PyProof.Rows L2
/-! the rules, with the written part by its name (in a comprehension's block the context is another, the written part is the same) -/
section
variable {X : Cx} {K : PySem.W.Frag}
theorem k_add (h : X.K = K := by rfl) : OpR X (binaryOp .Add) (rAddG K) := h ▸ g_add
theorem k_mul (h : X.K = K := by rfl) : OpR X (binaryOp .Mult) (rMulG K) := h ▸ g_mul
theorem k_eq (hu : X.A.units + 64 < cLine) (h : X.K = K := by rfl) : OpR X (compareOp .Eq) (rEqD K) := h ▸ op_eqD hu
theorem k_ne (hu : X.A.units + 64 < cLine) (h : X.K = K := by rfl) : OpR X (compareOp .NotEq) (rNeD K) := h ▸ op_neD hu
theorem k_in (hu : X.A.units + 65 < cLine) (h : X.K = K := by rfl) : OpR X (compareOp .In) (rInD K) := h ▸ op_inD hu
theorem k_notin (hu : X.A.units + 65 < cLine) (h : X.K = K := by rfl) : OpR X (compareOp .NotIn) (rNotInD K) := h ▸ op_notInD hu
theorem k_sl (h : X.K = K := by rfl) : SlR X (rSlG K) := h ▸ g_sl
theorem k_ix (h : X.K = K := by rfl) : IxR X (rIx K) := h ▸ ix_seq
theorem k_len (h : X.K = K := by rfl) : CallR X (.builtin "len") (rLenG K) := h ▸ g_len
theorem k_max (hc : X.calm = true) (h : X.K = K := by rfl) : CallR X (.builtin "max") (rMaxG K) := h ▸ g_max hc
theorem k_min (hc : X.calm = true) (h : X.K = K := by rfl) : CallR X (.builtin "min") (rMinG K) := h ▸ g_min hc
theorem k_sum (hc : X.calm = true) (h : X.K = K := by rfl) : CallR X (.builtin "sum") (rSumG K) := h ▸ g_sum hc
theorem k_all (hc : X.calm = true) (h : X.K = K := by rfl) : CallR X (.builtin "all") (rAll K) := h ▸ cr_all hc
theorem k_any (hc : X.calm = true) (h : X.K = K := by rfl) : CallR X (.builtin "any") (rAny K) := h ▸ cr_any hc
theorem k_tuple (h : X.K = K := by rfl) : CallR X (.type "tuple") (rTupOf K) := h ▸ g_tuple
theorem k_list (h : X.K = K := by rfl) : CallR X (.type "list") (rLstOf K) := h ▸ g_list
theorem k_isi (h : X.K = K := by rfl) : CallR X (.builtin "isinstance") (rIsi K) := h ▸ call_isi
theorem kpi_any {tg l : Expr} {tl : TE} (hl : PE X l tl) (h : X.K = K := by rfl) : PI X tg l (iAny K tl) := h ▸ pi_any hl
theorem kpi_zip {e e2 : Expr} {ta : TA} {p pos tpos : Pos} {elts : List Expr} {kk : Nat} (hg : Gl X "zip") (hm : X.mg "zip" = none) (ha : PA X [e, e2] ta) (h : X.K = K := by rfl)
    (hs : starEach [e, e2] X.env = (false, eval e X.env) :: starEach [e2] X.env := by rfl) (hpl : (backTo pos (starEach [e2] X.env)).any (·.1) = false := by rfl) :
    PI X (.Tuple elts kk tpos) (.Call (.Name "zip" p) [e, e2] [] pos) (RZ.iZipA K ta) := h ▸ RZ.pi_zipA hg hm ha hs hpl
theorem kpg_tup {pos : Pos} {es : List Expr} {k : Nat} {t : TGs} {n : Nat} (hc : X.calm = true) (h : PGs X es t) (hK : X.K = K := by rfl)
    (hn : (assignEach es X.env).length = n := by rfl) (hst : (assignEach es X.env).findIdx? (·.1) = none := by rfl) : PG X (.Tuple es k pos) (gTup K n t) := hK ▸ pg_tup hc h hn hst
end
theorem hu65 {k : Nat} {A : Around} (r : Room k A) : A.units + 65 < cLine := by have := r.un; omega
/-- the law's script -/
def scrD (ns : List Int) : D := .dict [(.none, .list (ns.map .int))]
/-- the law hands back True -/
def spLaw (K : PySem.W.Frag) : Sp := fun vs H Q _ => ∃ (a : Addr) (ns : List Int), vs = [.ref a] ∧ SqL K H a (ns.map V.int) ∧ ns.length ≤ 63 ∧ ∀ H', Q (.bl true) H'
theorem hid_nil {H : Hp} : hid [] H = H := by
  funext a
  exact hid_out (by simp)
theorem rpl_ints {c : CT} {H : Hp} : ∀ ns : List Int, RpL c H (ns.map V.int) (ns.map PyData.int)
  | [] => .nil
  | n :: ns => .cons (.int n) (rpl_ints ns)
theorem law_imp {P : Program} {w : World} {K : PySem.W.Frag} {mg : Str → Option Value} {base : Heap} {CX : CXT} {k : Nat} {f : Addr} {fd : FuncData} {ps : List Str} {m : List D → Re Rv}
    (h : FnOk P w K mg base CX k f fd ps (spP ⟨P, w, K, mg, [], none⟩ m)) (t : ∀ ns : List Int, ns.length ≤ 63 → m [scrD ns] = .ok (.da (.bool true))) : FnOk P w K mg base CX k f fd ps (spLaw K) :=
  h.imp fun vs H Q E ⟨a, ns, e, hS, hl, q⟩ => by
    subst e
    refine ⟨[], [scrD ns], fun a ha => absurd ha (by simp), .cons (.scr (by rw [hid_nil]; exact hS) (rpl_ints ns)) .nil, ?_⟩
    rw [t ns hl]
    intro v H' _ o
    cases (show Rp _ _ v (.bool true) from o).blInv
    exact q H'
theorem cx_none {P : Program} {w : World} {H : Hp} {s : Shared} {e : Value} {s' : Shared} (h : L2.CX P w [] H s (fun _ _ _ => False) e s') : False := by
  obtain ⟨_, _, _, _, _, _, _, _, _, _, _, _, z⟩ := h
  exact z
end GD

/-! GDM: data, fractions: plain facts. -/
namespace GD
open PySem L2

/-! ### data -/
def tupI (ns : List Int) : D := .tuple (ns.map .int)
def frD (q : Rat) : D := .tuple [.int q.num, .int q.den]

@[simp] theorem shaped_int (i : Int) : SeqAt.shaped (.int i) = true := rfl
@[simp] theorem shaped_bool (b : Bool) : SeqAt.shaped (.bool b) = true := rfl
@[simp] theorem shaped_none : SeqAt.shaped .none = true := rfl
@[simp] theorem eqv_int (i j : Int) : PyData.eqv (.int i) (.int j) = (i == j) := by simp [PyData.eqv]
@[simp] theorem eqv_bool (i j : Bool) : PyData.eqv (.bool i) (.bool j) = (i == j) := by simp [PyData.eqv]
@[simp] theorem eqv_none : PyData.eqv .none .none = true := by simp [PyData.eqv]
theorem canLay_ints : ∀ ns : List Int, PyData.canLayAll0 (ns.map .int) = true
  | [] => rfl
  | n :: ns => by simp [PyData.canLayAll0, PyData.canLay0, canLay_ints ns]
theorem depth_ints : ∀ ns : List Int, PyData.depthAll (ns.map .int) ≤ 1
  | [] => by simp [PyData.depthAll]
  | n :: ns => by
    have := depth_ints ns
    simp only [List.map_cons, PyData.depthAll, PyData.depth]
    exact Nat.max_le.mpr ⟨by decide, this⟩
@[simp] theorem shaped_tupI (ns : List Int) : SeqAt.shaped (tupI ns) = true := by
  have := depth_ints ns
  unfold SeqAt.shaped tupI
  simp only [PyData.canLay0, canLay_ints, Bool.true_and, decide_eq_true_eq]
  show PyData.depthAll (ns.map .int) + 1 ≤ 64
  omega
@[simp] theorem shaped_frD (q : Rat) : SeqAt.shaped (frD q) = true := by
  have := shaped_tupI [q.num, q.den]
  exact this
theorem eqvAll_ints : ∀ ns ms : List Int, PyData.eqvAll (ns.map .int) (ms.map .int) = decide (ns = ms)
  | [], [] => by simp [PyData.eqvAll]
  | [], _ :: _ => by simp [PyData.eqvAll]
  | _ :: _, [] => by simp [PyData.eqvAll]
  | n :: ns, m :: ms => by
    simp only [List.map_cons, PyData.eqvAll, eqv_int, eqvAll_ints ns ms]
    by_cases h : n = m <;> simp [h]
@[simp] theorem eqv_tupI (ns ms : List Int) : PyData.eqv (tupI ns) (tupI ms) = decide (ns = ms) := by
  unfold tupI
  simp only [PyData.eqv, eqvAll_ints]
@[simp] theorem eqv_frD (p q : Rat) : PyData.eqv (frD p) (frD q) = decide (p = q) := by
  have := eqv_tupI [p.num, p.den] [q.num, q.den]
  rw [show frD p = tupI [p.num, (p.den : Int)] from rfl, show frD q = tupI [q.num, (q.den : Int)] from rfl, this]
  refine decide_eq_decide.mpr ⟨fun h => ?_, fun h => by rw [h]⟩
  injection h with h1 h2
  injection h2 with h2 _
  exact Rat.ext h1 (by omega)
@[simp] theorem eqD_int (i j : Int) : eqD (.int i) (.int j) = some (.da (.bool (i == j))) := by simp [eqD]
@[simp] theorem neD_int (i j : Int) : neD (.int i) (.int j) = some (.da (.bool (!(i == j)))) := by simp [neD]
@[simp] theorem eqD_fr (p q : Rat) : eqD (frD p) (frD q) = some (.da (.bool (decide (p = q)))) := by simp [eqD]
@[simp] theorem neD_fr (p q : Rat) : neD (frD p) (frD q) = some (.da (.bool (!decide (p = q)))) := by simp [neD]
@[simp] theorem eqD_tupI (p q : List Int) : eqD (tupI p) (tupI q) = some (.da (.bool (decide (p = q)))) := by simp [eqD]
@[simp] theorem neD_tupI (p q : List Int) : neD (tupI p) (tupI q) = some (.da (.bool (!decide (p = q)))) := by simp [neD]
theorem frD_zero : frD 0 = .tuple [.int 0, .int 1] := rfl
theorem frD_one : frD 1 = .tuple [.int 1, .int 1] := rfl
theorem intsOf_map : ∀ ns : List Int, intsOf (ns.map .int) = some ns
  | [] => rfl
  | n :: ns => by simp [intsOf, intsOf_map ns]
theorem boolsOf_map : ∀ ns : List Bool, boolsOf (ns.map .bool) = some ns
  | [] => rfl
  | n :: ns => by simp [boolsOf, boolsOf_map ns]
theorem atI_nat' {α : Type} {xs : List α} {j : Nat} {x : α} (h : xs[j]? = some x) : L2.atI xs (j : Int) = some x := by
  unfold L2.atI L2.ixN
  have hl := (List.getElem?_eq_some_iff.mp h).1
  rw [if_pos (by omega), if_pos (by omega)]
  simpa using h

theorem at0 {α : Type} (x : α) (xs : List α) : L2.atI (x :: xs) 0 = some x := atI_nat' (j := 0) rfl
theorem at1 {α : Type} (x y : α) (xs : List α) : L2.atI (x :: y :: xs) 1 = some y := atI_nat' (j := 1) rfl
theorem at2 {α : Type} (x y z : α) (xs : List α) : L2.atI (x :: y :: z :: xs) 2 = some z := atI_nat' (j := 2) rfl
theorem at3 {α : Type} (x y z w : α) (xs : List α) : L2.atI (x :: y :: z :: w :: xs) 3 = some w := atI_nat' (j := 3) rfl
theorem fdivD_int {i j : Int} (h : 0 < j) (h2 : j.natAbs.log2 < 9000) : fdivD (.int i) (.int j) = some (.da (.int (i / j))) := if_pos ⟨h, h2⟩
theorem modD_int {i j : Int} (h : 0 < j) : modD (.int i) (.int j) = some (.da (.int (i % j))) := by
  show (if j = 0 then none else some (Rv.da (.int (i.fmod j)))) = _
  rw [if_neg (by omega), Int.fmod_eq_emod_of_nonneg _ (by omega)]
theorem mulD_int {i j : Int} (h : bigI i = false) (h2 : bigI j = false) : mulD (.int i) (.int j) = some (.da (.int (i * j))) := by
  show (if bigI i || bigI j then none else some (Rv.da (.int (i * j)))) = _
  rw [h, h2]
  rfl
theorem ixD_tup {xs : List D} {i : Int} : ixD (.tuple xs) (.int i) = (L2.atI xs i).map .da := rfl
theorem ixD_lst {xs : List D} {i : Int} : ixD (.list xs) (.int i) = (L2.atI xs i).map .da := rfl
theorem ixD_tupI {ns : List Int} {j : Nat} {x : Int} (h : ns[j]? = some x) : ixD (tupI ns) (.int j) = some (.da (.int x)) := by
  unfold tupI
  rw [ixD_tup, atI_nat' (x := PyData.int x) (by rw [List.getElem?_map, h]; rfl)]
  rfl

/-! ### sizes -/
theorem log2_lt' {n k : Nat} (h : n < 2 ^ k) (hk : 0 < k) : n.log2 < k := by
  by_cases h0 : n = 0
  · subst h0; simpa using hk
  · exact (Nat.log2_lt h0).mpr h
theorem bigI_of {i : Int} {k : Nat} (h : i.natAbs < 2 ^ k) (hk : k ≤ 400000) (h0 : 0 < k) : bigI i = false := by
  unfold bigI
  have := log2_lt' h h0
  exact decide_eq_false (by omega)
theorem bigI_small {i : Int} (h1 : -(2 ^ 64) < i) (h2 : i < 2 ^ 64) : bigI i = false := bigI_of (k := 64) (by omega) (by decide) (by decide)
/-- a fraction below 2 ^ k -/
structure Sm' (k : Nat) (q : Rat) : Prop where
  num : q.num.natAbs < 2 ^ k
  den : q.den < 2 ^ k
theorem mkRat_nd (a : Int) {d : Nat} (h : d ≠ 0) : (mkRat a d).num = a / (a.natAbs.gcd d : Nat) ∧ (mkRat a d).den = d / a.natAbs.gcd d := by
  rw [← Rat.normalize_eq_mkRat h, Rat.normalize_eq h]
  exact ⟨rfl, rfl⟩
theorem natAbs_ediv_le (a : Int) (n : Nat) : (a / (n : Int)).natAbs ≤ a.natAbs + 1 := by
  by_cases h : n = 0
  · subst h; simp
  · have hn : (0 : Int) < n := by omega
    have h1 := Int.ediv_mul_le a (b := n) (by omega)
    have h2 := Int.lt_ediv_add_one_mul_self a hn
    by_cases ha : 0 ≤ a
    · have := Int.ediv_le_self (n : Int) ha
      have := Int.ediv_nonneg ha (by omega : (0:Int) ≤ n)
      omega
    · have h3 : a / (n : Int) < 0 := Int.ediv_neg_of_neg_of_pos (by omega) hn
      have h4 : a ≤ a / (n : Int) := by
        have : (a / (n : Int)) * n ≤ a / (n : Int) := by
          have := Int.mul_le_mul_of_nonpos_left (a := a / (n : Int)) (b := (n : Int)) (c := 1) (by omega) (by omega)
          simpa using this
        have h5 : a < (a / (n : Int) + 1) * n := h2
        have h6 : (a / (n : Int) + 1) * n ≤ a / (n : Int) + 1 := by
          have := Int.mul_le_mul_of_nonpos_left (a := a / (n : Int) + 1) (b := (n : Int)) (c := 1) (by omega) (by omega)
          simpa using this
        omega
      omega
theorem mkRat_num_le (a : Int) {d : Nat} (h : d ≠ 0) : (mkRat a d).num.natAbs ≤ a.natAbs := by
  rw [(mkRat_nd a h).1]
  have hd : ((a.natAbs.gcd d : Nat) : Int) ∣ a := Int.ofNat_dvd_left.mpr (Nat.gcd_dvd_left _ _)
  rw [Int.natAbs_ediv_of_dvd hd]
  exact Nat.div_le_self _ _
theorem mkRat_den_le (a : Int) {d : Nat} (h : d ≠ 0) : (mkRat a d).den ≤ d := by
  rw [(mkRat_nd a h).2]
  exact Nat.div_le_self _ _
theorem Sm'.of {k : Nat} {a : Int} {d : Nat} (h : d ≠ 0) (h1 : a.natAbs < 2 ^ k) (h2 : d < 2 ^ k) : Sm' k (mkRat a d) := ⟨Nat.lt_of_le_of_lt (mkRat_num_le a h) h1, Nat.lt_of_le_of_lt (mkRat_den_le a h) h2⟩
theorem Sm'.mono {k l : Nat} {q : Rat} (h : Sm' k q) (e : k ≤ l) : Sm' l q := ⟨Nat.lt_of_lt_of_le h.num (Nat.pow_le_pow_right (by decide) e), Nat.lt_of_lt_of_le h.den (Nat.pow_le_pow_right (by decide) e)⟩
theorem mul_lt_pow {a b k l : Nat} (h1 : a < 2 ^ k) (h2 : b < 2 ^ l) : a * b < 2 ^ (k + l) := by
  rw [Nat.pow_add]
  exact Nat.mul_lt_mul'' h1 h2
theorem Sm'.mul {k l : Nat} {p q : Rat} (hp : Sm' k p) (hq : Sm' l q) : Sm' (k + l) (p * q) := by
  rw [Rat.mul_def']
  refine Sm'.of (Nat.mul_ne_zero p.den_nz q.den_nz) ?_ (mul_lt_pow hp.den hq.den)
  rw [Int.natAbs_mul]
  exact mul_lt_pow hp.num hq.num
theorem Sm'.add {k l : Nat} {p q : Rat} (hp : Sm' k p) (hq : Sm' l q) : Sm' (k + l + 1) (p + q) := by
  rw [Rat.add_def']
  refine Sm'.of (Nat.mul_ne_zero p.den_nz q.den_nz) ?_ ?_
  · have h1 := mul_lt_pow hp.num hq.den
    have h2 := mul_lt_pow hq.num hp.den
    have h3 : (p.num * q.den + q.num * p.den : Int).natAbs ≤ p.num.natAbs * q.den + q.num.natAbs * p.den := by
      refine Nat.le_trans (Int.natAbs_add_le _ _) ?_
      rw [Int.natAbs_mul, Int.natAbs_mul]
      simp
    rw [Nat.add_comm l k] at h2
    rw [Nat.pow_succ]
    omega
  · have := mul_lt_pow hp.den hq.den
    rw [Nat.pow_succ]
    omega
theorem Sm'.zero : Sm' 1 0 := ⟨by decide, by decide⟩
theorem Sm'.one : Sm' 1 1 := ⟨by decide, by decide⟩
theorem gcd_fmod (a b : Int) : Nat.gcd b.natAbs (a.fmod b).natAbs = Nat.gcd a.natAbs b.natAbs := by
  have h1 : Int.gcd b (a.fmod b) = Int.gcd a b := by
    rw [Int.fmod_def, Int.gcd_sub_mul_left_right, Int.gcd_comm]
  exact h1
theorem fmod_natAbs_lt (a : Int) {b : Int} (h : b ≠ 0) : (a.fmod b).natAbs < b.natAbs := by
  by_cases hb : 0 < b
  · have h1 := Int.fmod_nonneg_of_pos a hb
    have h2 := Int.fmod_lt_of_pos a hb
    omega
  · have h1 := Int.fmod_nonneg_of_pos (-a) (b := -b) (by omega)
    have h2 := Int.fmod_lt_of_pos (-a) (b := -b) (by omega)
    rw [Int.neg_fmod_neg] at h1 h2
    omega
end GD

/-! GDQ: loops and comprehensions over data; urns, rules, draws as plain functions. -/
namespace GD
open PySem L2

theorem nextS_ap (g : G) : nextS g = .nx g := rfl
theorem contS_ap (g : G) : contS g = .ct g := rfl
theorem breakS_ap (g : G) : breakS g = .bk g := rfl
theorem isiE_ap (T : String) (a : M Rv) (g : G) : isiE T a g = op1 (fun d => some (.da (.bool (isiD T d)))) a g := rfl
theorem addD_int (i j : Int) : addD (.int i) (.int j) = some (.da (.int (i + j))) := rfl
theorem addD_tup (xs ys : List D) : addD (.tuple xs) (.tuple ys) = if xs.length + ys.length ≤ 1000000 then some (.da (.tuple (xs ++ ys))) else none := rfl
theorem addD_lst (xs ys : List D) : addD (.list xs) (.list ys) = if xs.length + ys.length ≤ 1000000 then some (.fl (xs ++ ys)) else none := rfl
theorem addD_str (x y : Str) : addD (.str x) (.str y) = if x.length + y.length ≤ 1000000 then some (.da (.str (x ++ y))) else none := rfl
theorem subD_int (i j : Int) : subD (.int i) (.int j) = some (.da (.int (i - j))) := rfl
theorem negD_int (i : Int) : negD (.int i) = some (.da (.int (-i))) := rfl
theorem ltD_int (i j : Int) : ltD (.int i) (.int j) = some (.da (.bool (decide (i < j)))) := rfl
theorem leD_int (i j : Int) : leD (.int i) (.int j) = some (.da (.bool (decide (i ≤ j)))) := rfl
theorem gtD_int (i j : Int) : gtD (.int i) (.int j) = some (.da (.bool (decide (j < i)))) := rfl
theorem geD_int (i j : Int) : geD (.int i) (.int j) = some (.da (.bool (decide (j ≤ i)))) := rfl
theorem isD_none (x : D) : isD x .none = some (.da (.bool (isNoneD x))) := by unfold isD; rfl
theorem isD_bool (a b : Bool) : isD (.bool a) (.bool b) = some (.da (.bool (decide (a = b)))) := rfl
theorem isNotD_none (x : D) : isNotD x .none = some (.da (.bool (!isNoneD x))) := by unfold isNotD; rfl
theorem isNotD_bool (a b : Bool) : isNotD (.bool a) (.bool b) = some (.da (.bool (!decide (a = b)))) := rfl
theorem isNoneD_none  : isNoneD .none = true := rfl
theorem isNoneD_bool (b : Bool) : isNoneD (.bool b) = false := rfl
theorem isNoneD_int (i : Int) : isNoneD (.int i) = false := rfl
theorem isNoneD_str (z : Str) : isNoneD (.str z) = false := rfl
theorem isNoneD_list (xs : List D) : isNoneD (.list xs) = false := rfl
theorem isNoneD_tuple (xs : List D) : isNoneD (.tuple xs) = false := rfl
theorem isNoneD_dict (xs : List (D × D)) : isNoneD (.dict xs) = false := rfl
theorem lenD_lst (xs : List D) : lenD [.list xs] = some (.da (.int xs.length)) := rfl
theorem lenD_tup (xs : List D) : lenD [.tuple xs] = some (.da (.int xs.length)) := rfl
theorem absD_int (i : Int) : absD [.int i] = some (.da (.int (if i < 0 then -i else i))) := rfl
theorem intD_int (i : Int) : intD [.int i] = some (.da (.int i)) := rfl
theorem intD_bool (k : Bool) : intD [.bool k] = some (.da (.int (if k then 1 else 0))) := rfl
theorem tupleD_lst (xs : List D) : tupleD [.list xs] = some (.da (.tuple xs)) := rfl
theorem tupleD_tup (xs : List D) : tupleD [.tuple xs] = some (.da (.tuple xs)) := rfl
theorem listD_lst (xs : List D) : listD [.list xs] = some (.fl xs) := rfl
theorem listD_tup (xs : List D) : listD [.tuple xs] = some (.fl xs) := rfl
theorem itemsOf_lst (xs : List D) : itemsOf (.list xs) = some xs := rfl
theorem itemsOf_tup (xs : List D) : itemsOf (.tuple xs) = some xs := rfl
theorem zipD_lst (xs ys : List D) : zipD [.list xs, .list ys] = some ((xs.zip ys).map fun p => .tuple [p.1, p.2]) := rfl
theorem zipD_tup (xs ys : List D) : zipD [.tuple xs, .tuple ys] = some ((xs.zip ys).map fun p => .tuple [p.1, p.2]) := rfl
theorem maxD_int (i j : Int) : maxD [.int i, .int j] = some (.da (.int (if j > i then j else i))) := rfl
theorem minD_int (i j : Int) : minD [.int i, .int j] = some (.da (.int (if j < i then j else i))) := rfl
theorem slD_tup (xs : List D) (lo hi : Option Int) : slD (.tuple xs) lo hi = some (.da (.tuple (cutD xs lo hi))) := rfl
theorem slD_lst (xs : List D) (lo hi : Option Int) : slD (.list xs) lo hi = some (.fl (cutD xs lo hi)) := rfl
theorem pow_10_18  : powD (.int 10) (.int 18) = some (.da (.int 1000000000000000000)) := rfl
theorem itemsOf_tupI (ns : List Int) : itemsOf (tupI ns) = some (ns.map .int) := rfl
theorem seq_eq {a b : G → SR} {g g1 : G} {r : SR} (h1 : a g = .nx g1) (h2 : b g1 = r) : seqS a b g = r := by
  unfold seqS
  rw [h1]
  exact h2
theorem seq_rt {a b : G → SR} {g g1 : G} {v : Rv} (h1 : a g = .rt v g1) : seqS a b g = .rt v g1 := by
  unfold seqS
  rw [h1]
theorem seq_ct {a b : G → SR} {g g1 : G} (h1 : a g = .ct g1) : seqS a b g = .ct g1 := by
  unfold seqS
  rw [h1]
theorem for_eq {it : M (List D)} {T : Rv → G → Re G} {b : G → SR} {g g1 : G} {ds : List D} {r : SR} (h1 : it g = .ok (ds, g1)) (h2 : forD T b ds g1 = r) : forS it T b g = r := by
  unfold forS
  rw [h1]
  exact h2
theorem run_rt {n m : Nat} {fb : G → SR} {ds : List D} {r : Rv} {g : G} (h : ds.length = n) (h2 : fb (ds.map .da ++ List.replicate (m - n) .un) = .rt r g) : runP n m fb ds = .ok r := by
  unfold runP
  rw [if_pos h, h2]
theorem runS_rt {n m : Nat} {fb : G → SR} {ds0 ds : List D} {d : D} {ds1 : List D} {g : G} (h : ds.length + 1 = n) (h2 : fb (.ml false ds0 :: (ds.map .da ++ List.replicate (m - n) .un)) = .rt (.da d) (.ml false ds1 :: g)) : runS n m fb ds0 ds = .ok (d, ds1) := by
  unfold runS
  rw [if_pos h, h2]
  rfl
/-! ### loops -/
theorem for_inv {T : Rv → G → Re G} {b : G → SR} (I : Nat → G → Prop) : ∀ (ds : List D) (i : Nat) (g : G), I i g →
    (∀ j d g, ds[j]? = some d → I (i + j) g → ∃ g1, T (.da d) g = .ok g1 ∧ ∃ g2, (b g1 = .nx g2 ∨ b g1 = .ct g2) ∧ I (i + j + 1) g2) →
    ∃ g', forD T b ds g = .nx g' ∧ I (i + ds.length) g'
  | [], i, g, h, _ => ⟨g, rfl, h⟩
  | d :: ds, i, g, h, st => by
    obtain ⟨g1, e1, g2, e2, h2⟩ := st 0 d g rfl h
    obtain ⟨g', e3, h3⟩ := for_inv I ds (i + 1) g2 h2 (fun j d' g' hj hg => by
      have := st (j + 1) d' g' (by simpa using hj) (by rwa [show i + (j + 1) = i + 1 + j by omega])
      rwa [show i + (j + 1) + 1 = i + 1 + j + 1 by omega] at this)
    refine ⟨g', ?_, by rw [List.length_cons, show i + (ds.length + 1) = i + 1 + ds.length by omega]; exact h3⟩
    unfold forD
    simp only [e1]
    rcases e2 with e2 | e2 <;> simp only [e2] <;> exact e3
theorem comp_map {j : Nat} {te : M Rv} {h : D → D} {g : G} (hg : g.set j .un = g) : ∀ ds : List D, (∀ d ∈ ds, ∃ r, te (g.set j (.da d)) = .ok (r, g.set j (.da d)) ∧ rawOf r = some (h d)) → compD (cgN j) yesT te [j] ds g = some (ds.map h, g)
  | [], _ => rfl
  | d :: ds, H => by
    obtain ⟨r, e1, e2⟩ := H d (by simp)
    unfold compD
    simp only [cgN, yesT, if_true, e1, e2, wipeG]
    have : (g.set j (.da d)).set j .un = g := by rw [List.set_set]; exact hg
    have ih := comp_map (te := te) (h := h) hg ds (fun d hd => H d (by simp [hd]))
    rw [this, ih]
    rfl
theorem comp_map2 {i j : Nat} {te : M Rv} {h : D × D → D} {g : G} (hg : ((g.set j .un).set i .un) = g) (ij : i ≠ j) : ∀ ps : List (D × D), (∀ p ∈ ps, ∃ r, te ((g.set i (.da p.1)).set j (.da p.2)) = .ok (r, (g.set i (.da p.1)).set j (.da p.2)) ∧ rawOf r = some (h p)) →
    compD (cgT [cgN i, cgN j]) yesT te [i, j] (ps.map fun p => .tuple [p.1, p.2]) g = some (ps.map h, g)
  | [], _ => rfl
  | d :: ds, H => by
    obtain ⟨r, e1, e2⟩ := H d (by simp)
    rw [List.map_cons]
    unfold compD
    simp only [cgT, cgs, cgN, yesT, if_true, e1, e2, wipeG, Option.bind_some]
    have : ((((g.set i (.da d.1)).set j (.da d.2)).set j .un).set i .un) = g := by
      rw [List.set_set, List.set_comm _ _ ij.symm, List.set_set, List.set_comm _ _ ij]
      exact hg
    have ih := comp_map2 (te := te) (h := h) hg ij ds (fun d hd => H d (by simp [hd]))
    rw [this, ih]
    rfl
/-- a comprehension that changes the slots -/
theorem comp_inv {j : Nat} {te : M Rv} (I : G → Prop) (P : D → Prop) : ∀ (ds : List D) (g : G), I g → (∀ d ∈ ds, ∀ g, I g → ∃ r g2 y, te (g.set j (.da d)) = .ok (r, g2) ∧ rawOf r = some y ∧ P y ∧ I (g2.set j .un)) →
    ∃ ys g', compD (cgN j) yesT te [j] ds g = some (ys, g') ∧ ys.length = ds.length ∧ (∀ y ∈ ys, P y) ∧ I g'
  | [], g, h, _ => ⟨[], g, rfl, rfl, by simp, h⟩
  | d :: ds, g, h, H => by
    obtain ⟨r, g2, y, e1, e2, p, h2⟩ := H d (by simp) g h
    obtain ⟨ys, g', e3, l, q, h3⟩ := comp_inv I P ds (g2.set j .un) h2 (fun d hd => H d (by simp [hd]))
    refine ⟨y :: ys, g', ?_, by simp [l], ?_, h3⟩
    · unfold compD
      simp only [cgN, yesT, if_true, e1, e2, wipeG]
      rw [e3]
      rfl
    · intro z hz
      rcases List.mem_cons.mp hz with hz | hz
      · rw [hz]; exact p
      · exact q z hz
theorem lc_map {it : M (List D)} {j : Nat} {te : M Rv} {h : D → D} {g g1 : G} {ds : List D} (hi : it g = .ok (ds, g1)) (l : ds.length ≤ 1000000)
    (H : ∀ d ∈ ds, ∃ r, te ((g1.set j .un).set j (.da d)) = .ok (r, (g1.set j .un).set j (.da d)) ∧ rawOf r = some (h d)) :
    lcE it (cgN j) yesT te [j] g = .ok (.fl (ds.map h), g1.set j .un) := by
  unfold lcE
  simp only [hi, Re.ok_bind, if_pos l, wipeG]
  rw [comp_map (h := h) (by rw [List.set_set]) ds H]
  rfl
theorem wipe2 (g : G) {i j : Nat} (ij : i ≠ j) : ((((g.set j Sl.un).set i .un).set j .un).set i .un) = (g.set j .un).set i .un := by
  conv => lhs; rw [List.set_comm _ _ ij.symm, List.set_set, List.set_comm _ _ ij, List.set_set]
theorem lc_map2 {it : M (List D)} {i j : Nat} {te : M Rv} {h : D × D → D} {g g1 : G} {ps : List (D × D)} (ij : i ≠ j) (hi : it g = .ok (ps.map fun p => .tuple [p.1, p.2], g1)) (l : ps.length ≤ 1000000)
    (H : ∀ p ∈ ps, ∃ r, te (((g1.set j .un).set i (.da p.1)).set j (.da p.2)) = .ok (r, ((g1.set j .un).set i (.da p.1)).set j (.da p.2)) ∧ rawOf r = some (h p)) :
    lcE it (cgT [cgN i, cgN j]) yesT te [i, j] g = .ok (.fl (ps.map h), (g1.set j .un).set i .un) := by
  unfold lcE
  simp only [hi, Re.ok_bind, List.length_map, if_pos l, wipeG]
  have hH : ∀ p ∈ ps, ∃ r, te (((((g1.set j .un).set i .un).set i (.da p.1)).set j (.da p.2))) = .ok (r, ((((g1.set j .un).set i .un).set i (.da p.1)).set j (.da p.2))) ∧ rawOf r = some (h p) := by
    intro p hp
    rw [List.set_set]
    exact H p hp
  rw [comp_map2 (h := h) (g := (g1.set j .un).set i .un) (wipe2 g1 ij) ij ps hH]
  rfl
theorem lc_inv {it : M (List D)} {j : Nat} {te : M Rv} {g g1 : G} {ds : List D} (I : G → Prop) (P : D → Prop) (hi : it g = .ok (ds, g1)) (l : ds.length ≤ 1000000) (h0 : I (g1.set j .un))
    (H : ∀ d ∈ ds, ∀ g, I g → ∃ r g2 y, te (g.set j (.da d)) = .ok (r, g2) ∧ rawOf r = some y ∧ P y ∧ I (g2.set j .un)) :
    ∃ ys g', lcE it (cgN j) yesT te [j] g = .ok (.fl ys, g') ∧ ys.length = ds.length ∧ (∀ y ∈ ys, P y) ∧ I g' := by
  obtain ⟨ys, g', e, a, b, h⟩ := comp_inv (te := te) I P ds (g1.set j .un) h0 H
  refine ⟨ys, g', ?_, a, b, h⟩
  unfold lcE
  simp only [hi, Re.ok_bind, if_pos l, wipeG, e]
  rfl

/-! ### looks -/
def whole : D → Bool
  | .int _ => true
  | _ => false
def btw : D → Int → Int → Bool
  | .int x, a, b => decide (a ≤ x) && decide (x ≤ b)
  | _, _, _ => false
def iv : D → Int
  | .int x => x
  | _ => 0
def isTup : D → Bool
  | .tuple _ => true
  | _ => false
def isWB : D → Bool
  | .int _ => true
  | .bool _ => true
  | _ => false
def isB : D → Bool
  | .bool _ => true
  | _ => false
def isStr : D → Bool
  | .str _ => true
  | _ => false
def isLst : D → Bool
  | .list _ => true
  | .dict [(.none, .list _)] => true
  | _ => false
theorem isTup_none : isTup .none = false := rfl
theorem isTup_bool (b : Bool) : isTup (.bool b) = false := rfl
theorem isTup_int (i : Int) : isTup (.int i) = false := rfl
theorem isTup_str (z : Str) : isTup (.str z) = false := rfl
theorem isTup_list (xs : List D) : isTup (.list xs) = false := rfl
theorem isTup_tuple (xs : List D) : isTup (.tuple xs) = true := rfl
theorem isTup_dict (xs : List (D × D)) : isTup (.dict xs) = false := rfl
theorem isWB_none : isWB .none = false := rfl
theorem isWB_bool (b : Bool) : isWB (.bool b) = true := rfl
theorem isWB_int (i : Int) : isWB (.int i) = true := rfl
theorem isWB_str (z : Str) : isWB (.str z) = false := rfl
theorem isWB_list (xs : List D) : isWB (.list xs) = false := rfl
theorem isWB_tuple (xs : List D) : isWB (.tuple xs) = false := rfl
theorem isWB_dict (xs : List (D × D)) : isWB (.dict xs) = false := rfl
theorem isB_none : isB .none = false := rfl
theorem isB_bool (b : Bool) : isB (.bool b) = true := rfl
theorem isB_int (i : Int) : isB (.int i) = false := rfl
theorem isB_str (z : Str) : isB (.str z) = false := rfl
theorem isB_list (xs : List D) : isB (.list xs) = false := rfl
theorem isB_tuple (xs : List D) : isB (.tuple xs) = false := rfl
theorem isB_dict (xs : List (D × D)) : isB (.dict xs) = false := rfl
theorem isStr_none : isStr .none = false := rfl
theorem isStr_bool (b : Bool) : isStr (.bool b) = false := rfl
theorem isStr_int (i : Int) : isStr (.int i) = false := rfl
theorem isStr_str (z : Str) : isStr (.str z) = true := rfl
theorem isStr_list (xs : List D) : isStr (.list xs) = false := rfl
theorem isStr_tuple (xs : List D) : isStr (.tuple xs) = false := rfl
theorem isStr_dict (xs : List (D × D)) : isStr (.dict xs) = false := rfl
theorem isLst_none : isLst .none = false := rfl
theorem isLst_bool (b : Bool) : isLst (.bool b) = false := rfl
theorem isLst_int (i : Int) : isLst (.int i) = false := rfl
theorem isLst_str (z : Str) : isLst (.str z) = false := rfl
theorem isLst_list (xs : List D) : isLst (.list xs) = true := rfl
theorem isLst_tuple (xs : List D) : isLst (.tuple xs) = false := rfl
theorem isi_tuple (d : D) : isiD "tuple" d = isTup d := by
  cases d <;> try rfl
  unfold isiD; split <;> first | rfl | simp_all
theorem isi_int (d : D) : isiD "int" d = isWB d := by
  cases d <;> try rfl
  unfold isiD; split <;> first | rfl | simp_all
theorem isi_bool (d : D) : isiD "bool" d = isB d := by
  cases d <;> try rfl
  unfold isiD; split <;> first | rfl | simp_all
theorem isi_str (d : D) : isiD "str" d = isStr d := by
  cases d <;> try rfl
  unfold isiD; split <;> first | rfl | simp_all
theorem isi_list (d : D) : isiD "list" d = isLst d := by
  cases d <;> try rfl
  unfold isiD isLst; split <;> split <;> first | rfl | grind
def isUrn : D → Bool
  | .tuple xs => (decide (1 ≤ (xs.length : Int)) && decide ((xs.length : Int) ≤ 4)) && (xs.all (btw · 0 20) && decide (0 < (xs.map iv).sum))
  | _ => false
def isLine (k : Int) : D → Bool
  | .tuple xs => decide ((xs.length : Int) = k) && xs.all (btw · 0 5)
  | _ => false
def isRuleOf (k : Int) : D → Bool
  | .tuple ls => decide ((ls.length : Int) = k) && ls.all (isLine k)
  | _ => false
theorem intsOf_btw {a b : Int} : ∀ {xs : List D}, xs.all (btw · a b) = true → intsOf xs = some (xs.map iv) ∧ xs = (xs.map iv).map .int
  | [], _ => ⟨rfl, rfl⟩
  | x :: xs, h => by
    simp only [List.all_cons, Bool.and_eq_true] at h
    obtain ⟨h1, h2⟩ := intsOf_btw h.2
    cases x with
    | int i => exact ⟨by simp only [intsOf, h1, List.map_cons, iv, Option.map_some], by simp only [List.map_cons, iv]; rw [← h2]⟩
    | _ => simp [btw] at h
theorem boolsOf_fn {α : Type} (f : α → Bool) : ∀ xs : List α, boolsOf (xs.map fun x => .bool (f x)) = some (xs.map f)
  | [] => rfl
  | x :: xs => by simp only [List.map_cons, boolsOf, boolsOf_fn f xs, Option.map_some]
theorem allD_fn {α : Type} (f : α → Bool) (xs : List α) : allD [.list (xs.map fun x => .bool (f x))] = some (.da (.bool (xs.all f))) := by
  show (boolsOf _).map _ = _
  rw [boolsOf_fn]
  simp [List.all_map]
theorem anyD_fn {α : Type} (f : α → Bool) (xs : List α) : anyD [.list (xs.map fun x => .bool (f x))] = some (.da (.bool (xs.any f))) := by
  show (boolsOf _).map _ = _
  rw [boolsOf_fn]
  simp [List.any_map]
@[simp] theorem isTupI (ns : List Int) : isTup (tupI ns) = true := rfl

/-! ### urns -/
structure Urn (b : Int) (u : List Int) : Prop where
  l1 : 1 ≤ u.length
  l4 : u.length ≤ 4
  all : ∀ x ∈ u, 0 ≤ x ∧ x ≤ b
  pos : 0 < u.sum
structure Rule (n : Nat) (b : Int) (r : List (List Int)) : Prop where
  len : r.length = n
  row : ∀ l ∈ r, l.length = n ∧ ∀ x ∈ l, 0 ≤ x ∧ x ≤ b
def ruleD (r : List (List Int)) : D := .tuple (r.map tupI)
def sh (u : List Int) (k : Nat) : Rat := (u.getD k 0 : Int) / (u.sum : Int)
def put (u : List Int) (r : List (List Int)) (k : Nat) : List Int := List.zipWith (· + ·) u (r.getD k [])
def goQ (r : List (List Int)) : List Nat → Rat → List Int → Rat × List Int
  | [], q, u => (q, u)
  | k :: ks, q, u => goQ r ks (q * sh u k) (put u r k)
def cq (u : List Int) (r : List (List Int)) (ks : List Nat) : Rat := (goQ r ks 1 u).1
def bh (u : List Int) (r : List (List Int)) (ks : List Nat) : List Int := (goQ r ks 1 u).2
theorem goQ_eq (r : List (List Int)) : ∀ (ks : List Nat) (q : Rat) (u : List Int), goQ r ks q u = (q * cq u r ks, bh u r ks)
  | [], q, u => by simp [goQ, cq, bh, Rat.mul_one]
  | k :: ks, q, u => by
    have h1 := goQ_eq r ks (q * sh u k) (put u r k)
    have h2 := goQ_eq r ks (1 * sh u k) (put u r k)
    have h3 : cq u r (k :: ks) = sh u k * cq (put u r k) r ks := by show (goQ r ks (1 * sh u k) (put u r k)).1 = _; rw [h2, Rat.one_mul]
    have h4 : bh u r (k :: ks) = bh (put u r k) r ks := by show (goQ r ks (1 * sh u k) (put u r k)).2 = _; rw [h2]
    rw [h3, h4, goQ, h1, Rat.mul_assoc]
@[simp] theorem cq_nil (u : List Int) (r : List (List Int)) : cq u r [] = 1 := rfl
@[simp] theorem bh_nil (u : List Int) (r : List (List Int)) : bh u r [] = u := rfl
theorem cq_cons (u : List Int) (r : List (List Int)) (k : Nat) (ks : List Nat) : cq u r (k :: ks) = sh u k * cq (put u r k) r ks := by
  show (goQ r ks (1 * sh u k) (put u r k)).1 = _
  rw [goQ_eq, Rat.one_mul]
theorem bh_cons (u : List Int) (r : List (List Int)) (k : Nat) (ks : List Nat) : bh u r (k :: ks) = bh (put u r k) r ks := by
  show (goQ r ks (1 * sh u k) (put u r k)).2 = _
  rw [goQ_eq]
theorem cq_app (r : List (List Int)) (k : Nat) : ∀ (ks : List Nat) (u : List Int), cq u r (ks ++ [k]) = cq u r ks * sh (bh u r ks) k
  | [], u => by simp [cq_cons, Rat.mul_one, Rat.one_mul]
  | j :: ks, u => by rw [List.cons_append, cq_cons, cq_app r k ks, cq_cons, bh_cons, Rat.mul_assoc]
theorem bh_app (r : List (List Int)) (k : Nat) : ∀ (ks : List Nat) (u : List Int), bh u r (ks ++ [k]) = put (bh u r ks) r k
  | [], u => by simp [bh_cons]
  | j :: ks, u => by rw [List.cons_append, bh_cons, bh_app r k ks, bh_cons]
theorem sum_le {b : Int} : ∀ {u : List Int}, (∀ x ∈ u, 0 ≤ x ∧ x ≤ b) → 0 ≤ u.sum ∧ u.sum ≤ b * u.length
  | [], _ => by simp
  | x :: u, h => by
    have h1 := h x (by simp)
    have h2 := sum_le (u := u) (fun y hy => h y (by simp [hy]))
    simp only [List.sum_cons, List.length_cons]
    rw [show ((u.length + 1 : Nat) : Int) = (u.length : Int) + 1 by omega, Int.mul_add, Int.mul_one]
    omega
theorem put_len {u : List Int} {r : List (List Int)} {k n : Nat} {b : Int} (hr : Rule n b r) (hu : u.length = n) (hk : k < n) : (put u r k).length = n := by
  have hk' : k < r.length := by rw [hr.len]; exact hk
  have e : r.getD k [] = r[k] := by simp [List.getD, List.getElem?_eq_getElem hk']
  have h := hr.row r[k] (List.getElem_mem hk')
  unfold put
  rw [e, List.length_zipWith, h.1]
  omega
theorem zipadd_all {a b : Int} : ∀ {u l : List Int}, (∀ x ∈ u, 0 ≤ x ∧ x ≤ a) → (∀ x ∈ l, 0 ≤ x ∧ x ≤ b) → ∀ x ∈ List.zipWith (· + ·) u l, 0 ≤ x ∧ x ≤ a + b
  | [], _, _, _, x, hx => by simp at hx
  | _ :: _, [], _, _, x, hx => by simp at hx
  | y :: u, z :: l, h1, h2, x, hx => by
    have a1 := h1 y (by simp)
    have a2 := h2 z (by simp)
    rw [List.zipWith_cons_cons] at hx
    rcases List.mem_cons.mp hx with hx | hx
    · omega
    · exact zipadd_all (fun x hx => h1 x (by simp [hx])) (fun x hx => h2 x (by simp [hx])) x hx
theorem zipadd_sum : ∀ {u l : List Int}, u.length = l.length → (List.zipWith (· + ·) u l).sum = u.sum + l.sum
  | [], [], _ => rfl
  | [], _ :: _, h => by simp at h
  | _ :: _, [], h => by simp at h
  | y :: u, z :: l, h => by
    rw [List.zipWith_cons_cons, List.sum_cons, List.sum_cons, List.sum_cons, zipadd_sum (by simpa using h)]
    omega
theorem put_urn {u : List Int} {r : List (List Int)} {k n : Nat} {a b : Int} (hr : Rule n b r) (hu : Urn a u) (hl : u.length = n) (hk : k < n) : Urn (a + b) (put u r k) := by
  have hk' : k < r.length := by rw [hr.len]; exact hk
  have e : r.getD k [] = r[k] := by simp [List.getD, List.getElem?_eq_getElem hk']
  have h := hr.row r[k] (List.getElem_mem hk')
  refine ⟨?_, ?_, ?_, ?_⟩
  · rw [put_len hr hl hk, ← hl]; exact hu.l1
  · rw [put_len hr hl hk, ← hl]; exact hu.l4
  · unfold put
    rw [e]
    exact zipadd_all hu.all h.2
  · unfold put
    rw [e, zipadd_sum (by rw [hl, h.1])]
    have := hu.pos
    have := (sum_le h.2).1
    omega
theorem Urn.mono {a b : Int} {u : List Int} (h : Urn a u) (e : a ≤ b) : Urn b u := ⟨h.l1, h.l4, fun x hx => ⟨(h.all x hx).1, by have := (h.all x hx).2; omega⟩, h.pos⟩
theorem Rule.mono {a b : Int} {n : Nat} {r : List (List Int)} (h : Rule n a r) (e : a ≤ b) : Rule n b r := ⟨h.len, fun l hl => ⟨(h.row l hl).1, fun x hx => ⟨((h.row l hl).2 x hx).1, by have := ((h.row l hl).2 x hx).2; omega⟩⟩⟩
theorem btw_all {b : Int} : ∀ {u : List Int}, (∀ x ∈ u, 0 ≤ x ∧ x ≤ b) → (u.map PyData.int).all (btw · 0 b) = true
  | [], _ => rfl
  | x :: u, h => by
    have h1 := h x (by simp)
    simp only [List.map_cons, List.all_cons, Bool.and_eq_true]
    exact ⟨by simp [btw, h1], btw_all fun y hy => h y (by simp [hy])⟩
theorem map_iv (u : List Int) : (u.map PyData.int).map iv = u := by
  rw [List.map_map]
  simp [Function.comp_def, iv]
theorem isUrn_of {b : Int} {u : List Int} (h : Urn b u) (e : b ≤ 20) : isUrn (tupI u) = true := by
  unfold isUrn tupI
  simp only [List.length_map, map_iv, btw_all (h.mono e).all]
  have h1 := h.l1
  have h2 := h.l4
  have h3 := h.pos
  simp only [Bool.and_eq_true, decide_eq_true_eq]
  exact ⟨⟨by omega, by omega⟩, trivial, h3⟩
theorem isRule_of {n : Nat} {b : Int} {r : List (List Int)} (h : Rule n b r) (e : b ≤ 5) : isRuleOf n (ruleD r) = true := by
  unfold isRuleOf ruleD
  simp only [List.length_map, h.len, List.all_map, Bool.and_eq_true, decide_eq_true_eq, List.all_eq_true]
  refine ⟨trivial, fun l hl => ?_⟩
  have h1 := (h.mono e).row l hl
  show isLine n (tupI l) = true
  unfold isLine tupI
  simp only [List.length_map, h1.1, btw_all h1.2]
  simp
theorem Rule.getRow {n : Nat} {b : Int} {r : List (List Int)} (h : Rule n b r) {k : Nat} (hk : k < n) : r[k]? = some (r.getD k []) ∧ (r.getD k []).length = n ∧ ∀ x ∈ r.getD k [], 0 ≤ x ∧ x ≤ b := by
  have hk' : k < r.length := by rw [h.len]; exact hk
  have e : r.getD k [] = r[k] := by simp [List.getD, List.getElem?_eq_getElem hk']
  have h2 := h.row r[k] (List.getElem_mem hk')
  rw [e]
  exact ⟨List.getElem?_eq_getElem hk', h2⟩
theorem getD_all {b : Int} (hb : 0 ≤ b) {u : List Int} (h : ∀ x ∈ u, 0 ≤ x ∧ x ≤ b) (k : Nat) : 0 ≤ u.getD k 0 ∧ u.getD k 0 ≤ b := by
  by_cases hk : k < u.length
  · have e : u.getD k 0 = u[k] := by simp [List.getD, List.getElem?_eq_getElem hk]
    rw [e]
    exact h _ (List.getElem_mem hk)
  · have e : u.getD k 0 = 0 := by simp [List.getD, List.getElem?_eq_none (by omega : u.length ≤ k)]
    rw [e]; omega
theorem getD_some {u : List Int} {k : Nat} (h : k < u.length) : u[k]? = some (u.getD k 0) := by
  simp [List.getD, List.getElem?_eq_getElem h]
theorem mkRat_div (a : Int) {b : Int} (h : 0 < b) : mkRat a b.toNat = (a : Rat) / (b : Rat) := by
  rw [Rat.mkRat_eq_div]
  congr 1
  have : ((b.toNat : Nat) : Int) = b := by omega
  rw [← Rat.intCast_natCast, this]
theorem Sm'.div {k : Nat} {a b : Int} (h : 0 < b) (h1 : a.natAbs < 2 ^ k) (h2 : b.natAbs < 2 ^ k) : Sm' k ((a : Rat) / (b : Rat)) := by
  rw [← mkRat_div a h]
  exact Sm'.of (by omega) h1 (by omega)
theorem sh_sm {u : List Int} {b : Int} (h : Urn b u) (hb : b ≤ 120) (k : Nat) : Sm' 9 (sh u k) := by
  have h1 := getD_all (b := b) (by have := h.l1; obtain ⟨x, hx⟩ : ∃ x, x ∈ u := List.exists_mem_of_length_pos (by omega); have := h.all x hx; omega) h.all k
  have h2 := sum_le h.all
  have h3 : b * (u.length : Int) ≤ 120 * 4 := Int.mul_le_mul hb (by have := h.l4; omega) (by omega) (by omega)
  exact Sm'.div h.pos (by omega) (by have := h.pos; omega)
theorem cq_sm {r : List (List Int)} {n : Nat} {c : Int} (hr : Rule n c r) (hc : 0 ≤ c) : ∀ (ks : List Nat) (u : List Int) (b : Int), Urn b u → u.length = n → (∀ k ∈ ks, k < n) → b + c * ks.length ≤ 120 → Sm' (9 * ks.length + 1) (cq u r ks)
  | [], u, b, _, _, _, _ => Sm'.one
  | k :: ks, u, b, hu, hl, hk, hb => by
    rw [cq_cons]
    have e : b + c + c * (ks.length : Int) = b + c * ((k :: ks).length : Int) := by
      rw [List.length_cons, show ((ks.length + 1 : Nat) : Int) = (ks.length : Int) + 1 by omega, Int.mul_add, Int.mul_one]; omega
    have p : 0 ≤ c * (ks.length : Int) := Int.mul_nonneg hc (by omega)
    have h1 := cq_sm hr hc ks (put u r k) (b + c) (put_urn hr hu hl (hk k (by simp))) (put_len hr hl (hk k (by simp))) (fun j hj => hk j (by simp [hj])) (by omega)
    have h2 := sh_sm hu (by omega) k
    have := h2.mul h1
    rw [List.length_cons, show 9 * (ks.length + 1) + 1 = 9 + (9 * ks.length + 1) by omega]
    exact this
theorem bh_urn {r : List (List Int)} {n : Nat} {c : Int} (hr : Rule n c r) : ∀ (ks : List Nat) (u : List Int) (b : Int), Urn b u → u.length = n → (∀ k ∈ ks, k < n) → Urn (b + c * ks.length) (bh u r ks) ∧ (bh u r ks).length = n
  | [], u, b, hu, hl, _ => ⟨by simpa using hu, hl⟩
  | k :: ks, u, b, hu, hl, hk => by
    rw [bh_cons]
    have h1 := bh_urn hr ks (put u r k) (b + c) (put_urn hr hu hl (hk k (by simp))) (put_len hr hl (hk k (by simp))) (fun j hj => hk j (by simp [hj]))
    have e : b + c + c * (ks.length : Int) = b + c * ((k :: ks).length : Int) := by
      rw [List.length_cons, show ((ks.length + 1 : Nat) : Int) = (ks.length : Int) + 1 by omega, Int.mul_add, Int.mul_one]; omega
    rw [e] at h1
    exact h1
theorem sh_zero {u : List Int} {b : Int} (hu : Urn b u) (k : Nat) : sh u k = 0 ↔ u.getD k 0 = 0 := by
  unfold sh
  have h := hu.pos
  have h2 : ((u.sum : Int) : Rat) ≠ 0 := by
    intro h3
    have := Rat.intCast_eq_zero_iff.mp h3
    omega
  constructor
  · intro h3
    have h4 : ((u.getD k 0 : Int) : Rat) = 0 := by
      have := Rat.div_mul_cancel h2 (a := ((u.getD k 0 : Int) : Rat))
      rw [h3, Rat.zero_mul] at this
      exact this.symm
    exact Rat.intCast_eq_zero_iff.mp h4
  · intro h3
    rw [h3, Rat.intCast_zero, Rat.div_def, Rat.zero_mul]
theorem lenD_tupI (u : List Int) : lenD [tupI u] = some (.da (.int u.length)) := by
  show some (Rv.da (.int ((u.map PyData.int).length : Nat))) = _
  rw [List.length_map]
theorem sumD_tupI (u : List Int) : sumD [tupI u] = some (.da (.int u.sum)) := by
  show (intsOf (u.map .int)).map _ = _
  rw [intsOf_map]
  rfl
theorem ixD_rule {r : List (List Int)} {j : Nat} {x : List Int} (h : r[j]? = some x) : ixD (ruleD r) (.int j) = some (.da (tupI x)) := by
  unfold ruleD
  rw [ixD_tup, atI_nat' (x := tupI x) (by rw [List.getElem?_map, h]; rfl)]
  rfl
def drD (ks : List Nat) : D := .tuple (ks.map fun k : Nat => .int k)
theorem lenD_drD (u : List Nat) : lenD [drD u] = some (.da (.int u.length)) := by
  show some (Rv.da (.int ((u.map fun k : Nat => PyData.int k).length : Nat))) = _
  rw [List.length_map]
theorem lt64_8000 {b : Int} (h : b < 2 ^ 64) : b < 2 ^ 8000 := by
  have h1 : (2 : Nat) ^ 64 ≤ 2 ^ 8000 := Nat.pow_le_pow_right (by decide) (by decide)
  have h2 : ((2 ^ 64 : Nat) : Int) ≤ ((2 ^ 8000 : Nat) : Int) := Int.ofNat_le.mpr h1
  rw [Int.natCast_pow, Int.natCast_pow] at h2
  exact Int.lt_of_lt_of_le h h2
def Val (ds : List D) : Prop := ∃ s b, ds = [.int s, .bool b] ∧ (b = true ∨ (0 ≤ s ∧ s < 2147483647))
theorem modD_nz {i j : Int} (h : j ≠ 0) : modD (.int i) (.int j) = some (.da (.int (i.fmod j))) := if_neg h
theorem mulD_sm {i j : Int} (h1 : i.natAbs < 2 ^ 128) (h2 : j.natAbs < 2 ^ 128) : mulD (.int i) (.int j) = some (.da (.int (i * j))) :=
  mulD_int (bigI_of h1 (by decide) (by decide)) (bigI_of h2 (by decide) (by decide))
theorem put_map {u l : List Int} : ((u.map PyData.int).zip (l.map PyData.int)).map (fun p => PyData.int (iv p.1 + iv p.2)) = (List.zipWith (· + ·) u l).map .int := by
  rw [List.zip_map, List.map_map, List.map_zipWith, List.zip, List.map_zipWith]
  rfl
theorem rng_nat {n : Nat} (h : n ≤ 1000000) : rngD [.da (.int n)] = some ((List.range n).map fun i : Nat => .int i) := by
  show (if _ then some ((List.range (n : Int).toNat).map fun i : Nat => PyData.int i) else none) = _
  rw [if_pos (by omega)]
  rfl
theorem sumD_lst (u : List Int) : sumD [.list (u.map .int)] = some (.da (.int u.sum)) := by
  show (intsOf (u.map .int)).map _ = _
  rw [intsOf_map]
  rfl
theorem ys_nats {b : Int} : ∀ {ys : List D}, (∀ y ∈ ys, ∃ x : Nat, y = .int x ∧ (x : Int) < b) → ∃ ks : List Nat, ys = ks.map (fun k : Nat => .int k) ∧ ks.length = ys.length ∧ ∀ k ∈ ks, (k : Int) < b
  | [], _ => ⟨[], rfl, rfl, by simp⟩
  | y :: ys, h => by
    obtain ⟨x, rfl, hx⟩ := h y (by simp)
    obtain ⟨ks, rfl, _, h2⟩ := ys_nats (ys := ys) (fun z hz => h z (by simp [hz]))
    exact ⟨x :: ks, rfl, by simp, by simpa using ⟨hx, h2⟩⟩
theorem ys_ints {b : Int} {ys : List D} (h : ∀ y ∈ ys, ∃ x : Nat, y = .int x ∧ (x : Int) < b) : ∃ us : List Int, ys = us.map .int ∧ us.length = ys.length ∧ ∀ x ∈ us, 0 ≤ x ∧ x ≤ b - 1 := by
  obtain ⟨ks, rfl, h1, h2⟩ := ys_nats h
  refine ⟨ks.map (fun k : Nat => (k : Int)), by rw [List.map_map]; rfl, by simp, ?_⟩
  intro x hx
  obtain ⟨k, hk, rfl⟩ := List.mem_map.mp hx
  have := h2 k hk
  omega
theorem ys_rows {n : Nat} {b : Int} : ∀ {ys : List D}, (∀ y ∈ ys, ∃ u : List Int, y = tupI u ∧ u.length = n ∧ ∀ x ∈ u, 0 ≤ x ∧ x ≤ b) → ∃ r : List (List Int), ys = r.map tupI ∧ r.length = ys.length ∧ ∀ l ∈ r, l.length = n ∧ ∀ x ∈ l, 0 ≤ x ∧ x ≤ b
  | [], _ => ⟨[], rfl, rfl, by simp⟩
  | y :: ys, h => by
    obtain ⟨u, rfl, hu⟩ := h y (by simp)
    obtain ⟨r, rfl, _, h2⟩ := ys_rows (ys := ys) (fun z hz => h z (by simp [hz]))
    refine ⟨u :: r, rfl, by simp, ?_⟩
    intro l hl
    rcases List.mem_cons.mp hl with hl | hl
    · subst hl; exact hu
    · exact h2 l hl
theorem sum_pos : ∀ {us : List Int}, (∀ x ∈ us, 0 ≤ x) → (∃ y ∈ us, 0 < y) → 0 < us.sum
  | [], _, h => by obtain ⟨y, hy, _⟩ := h; simp at hy
  | x :: us, h, h2 => by
    have h0 := h x (by simp)
    have h3 : 0 ≤ us.sum := by
      have : ∀ {vs : List Int}, (∀ x ∈ vs, 0 ≤ x) → 0 ≤ vs.sum := by
        intro vs
        induction vs with
        | nil => simp
        | cons a as ih => intro q; have := q a (by simp); have := ih (fun x hx => q x (by simp [hx])); simp only [List.sum_cons]; omega
      exact this (fun y hy => h y (by simp [hy]))
    simp only [List.sum_cons]
    obtain ⟨y, hy, hp⟩ := h2
    rcases List.mem_cons.mp hy with hy | hy
    · omega
    · have := sum_pos (us := us) (fun y hy => h y (by simp [hy])) ⟨y, hy, hp⟩
      omega
theorem set_all {b : Int} {us : List Int} {k : Nat} {y : Int} (h : ∀ x ∈ us, 0 ≤ x ∧ x ≤ b) (hy : 0 ≤ y) (hb : y ≤ b) : ∀ x ∈ us.set k y, 0 ≤ x ∧ x ≤ b := by
  intro x hx
  rcases List.mem_or_eq_of_mem_set hx with hx | hx
  · exact h x hx
  · subst hx; exact ⟨hy, hb⟩
theorem ixN_nat {n k : Nat} (h : k < n) : L2.ixN n (k : Int) = some k := by
  unfold L2.ixN
  rw [if_pos (by omega), if_pos (by omega)]
  simp
theorem ixD_dr0 (k : Nat) (ks : List Nat) : ixD (drD (k :: ks)) (.int 0) = some (.da (.int k)) := by
  unfold drD
  rw [ixD_tup, List.map_cons, at0]
  rfl
theorem slD_dr_tail (k : Nat) (ks : List Nat) : slD (drD (k :: ks)) (some 1) none = some (.da (drD ks)) := by
  show some (Rv.da (.tuple (cutD ((k :: ks).map fun k : Nat => .int k) (some 1) none))) = some (.da (.tuple (ks.map fun k : Nat => .int k)))
  unfold cutD
  have e1 : HT.sIx ((k :: ks).map fun k : Nat => PyData.int k).length 0 (some 1) = 1 := by
    unfold HT.sIx
    simp
    try omega
  have e2 : HT.sIx ((k :: ks).map fun k : Nat => PyData.int k).length ((k :: ks).map fun k : Nat => PyData.int k).length none = ks.length + 1 := by
    unfold HT.sIx
    simp
  rw [e1, e2]
  rw [List.map_cons, List.drop_succ_cons, List.drop_zero, List.take_of_length_le (by simp)]
theorem slD_dr_head (k : Nat) (ks : List Nat) : slD (drD (k :: ks)) none (some 1) = some (.da (drD [k])) := by
  show some (Rv.da (.tuple (cutD ((k :: ks).map fun k : Nat => .int k) none (some 1)))) = some (.da (.tuple [.int k]))
  unfold cutD
  have e1 : HT.sIx ((k :: ks).map fun k : Nat => PyData.int k).length 0 none = 0 := by
    unfold HT.sIx
    simp
  have e2 : HT.sIx ((k :: ks).map fun k : Nat => PyData.int k).length ((k :: ks).map fun k : Nat => PyData.int k).length (some 1) = 1 := by
    unfold HT.sIx
    simp
    try omega
  rw [e1, e2]
  rfl
theorem eqD_fr0 (p : Rat) : eqD (frD p) (.tuple [.int 0, .int 1]) = some (.da (.bool (decide (p = 0)))) := eqD_fr p 0
theorem eqD_fr1 (p : Rat) : eqD (frD p) (.tuple [.int 1, .int 1]) = some (.da (.bool (decide (p = 1)))) := eqD_fr p 1
theorem neD_fr0 (p : Rat) : neD (frD p) (.tuple [.int 0, .int 1]) = some (.da (.bool (!decide (p = 0)))) := neD_fr p 0
theorem neD_fr1 (p : Rat) : neD (frD p) (.tuple [.int 1, .int 1]) = some (.da (.bool (!decide (p = 1)))) := neD_fr p 1
def behD (q : Rat) (u : List Int) : D := if q = 0 then .none else tupI u
theorem behD_zero (u : List Int) : behD 0 u = .none := if_pos rfl
theorem behD_pos {q : Rat} (h : q ≠ 0) (u : List Int) : behD q u = tupI u := if_neg h
theorem neD_none : neD .none .none = some (.da (.bool false)) := by simp [neD]
theorem neD_tupI_self (u : List Int) : neD (tupI u) (tupI u) = some (.da (.bool false)) := by simp [neD]
theorem mulD_tup1 (x : D) {n : Nat} (h : n ≤ 1000) : mulD (.tuple [x]) (.int n) = some (.da (.tuple (List.replicate n x))) := by
  show (if [x].length ≤ 1000 ∧ (0 : Int) ≤ n ∧ (n : Int) ≤ 1000 then some (Rv.da (.tuple (List.replicate (n : Int).toNat [x]).flatten)) else none) = _
  rw [if_pos ⟨by simp, by omega, by omega⟩]
  simp [List.flatten_replicate_singleton]
theorem zipadd_zero : ∀ {n : Nat} {u : List Int}, u.length = n → List.zipWith (· + ·) u (List.replicate n 0) = u
  | 0, [], _ => rfl
  | n + 1, x :: u, h => by
    rw [List.replicate_succ, List.zipWith_cons_cons, zipadd_zero (by simpa using h), Int.add_zero]
theorem sub_le {u : List Int} {b : Int} (h : Urn b u) (k : Nat) (hk : k < u.length) (h0 : u.getD k 0 ≠ 0) : 0 < u.getD k 0 := by
  have e : u.getD k 0 = u[k] := by simp [List.getD, List.getElem?_eq_getElem hk]
  have := (h.all _ (List.getElem_mem hk)).1
  omega
theorem cutD_len (xs : List D) (a b : Option Int) : (cutD xs a b).length ≤ xs.length := by
  unfold cutD
  rw [List.length_take, List.length_drop]
  omega
theorem ix_lt {xs : List D} {v : Nat} (h : v < xs.length) : ∃ x, x ∈ xs ∧ ixD (.list xs) (.int (v : Int)) = some (.da x) := by
  refine ⟨xs[v], List.getElem_mem h, ?_⟩
  rw [ixD_lst, atI_nat' (x := xs[v]) (List.getElem?_eq_getElem h)]
  rfl
theorem ixt_lt {xs : List D} {v : Nat} (h : v < xs.length) : ∃ x, x ∈ xs ∧ ixD (.tuple xs) (.int (v : Int)) = some (.da x) := by
  refine ⟨xs[v], List.getElem_mem h, ?_⟩
  rw [ixD_tup, atI_nat' (x := xs[v]) (List.getElem?_eq_getElem h)]
  rfl
theorem ix_small {xs : List D} {v : Nat} {b : Int} (hx : xs.all (btw · 0 b) = true) (h : v < xs.length) : ∃ j : Nat, (j : Int) ≤ b ∧ ixD (.list xs) (.int (v : Int)) = some (.da (.int (j : Int))) := by
  obtain ⟨x, hm, e⟩ := ix_lt h
  have := List.all_eq_true.mp hx x hm
  cases x with
  | int i =>
    simp [btw] at this
    refine ⟨i.toNat, by omega, ?_⟩
    rw [e, Int.toNat_of_nonneg this.1]
  | _ => simp [btw] at this
theorem ix_btw {xs : List D} {v : Nat} {a b : Int} (ha : 0 ≤ a) (hx : xs.all (btw · a b) = true) (h : v < xs.length) : ∃ j : Nat, a ≤ (j : Int) ∧ (j : Int) ≤ b ∧ ixD (.list xs) (.int (v : Int)) = some (.da (.int (j : Int))) := by
  obtain ⟨x, hm, e⟩ := ix_lt h
  have := List.all_eq_true.mp hx x hm
  cases x with
  | int i =>
    simp [btw] at this
    refine ⟨i.toNat, by omega, by omega, ?_⟩
    rw [e, Int.toNat_of_nonneg (by omega)]
  | _ => simp [btw] at this
theorem neD_bool_self (b : Bool) : neD (.bool b) (.bool b) = some (.da (.bool false)) := by simp [neD]
theorem addD_tup_ok {xs ys : List D} (h : xs.length + ys.length ≤ 1000000) : addD (.tuple xs) (.tuple ys) = some (.da (.tuple (xs ++ ys))) := if_pos h
theorem addD_lst_ok {xs ys : List D} (h : xs.length + ys.length ≤ 1000000) : addD (.list xs) (.list ys) = some (.fl (xs ++ ys)) := if_pos h
theorem pow_10_29 : powD (.int 10) (.int 29) = some (.da (.int 100000000000000000000000000000)) := rfl
theorem cutD_from (xs : List D) (k : Nat) : cutD xs (some (k : Int)) none = xs.drop k := by
  unfold cutD
  rw [HT.sIx_nat, HT.sIx_none]
  by_cases h : k ≤ xs.length
  · rw [Nat.min_eq_left h, List.take_of_length_le (by simp)]
  · rw [Nat.min_eq_right (by omega), List.drop_of_length_le (Nat.le_refl _), List.drop_of_length_le (by omega)]
    simp
theorem cutD_to (xs : List D) (k : Nat) : cutD xs none (some (k : Int)) = xs.take k := by
  unfold cutD
  rw [HT.sIx_nat, HT.sIx_none]
  by_cases h : k ≤ xs.length
  · rw [Nat.min_eq_left h]; simp
  · rw [Nat.min_eq_right (by omega), List.take_of_length_le (by simp), List.take_of_length_le (by omega)]; simp
/-! ### sums -/
def sumQ : List Rat → Rat
  | [] => 0
  | q :: qs => q + sumQ qs
@[simp] theorem sumQ_nil : sumQ [] = 0 := rfl
@[simp] theorem sumQ_cons (q : Rat) (qs : List Rat) : sumQ (q :: qs) = q + sumQ qs := rfl
theorem sumQ_app : ∀ ps qs : List Rat, sumQ (ps ++ qs) = sumQ ps + sumQ qs
  | [], qs => by simp [Rat.zero_add]
  | p :: ps, qs => by rw [List.cons_append, sumQ_cons, sumQ_cons, sumQ_app ps qs, Rat.add_assoc]
theorem sumQ_mul (c : Rat) : ∀ ps : List Rat, sumQ (ps.map (c * ·)) = c * sumQ ps
  | [] => by simp [Rat.mul_zero]
  | p :: ps => by rw [List.map_cons, sumQ_cons, sumQ_cons, sumQ_mul c ps, Rat.mul_add]
theorem sumQ_div (s : Rat) : ∀ u : List Int, sumQ (u.map fun x : Int => (x : Rat) / s) = (u.sum : Int) / s
  | [] => by simp [Rat.div_def, Rat.zero_mul]
  | x :: u => by
    rw [List.map_cons, sumQ_cons, sumQ_div s u, List.sum_cons, Rat.intCast_add, Rat.div_def, Rat.div_def, Rat.div_def, Rat.add_mul]
theorem range_map_getD (u : List Int) : (List.range u.length).map (fun k => u.getD k 0) = u := by
  apply List.ext_getElem?
  intro i
  by_cases h : i < u.length
  · simp [List.getElem?_map, List.getElem?_range h, List.getD, List.getElem?_eq_getElem h]
  · simp [List.getElem?_map, List.getElem?_eq_none (by omega : u.length ≤ i), List.getElem?_eq_none (by simp; omega : (List.range u.length).length ≤ i)]
theorem sh_sum {u : List Int} {b : Int} (h : Urn b u) : sumQ ((List.range u.length).map (sh u)) = 1 := by
  have e : (List.range u.length).map (sh u) = u.map fun x : Int => (x : Rat) / (u.sum : Int) := by
    conv => rhs; rw [← range_map_getD u]
    rw [List.map_map]
    simp only [Function.comp_def, range_map_getD]
    rfl
  rw [e, sumQ_div]
  have := h.pos
  rw [Rat.div_def]
  exact Rat.mul_inv_cancel _ (by intro h3; have := Rat.intCast_eq_zero_iff.mp h3; omega)
theorem sumQ_flatMap {α β : Type} (f : α → List β) (g : β → Rat) : ∀ xs : List α, sumQ ((xs.flatMap f).map g) = sumQ (xs.map fun x => sumQ ((f x).map g))
  | [] => rfl
  | x :: xs => by rw [List.flatMap_cons, List.map_append, sumQ_app, sumQ_flatMap f g xs, List.map_cons, sumQ_cons]
theorem sumQ_congr {α : Type} {f g : α → Rat} : ∀ {xs : List α}, (∀ x ∈ xs, f x = g x) → sumQ (xs.map f) = sumQ (xs.map g)
  | [], _ => rfl
  | x :: xs, h => by rw [List.map_cons, List.map_cons, sumQ_cons, sumQ_cons, h x (by simp), sumQ_congr fun y hy => h y (by simp [hy])]
theorem sumQ_mul' {α : Type} (c : Rat) (f : α → Rat) : ∀ xs : List α, sumQ (xs.map fun x => c * f x) = c * sumQ (xs.map f)
  | [] => by simp [Rat.mul_zero]
  | x :: xs => by rw [List.map_cons, List.map_cons, sumQ_cons, sumQ_cons, sumQ_mul' c f xs, Rat.mul_add]
theorem one_more {r : List (List Int)} {n : Nat} {b c : Int} {u : List Int} {ks : List Nat} (hr : Rule n c r) (hu : Urn b u) (hl : u.length = n) (hk : ∀ k ∈ ks, k < n) : sumQ ((List.range n).map fun k => cq u r (ks ++ [k])) = cq u r ks := by
  obtain ⟨h1, h2⟩ := bh_urn hr ks u b hu hl hk
  have h3 := sh_sum h1
  rw [h2] at h3
  have e : ((List.range n).map fun k => cq u r (ks ++ [k])) = (List.range n).map fun k => cq u r ks * sh (bh u r ks) k := List.map_congr_left fun k _ => cq_app r k ks u
  rw [e, sumQ_mul', h3, Rat.mul_one]
end GD

/-! GDL: lambdas handed to a def; a try whose caught error is kept in a slot. -/
namespace GD
open PySem PySem.Spec PyProof.Rows L2

/-! ### a lambda is made: only the table of its maker's code object changes -/
section
variable {X : Cx} {pins : List (Addr × Obj)} {σ : L2.St} {H : Hp} {s : Shared}
/-- all but the table at P -/
def ButT (P : Addr) (H H1 : Hp) : Prop := ∀ b o, b ≠ P → H b = some o → H1 b = some o
theorem lamP {c P : Addr} {q : Str} {pr : Arguments} {bd : Expr} {sc : Scope} {pos : Pos} {E : Value → Shared → Prop} {Q : Value → Shared → Prop}
    (hq : X.env.qual ++ "<lambda>" = q) (TB : LamX.TabB X.base X.mg c P) (hcode : X.env.code = .ref c) (hdef : defaultsOf pr X.env = ([], [])) (hfree : ∀ y ∈ sc.names, y.2 = .free → ∃ c, X.env.cells.lookup y.1 = some c)
    (I : Inv X pins σ H s) (hT : LamX.TabS H P q)
    (h : ∀ (f z : Addr) (pm ctv : Value) (H1 : Hp) (s' : Shared), Inv X pins σ H1 s' → ButT P H H1 → LamX.TabS H1 P q →
      s'.heap.get? f = some (PySem.W.kla_obj "<lambda>" q pr bd sc (cloFrom X.env.cells sc.names []) pm z ctv) → H1 f = none → f ∉ frs X.stack → H1 z = some (LamX.CodeO z q) → Q (.ref f) s') :
    wpAny (model X.prog X.w) X.A (eval (.Lambda pr bd sc pos) X.env) Q E s := by
  subst hq
  obtain ⟨ps, hP, ht, ha⟩ := hT
  have oP := I.hok P _ hP
  have young : ∀ f, s.heap.objs.size ≤ f → f ∉ frs X.stack := fun f hf hm =>
    (List.mem_cons.mp (I.stkSub _ hm)).elim (fun e => Nat.lt_irrefl _ (Nat.lt_of_lt_of_le (e ▸ I.lt) hf)) (fun e => I.nofs hf e)
  refine PySem.W.kla_eval hdef ?_
  cases hc : codeAmong pos ps.toList with
  | some cv =>
    obtain ⟨z, rfl, hz⟩ := ha pos cv hc
    exact PySem.W.kla_makeFunctionHit (mg := X.mg) (c := c) (P := P) (ps := ps) (closure_ok hfree) I.ok.glob (I.mod.glob.keeps I.bk) hcode (TB.code.keeps I.bk) oP ht hc (TB.bm.keeps I.bk) fun ctv h' tk k1 k2 =>
      h h'.objs.size z ((X.mg "__name__").getD .none) ctv H _ (I.kept fun b o e => Heap.get?_push_of_some _ (k1 b o e)) (fun _ _ _ e => e) ⟨ps, hP, ht, ha⟩ (Heap.get?_push_size _ rfl) (I.hok.fresh k2) (young _ k2) hz
  | none =>
    refine PySem.W.kla_makeFunction (mg := X.mg) (c := c) (P := P) (ps := ps) (closure_ok hfree) I.ok.glob (I.mod.glob.keeps I.bk) hcode (TB.code.keeps I.bk) oP ht hc TB.gP (TB.bm.keeps I.bk) fun z ctv h' tk k1 k2 k3 hrec k4 => ?_
    obtain ⟨z2, oc, vs, t, e2, hoc, hd, hv⟩ := hrec
    cases e2
    have k5 := Nat.le_trans k2 (Nat.le_of_lt k3)
    have nz : H z = none := I.hok.fresh k2
    have zP : P ≠ z := ne_of_none hP nz
    have J := LamX.inv_table (t' := tk) (more := #[rawInt pos.line, rawInt pos.col, .ref z]) (h' := h'.push (PySem.W.kla_obj "<lambda>" (X.env.qual ++ "<lambda>") pr bd sc (cloFrom X.env.cells sc.names []) ((X.mg "__name__").getD .none) z ctv)) I hP
      (fun b o hb e => Heap.get?_push_of_some _ (k1 b o hb e)) (Heap.get?_push_of_some _ k4) k2 ⟨oc, vs, t, Heap.get?_push_of_some _ hoc, hd, hv⟩
    have but : ButT P H (upd (upd H P (.tbl (ps ++ #[rawInt pos.line, rawInt pos.col, .ref z]))) z (LamX.CodeO z (X.env.qual ++ "<lambda>"))) := fun b o n e => by
      rw [upd_ne (ne_of_none e nz), upd_ne n]; exact e
    have np : ∀ z', H z' = some (LamX.CodeO z' (X.env.qual ++ "<lambda>")) → z' ≠ P := fun z' e n => by
      rw [n, hP] at e
      exact LamX.codeO_ne ps (Option.some.inj e).symm
    have l0 : (ps ++ #[rawInt pos.line, rawInt pos.col, .ref z]).toList = ps.toList ++ [rawInt pos.line, rawInt pos.col, .ref z] := by simp
    refine h h'.objs.size z ((X.mg "__name__").getD .none) ctv _ _ J but ⟨_, by rw [upd_ne zP, upd_same], by rw [l0]; exact PySem.TriplesOk_snoc _ _ _ _ ht, fun p' cv hcv => ?_⟩ (Heap.get?_push_size _ rfl) ?_ (young _ k5) upd_same
    · rw [l0] at hcv
      rcases LamX.among_app _ ht hcv with y | y
      · obtain ⟨c0, e1, e2⟩ := ha p' cv y
        exact ⟨c0, e1, but _ _ (np _ e2) e2⟩
      · exact ⟨z, y, upd_same⟩
    · rw [upd_ne (show h'.objs.size ≠ z from Nat.ne_of_gt k3), upd_ne (show h'.objs.size ≠ P from Nat.ne_of_gt (Nat.lt_of_lt_of_le (Heap.lt_size oP) k5))]
      exact I.hok.fresh k5
def tLamP (P : Addr) (q : Str) (TT : (XK → Hp → VK → Prop) → Hp → VK → Prop) (t : XK → TE) : TE := fun σ H Q =>
  LamX.TabS H P q ∧ ∀ H1, ButT P H H1 → LamX.TabS H1 P q → TT (fun E H' Q' => t E σ H' Q') H1 Q
/-- x(lambda: body) -/
theorem pe_lamP {TT : (XK → Hp → VK → Prop) → Hp → VK → Prop} {x a q : Str} {g c P : Addr} {k : Nat} {pg : Arguments} {bg : List Stmt} {sg : Scope} {dV kV doc pm cdv ct oc : Value} {an od : Option Addr} {osl : Array (Option Value)} {Ng : List Str}
    {pr : Arguments} {bd : Expr} {sc : Scope} {t : XK → TE} {p lpos pos : Pos}
    (hq : X.env.qual ++ "<lambda>" = q) (hm : X.mg x = some (.ref g)) (hk : PySem.W.keepIn X.K (.ref g) = true) (hg : Gl X x)
    (lk : X.K.lookup g = some ⟨oc, od, .func (PySem.W.fnOf x x pg bg sg dV kV doc pm an cdv ct), osl⟩) (hb : L2.Binds X.K (PySem.W.fnOf x x pg bg sg dV kV doc pm an cdv ct) [a] []) (hcg : PySem.W.codeIn X.K cdv x = true)
    (Sg : FnScope Ng [a] sg) (h0 : Ng[0]? = some a) (va : Vis sg a) (hG : LamX.GivesTo X Ng x sg g cdv bg a q TT) (TB : LamX.TabB X.base X.mg c P) (hcode : X.env.code = .ref c)
    (hr : Room (k + 2) X.A) (L : LamX.LamS X.env.scope sc) (hdef : defaultsOf pr X.env = ([], []))
    (hbind : ∀ (q : Str) (cl : List (Str × Addr)) (pm cv ctv : Value), bindArgs (PySem.W.kla_fn "<lambda>" q pr bd sc cl pm cv ctv) ⟨[], []⟩ = pure [])
    (hbody : ∀ (A : Around) (outer : List Env) (s : Shared) (H : Hp) (E : XK) (f z : Addr), Room k (A.deeper (LamX.lamEnv X sc s.heap.objs.size f z)) → PE (LamX.lamCx X A outer s H E sc f z) bd (t E))
    (d1 : (x == ("__debug__" : Str)) = false := by decide) (d2 : (a == ("__debug__" : Str)) = false := by decide) (d3 : (a == ("__classdict__" : Str)) = false := by decide) :
    PE X (.Call (.Name x p) [.Lambda pr bd sc lpos] [] pos) (tLamP P q TT t) := by
  refine ⟨fun pins s σ H Q I ⟨hT, hh⟩ => wpAny_Call_Name_kw (ld_glob I hg hm (PySem.W.callWith_K (h₀ := X.base) I.ok.mod.kin hk ?_ (by rfl) (by rfl)) d1)⟩
  show wpAny _ _ (spliced ((false, eval (.Lambda pr bd sc lpos) X.env) :: backTo pos (starEach [] X.env))) _ _ s
  refine Calls.spliced_cons (lamP hq TB hcode hdef (L.has I.ok) I hT fun f z pm' ctv H1 s' J but T1 hf hfn hfr hz => Calls.spliced_nil ⟨J.kIn, ?_⟩)
  subst hq
  have run : codeAny (model X.prog X.w) X.A (.call (.ref g) ⟨[.ref f], []⟩) (CR C8.CX0 X.stack X.prog X.w H1 s' Q C8.E0) s' :=
    LamX.run_ofS (N := Ng) (ps := [a]) (us := [.ref f]) (vs := [.ref f]) lk hcg Sg hr J.env0 (hb s' [.ref f] J.kIn rfl) (.cons rfl .nil) rfl fun hr' => by
      obtain ⟨t', ht', hq'⟩ := hG f z s' H1 Q (fun E H' Q' => t E σ H' Q') (fun W pn xe E p1 p2 tk hW => LamX.pe_act (i := 0) J L hf hfn hfr (hbind _ _ _ _ _) tk hW hr' (fun A outer s H r2 => hbody A outer s H E f z r2) h0 va d2 d3) hz (hh H1 but T1)
      exact ⟨t', ht'.nox, hq'⟩
  refine wpAny_call (codeAny_mono run fun r s2 y => ?_)
  match r, y with
  | .ok (.ret u), y => exact J.after y
  | .ok .next, y => exact False.elim y
  | .ok .brk, y => exact False.elim y
  | .ok .cont, y => exact False.elim y
  | .error e, y => exact False.elim (show False from y)
end

/-! ### try .. except C as e: .., the rest goes on with what was caught pinned -/
section
variable {X : Cx} {x n : Str} {c : Value} {i : Nat} {body suite rest : List Stmt} {b0 : Stmt} {np pos pos' : Pos} {tb : WX → TS} {ts tr : Addr → Value → Option Addr → TS} {tn : TS}
def wKeep (K : PySem.W.Frag) (c : Value) (i : Nat) (ts tr : Addr → Value → Option Addr → TS) (D : Ends) : WX := fun cls d σ H =>
  PySem.W.exmOne K cls c = some true ∧ ∀ a, H a = none → ts a cls d { nx := fun σ' H' => tr a cls d D (σ'.set i none) H', rt := fun _ _ => False, bk := fun _ _ => False, ct := fun _ _ => False } (σ.set i (some (.ref a))) H
theorem pss_try_keep (hs : X.stack = X.env :: X.outer) (hf : X.env.frame = some X.env.locals) (hN : X.N.Nodup) (hi : X.N[i]? = some n) (hln : X.env.kindOf n = some .local) (hc : Names X x c)
    (hb : ∀ (W : WX) (pn : List (Addr × Obj)) (xe : Value → Shared → Prop), Takes (X.tr pn xe) W → PassesOwn (model X.prog X.w) X.A X.env xe → PSs (X.tr pn xe) body (tb W))
    (hsu : ∀ (a : Addr) (oe : Obj) (cls : Value) (d : Option Addr) (pn : List (Addr × Obj)), Zc cls d oe → (∃ vs, oe.data = .fields vs) → PSs (X.suite a ((a, oe) :: pn)) (b0 :: suite) (ts a cls d))
    (hre : ∀ (a : Addr) (oe : Obj) (cls : Value) (d : Option Addr) (pn : List (Addr × Obj)), Zc cls d oe → (∃ vs, oe.data = .fields vs) → PSs (X.tr ((a, oe) :: pn) X.xe) rest (tr a cls d)) (hr0 : PSs X rest tn) :
    PSs X (.Try body [.ExceptHandler (some (.Name x np)) (some n) (b0 :: suite) pos'] [] [] pos :: rest) (fun D σ H => tb (wKeep X.K c i ts tr D) { D with nx := fun σ' H' => tn D σ' H' } σ H) := by
  refine ⟨fun pins s σ H D I h => wpAny_execs_cons (wpAny_Try_except ?_)⟩
  have ok := I.ok
  have fr1 : X.A.frames = some (X.env :: X.outer) := by rw [ok.frames, hs]
  refine wpAny_mono ((hb (wKeep X.K c i ts tr D) (X.pn ++ pins) _ (fun u s' xx => ?_) PassesOwn.looking).run [] s σ H _ (I.toTry _) h) (fun f s1 q => ?_) (fun e s1 q => q)
  · obtain ⟨a, B, s0, pins', σ', H', cls, d, rfl, J0, nb, up, sky, na, os, ag, mt, yes⟩ := xx
    have J : Inv X pins σ' H' s0 := J0.ofTry ok
    show wpAny (model X.prog X.w) X.A (noteFrame (.ref a) X.env) _ _ _
    refine Sky.land Zc.steady fr1 hf (by rw [← hs]; exact sky) fun h3 fl3 up3 => ?_
    have J3 : Inv X pins σ' H' { s' with heap := h3 } := J.landed nb fl3.1 (up.trans up3) os ag
    obtain ⟨oe3, vs3, g3, z3, d3⟩ := fl3.there
    have nfr : a ∉ frs (X.env :: X.outer) := fun hm => by
      obtain ⟨_, o', e', hnf⟩ := fl3.2.2.1.mem hm
      rw [g3] at e'; cases e'
      exact hnf _ d3
    have nL : a ≠ X.env.locals := fun z => nfr (List.mem_filterMap.mpr ⟨X.env, List.mem_cons_self, by rw [hf, z]⟩)
    have nF : a ∉ X.fs := fun hm => let ⟨e, he, q⟩ := List.mem_filterMap.mp hm; nfr (List.mem_filterMap.mpr ⟨e, List.mem_cons_of_mem _ he, q⟩)
    have S3 := J3.suite g3 d3 na nL nF
    refine wpAny_handleBy_cons (codeAny_handlers_test ?_) (by intro q; cases q)
    have LM := PySem.W.exm_one (M := model X.prog X.w) J3.kIn (fun A Q E s k q => wpAny_typeOf_ref (k _ _ g3) (by rw [z3.1]; exact q)) mt
    have test : ∀ {Q E : Value → Shared → Prop}, Q c { s' with heap := h3 } → wpAny (model X.prog X.w) (X.A.mark (some (.ref a))) (eval (.Name x np) X.env) Q E { s' with heap := h3 } := fun {Q E} q => by
      obtain ⟨g1, g2, g3' | ⟨g3', g4, g5⟩⟩ := hc
      · exact ld_glob (X := X.suite a ((a, oe3) :: (X.pn ++ pins))) S3 g1 g3' q g2
      · exact ld_blt (X := X.suite a ((a, oe3) :: (X.pn ++ pins))) S3 g1 g3' g4 q g5 g2
    refine test (LM.here (codeAny_handlers_suite_as (HandSPX.lands_againZ fl3 fun h4 fl4 up4 => ?_)))
    obtain ⟨oe4, vs4, g4, z4, d4⟩ := fl4.there
    have S4 := (J.landed nb fl4.1 ((up.trans up3).trans up4) os ag : Inv X pins σ' H' { s' with heap := h4 }).suite g4 d4 na nL nF
    refine store_ok (X := X.suite a ((a, oe4) :: (X.pn ++ pins))) (v := .ref a) S4 hN hi (.inl hln) rfl (fun s5 S5 => ?_) (.inr hln)
    refine wpAny_mono ((hsu a oe4 cls d (X.pn ++ pins) z4 ⟨_, d4⟩).run [] s5 _ H' _ S5 (yes a na)) (fun f s6 hsp => ?_) (fun _ _ z => False.elim z)
    match f, hsp with
    | .brk, ⟨_, _, _, z⟩ => exact False.elim z
    | .cont, ⟨_, _, _, z⟩ => exact False.elim z
    | .ret _, ⟨_, _, _, _, _, z⟩ => exact False.elim z
    | .next, ⟨σ6, H6, S6, q6⟩ =>
      have P6 : Inv (X.tr ((a, oe4) :: (X.pn ++ pins)) X.xe) [] σ6 H6 s6 := ⟨ok.toTry _ _, S6.os, S6.bare, S6.base, S6.loc, S6.cell, S6.free, S6.freeC, S6.pin, S6.hok, S6.len⟩
      refine gone_ok (X := X.tr ((a, oe4) :: (X.pn ++ pins)) X.xe) P6 hN hi hln fun s7 J7 => ?_
      refine thn ((hre a oe4 cls d (X.pn ++ pins) z4 ⟨_, d4⟩).run [] s7 _ H6 D J7 q6) fun f8 s8 q8 => ?_
      have back : ∀ {σ8 : L2.St} {H8 : Hp}, Inv (X.tr ((a, oe4) :: (X.pn ++ pins)) X.xe) [] σ8 H8 s8 → Inv X pins σ8 H8 s8 := fun I8 =>
        ⟨ok, I8.os, I8.bare, I8.base, I8.loc, I8.cell, I8.free, I8.freeC, fun p hp => I8.pin p (List.mem_append_left _ (List.mem_cons_of_mem _ hp)), I8.hok, I8.len⟩
      match f8, q8 with
      | .next, ⟨_, _, I8, q⟩ => exact ⟨_, _, back I8, q⟩
      | .brk, ⟨_, _, I8, q⟩ => exact ⟨_, _, back I8, q⟩
      | .cont, ⟨_, _, I8, q⟩ => exact ⟨_, _, back I8, q⟩
      | .ret _, ⟨_, _, _, I8, r, q⟩ => exact ⟨_, _, _, back I8, r, q⟩
  · match f, q with
    | .next, ⟨σ2, H2, J2, q⟩ => exact wpAny_execs_nil (hr0.run pins s1 σ2 H2 D (J2.ofTry ok) q)
    | .brk, ⟨σ2, H2, J2, q⟩ => exact ⟨σ2, H2, J2.ofTry ok, q⟩
    | .cont, ⟨σ2, H2, J2, q⟩ => exact ⟨σ2, H2, J2.ofTry ok, q⟩
    | .ret _, ⟨v, σ2, H2, J2, r, q⟩ => exact ⟨v, σ2, H2, J2.ofTry ok, r, q⟩
end
end GD

namespace GD
open PySem PySem.Spec PyProof.Rows L2
/-! ### a caught error as a datum -/
def exD (nm : Str) : D := .dict [(.bool false, .str nm)]
/-- isinstance(e, C), e the error that is held -/
def rIsX (K : PySem.W.Frag) (C a : Addr) : List V → Hp → VK → Prop := fun xs H Q => ExcC K C ∧ rIsE K C a xs H Q
theorem call_isK {X : Cx} {K : PySem.W.Frag} {a C : Addr} {oe : Obj} (hp : (a, oe) ∈ X.pn) (hz : Zc (.ref C) none oe) (hf : ∃ vs, oe.data = .fields vs) (hK : X.K = K := by rfl) : CallR X (.builtin "isinstance") (rIsX K C a) := by
  subst hK
  intro pins s σ H xs us Q I r ⟨hC, cv, vv, b, ex, hcv, ek, q⟩
  subst ex
  match us, r with
  | [_, _], .cons rx (.cons rt .nil) =>
    cases rx
    cases hcv _ rt
    obtain ⟨hget, _⟩ := I.pin (a, oe) (List.mem_append.mpr (.inl hp))
    have J : PySem.W.InstAt s.heap a oe C none := by
      obtain ⟨vs, hv⟩ := hf
      obtain ⟨oc, od, oda, osl⟩ := oe
      obtain ⟨h1, h2⟩ := hz
      dsimp only at h1 h2 hv
      subst h1 h2 hv
      exact ⟨hget, rfl, rfl, trivial⟩
    exact PySem.W.kia_one (PySem.W.handS_kitx_exc hC.hg hC.hk hC.hs hC.hd hC.ha hC.hn hC.ht hC.hm) I.kIn J ek (fun z => nomatch z) fun tk => ⟨.bl b, H, I.kept (t' := tk) fun _ _ z => z, rfl, q⟩
def exNm : Rv → Option Str
  | .da (.dict [(.bool false, .str nm)]) => some nm
  | _ => none
theorem exNm_eq {x : Rv} {nm : Str} (h : exNm x = some nm) : x = .da (exD nm) := by
  unfold exNm at h
  split at h
  · cases h; rfl
  · cases h
def isxE (tab : Str → Option Bool) (a : M Rv) : M Rv := fun g => do
  let (x, g1) ← a g
  let nm ← ofO (exNm x)
  let b ← ofO (tab nm)
  pure (.da (.bool b), g1)
theorem dn_isx {c : CT} {E : XK} {tab : Str → Option Bool} {cv : V} {vv : Value} {a C : Addr} {ta : TE} {fa : M Rv} (hX : c.X = some (a, C)) (hcv : ∀ u, RelV cv u → u = vv)
    (ht : ∀ nm b C, tab nm = some b → c.mg nm = some (.ref C) → ExcC c.K C ∧ PySem.W.kitOne c.K (.ref C) vv = some b) (ha : Dn c E ta fa) : Dn c E (tCB (rIsX c.K C a) (tCons ta (tCons (tC cv) tNil))) (isxE tab fa) := by
  intro F ms hs g σ H Q Y h
  unfold isxE at h
  refine ha F ms hs g σ H _ Y ?_
  cases e1 : fa g with
  | no => rw [e1] at h; exact h
  | ex _ => rw [e1] at h; exact h
  | ok p =>
    obtain ⟨x, g1⟩ := p
    simp only [e1, Re.ok_bind] at h
    intro v1 H1 Y1 S1 o1
    cases e3 : exNm x with
    | none => rw [e3] at h; exact False.elim h
    | some nm =>
      rw [exNm_eq e3] at o1
      cases e2 : tab nm with
      | none => simp only [e3, e2, ofO_some, ofO_none, Re.ok_bind, Re.no_bind] at h
      | some b =>
        simp only [e3, e2, ofO_some, Re.ok_bind, Re.pure_eq] at h
        have o2 : Rp c (hid hs H1) v1 (.dict [(.bool false, .str nm)]) := o1
        cases o2 with
        | exc q1 q2 =>
          rw [hX] at q1
          cases q1
          obtain ⟨z1, z2⟩ := ht nm b _ e2 q2
          exact ⟨z1, cv, vv, b, rfl, hcv, z2, h _ H1 Y1 S1 (.bl b)⟩

/-! ### refused(lambda: e) -/
def atomV : D → Option V
  | .none => some .non
  | .int i => some (.int i)
  | .str z => some (.str z)
  | _ => none
theorem atomV_rp {c : CT} {H : Hp} {v v' : V} {d : D} (h : Rp c H v d) (e : atomV d = some v') : v = v' := by
  cases h <;> first | (cases e; rfl) | (unfold atomV at e; cases e)
/-- what the def makes of the lambda: None, or what ans says of the error's class -/
def TTr (mg : Str → Option Value) (ans : Str → Option D) : (XK → Hp → VK → Prop) → Hp → VK → Prop := fun tl H Q => ∀ (Ech : XK) (Qn : VK),
  (∀ (H' : Hp) (nm : Str) (C : Addr) (dd : D) (v : V), Same H H' → mg nm = some (.ref C) → ans nm = some dd → atomV dd = some v → (∀ H2, Same H' H2 → Q v H2) → Ech (.ref C) none H') →
  (∀ v H', Same H H' → (∀ H2, Same H' H2 → Q .non H2) → Qn v H') → tl Ech H Qn
theorem takes_len {X : Cx} {W : WX} (t : Takes X W) : Takes X (fun cls d σ H => σ.length = X.N.length → W cls d σ H) := fun u s' ⟨a, B, sI, pins, σ, H, cls, d, e, I, nb, up, sky, na, os, ag, w⟩ =>
  t u s' ⟨a, B, sI, pins, σ, H, cls, d, e, I, nb, up, sky, na, os, ag, w I.len⟩
theorem rel_un {c : CT} {H : Hp} {σ : L2.St} (hT : c.T = []) (hc : List Addr) (tr : ∀ a ∈ hc, H a ≠ none) : Rel c ⟨H, [], hc⟩ [] hc (List.replicate σ.length .un) σ H where
  len := by simp
  sl := fun i γ h => by
    rw [List.getElem?_replicate] at h
    split at h
    · cases h; exact True.intro
    · cases h
  dis := fun i j oi di oj dj a h => by
    rw [List.getElem?_replicate] at h
    split at h <;> cases h
  fr := fun b o h _ => h
  tr := tr
  sub := fun a h => h
  pc := fun a h => absurd h (by simp)
  oc := tr
  mh := fun a h => absurd h (by simp)
  tab := fun p hp => absurd hp (by rw [hT]; simp)
theorem Rel.drop {c : CT} {F : Fx} {ms hs : List Addr} {g : G} {σ : L2.St} {H : Hp} (Y : Rel c F ms hs g σ H) (j : Nat) : Rel c F ms hs (g.set j .un) (σ.set j none) H :=
  (Y.setUn j).slots (by rw [List.length_set]) fun i γ hi n => by
    by_cases e : j = i
    · subst e
      have hl : j < g.length := by
        have := (List.getElem?_eq_some_iff.mp hi).1
        rwa [List.length_set] at this
      rw [List.getElem?_set_self hl] at hi
      cases hi
      exact absurd rfl n
    · rw [List.getElem?_set_ne e]
/-- the body of a def that tells how it was refused -/
def refR (n i : Nat) (fS fR : G → SR) (nm : Str) : Option D := match fS ((List.replicate n Sl.un).set i (.da (exD nm))) with
  | .nx g => (match fR (g.set i .un) with
    | .rt (.da d) _ => some d
    | _ => none)
  | _ => none
def tBodyR (f z : Addr) (q : Str) (tl : XK → Hp → VK → Prop) (n : Nat) : WX → TS := fun W D σ H => ∃ Ech : XK, (∀ cls d σ' H', σ'.length = n → Ech cls d H' → W cls d σ' H') ∧ σ[0]? = some (some (.ref f)) ∧ H z = some (LamX.CodeO z q) ∧ tl Ech H fun _ H' => D.nx σ H'
theorem ref_read {P : Program} {w : World} {K : PySem.W.Frag} {mg : Str → Option Value} {n i : Nat} {f z : Addr} {q : Str} {tl : XK → Hp → VK → Prop} {H : Hp} {Q : VK} {ans : Str → Option D} {fS fR f0 : G → SR} {tn : TS} {ts tr : Addr → Value → Option Addr → TS} {Ex : Value} {σ : L2.St} {E : XK}
    (hn : σ.length = n) (h0 : σ[0]? = some (some (.ref f))) (h1 : σ[1]? = some (some .non)) (hz : H z = some (LamX.CodeO z q))
    (hx : ∀ nm C, (ans nm).isSome = true → mg nm = some (.ref C) → PySem.W.exmOne K (.ref C) Ex = some true)
    (hans : ∀ nm, (ans nm).isSome = true → refR n i fS fR nm = ans nm)
    (sS : ∀ a C, Sn ⟨P, w, K, mg, [], some (a, C)⟩ E (ts a (.ref C) none) fS) (sR : ∀ a C, Sn ⟨P, w, K, mg, [], some (a, C)⟩ E (tr a (.ref C) none) fR)
    (s0 : Sn ⟨P, w, K, mg, [], none⟩ E tn f0) (e0 : ∃ g, f0 (((List.replicate n Sl.un)).set 1 (.da .none)) = .rt (.da .none) g) (hi : i < n) (hl : 1 < n)
    (h : TTr mg ans tl H Q) : tBodyR f z q tl n (wKeep K Ex i ts tr { nx := fun _ H' => Q .non H', rt := Q }) { nx := fun σ' H' => tn { nx := fun _ H' => Q .non H', rt := Q } σ' H', rt := Q } σ H := by
  refine ⟨fun cls d H' => ∀ σ', σ'.length = n → wKeep K Ex i ts tr { nx := fun _ H' => Q .non H', rt := Q } cls d σ' H', fun cls d σ' H' hl' hw => hw σ' hl', h0, hz, h _ _ (fun H' nm C dd v sm hm ea ev hq σ' hl' => ?_) fun v H' sm hq => ?_⟩
  · have is := (show (ans nm).isSome = true by rw [ea]; rfl)
    refine ⟨hx nm C is hm, fun a na => ?_⟩
    have er := hans nm is
    rw [ea] at er
    unfold refR at er
    have Y : Rel ⟨P, w, K, mg, [], some (a, C)⟩ ⟨H', [], []⟩ [] [] ((List.replicate n Sl.un).set i (.da (exD nm))) (σ'.set i (some (.ref a))) H' := by
      have := (rel_un (c := ⟨P, w, K, mg, [], some (a, C)⟩) (H := H') (σ := σ') rfl [] (fun a h => absurd h (by simp))).setDa (v := .ref a) (d := exD nm) (.exc rfl hm) i
      rw [hl'] at this
      exact this
    refine sS a C _ _ _ _ _ _ _ Y ?_
    split at er
    next g2 e2 =>
      rw [e2]
      intro ms' hs' σ2 H2 Y2 S2
      refine sR a C _ _ _ _ _ _ _ (Y2.drop i) ?_
      split at er
      next d3 g3 e3 =>
        rw [e3]
        cases er
        intro ms3 hs3 σ3 v3 H3 Y3 S3 o3
        have e4 := atomV_rp (show Rp _ _ v3 dd from o3) ev
        rw [e4]
        exact hq H3 fun b o e => Y3.fr b o e (by simp)
      next => cases er
    next => cases er
  · have Y : Rel ⟨P, w, K, mg, [], none⟩ ⟨H', [], []⟩ [] [] ((List.replicate n Sl.un).set 1 (.da .none)) σ H' := by
      have y1 := (rel_un (c := ⟨P, w, K, mg, [], none⟩) (H := H') (σ := σ) rfl [] (fun a h => absurd h (by simp))).setDa (v := .non) (d := .none) .non 1
      rw [hn] at y1
      refine y1.slots (by rw [List.length_set]) fun j γ hj hne => ?_
      by_cases e : 1 = j
      · subst e
        rw [List.getElem?_set_self (by omega)]
        exact h1
      · rw [List.getElem?_set_ne e]
    refine s0 _ _ _ _ _ _ _ Y ?_
    obtain ⟨g, e0⟩ := e0
    rw [e0]
    intro ms3 hs3 σ3 v3 H3 Y3 S3 o3
    cases (show Rp _ _ v3 .none from o3)
    exact hq H3 fun b o e => Y3.fr b o e (by simp)
/-- what cannot be reached -/
theorem pss_false {X : Cx} {ss : List Stmt} : PSs X ss (fun _ _ _ => False) := ⟨fun _ _ _ _ _ _ h => h.elim⟩
theorem sn_false {c : CT} {E : XK} : Sn c E (fun _ _ _ => False) neverS := fun _ _ _ _ _ _ _ _ h => h
/-- the lambda is called, its error kept -/
theorem try_body {X : Cx} {f z : Addr} {q : Str} {tl : XK → Hp → VK → Prop} {n : Nat} {a : Str} {p1 p2 p3 : Pos} {W : WX} (hn : X.N.length = n) (tk : Takes X W)
    (act : ∀ (W : WX) (E : XK) (p1 p2 : Pos), Takes X W → (∀ cls d σ' H', E cls d H' → W cls d σ' H') → PE X (.Call (.Name a p1) [] [] p2) (fun σZ HZ Q => σZ[0]? = some (some (.ref f)) ∧ HZ z = some (LamX.CodeO z q) ∧ tl E HZ Q)) :
    PSs X [.Expr (.Call (.Name a p1) [] [] p2) p3] (tBodyR f z q tl n W) := by
  refine ⟨fun pins s σ H D I ⟨Ech, hW, h0, hz, hh⟩ => ?_⟩
  have ht := takes_len tk
  have hp := act _ Ech p1 p2 ht (fun cls d σ' H' e hl => hW cls d σ' H' (hl.trans hn) e)
  exact (pss_one (ps_expr (pos := p3) hp)).run pins s σ H D I ⟨h0, hz, hh⟩

/-! ### the caller -/
def roS : Sl → Sl
  | .ml _ _ => .un
  | s => s
def refE (ans : Str → Option D) (f : M Rv) : M Rv := fun g => match f (g.map roS) with
  | .ok _ => .ok (.da .none, g)
  | .ex e => (match ans e with
    | some d => .ok (.da d, g)
    | none => .no)
  | .no => .no
theorem Rel.ro {c c' : CT} {F : Fx} {ms hs : List Addr} {g : G} {σ : L2.St} {H : Hp} (Y : Rel c F ms hs g σ H) (hK : c'.K = c.K) (hm : c'.mg = c.mg) (hX : c'.X = c.X) (hT : c'.T = []) : Rel c' ⟨H, [], hs⟩ [] hs (g.map roS) σ H where
  len := by rw [List.length_map]; exact Y.len
  sl := fun i γ h => by
    rw [List.getElem?_map] at h
    cases e : g[i]? with
    | none => rw [e] at h; cases h
    | some γ0 =>
      rw [e] at h
      cases h
      have q := Y.sl i γ0 e
      cases γ0 with
      | un => exact True.intro
      | da d => obtain ⟨v, e1, r⟩ := q; exact ⟨v, e1, r.cast hK hm hX⟩
      | ml _ _ => exact True.intro
  dis := fun i j oi di oj dj a h => by
    rw [List.getElem?_map] at h
    cases e : g[i]? with
    | none => rw [e] at h; cases h
    | some γ0 =>
      rw [e] at h
      cases γ0 <;> cases h
  fr := fun b o h _ => h
  tr := Y.tr
  sub := fun a h => h
  pc := fun a h => absurd h (by simp)
  oc := Y.tr
  mh := fun a h => absurd h (by simp)
  tab := fun p hp => absurd hp (by rw [hT]; simp)
/-- only tables change -/
theorem Rel.table {c : CT} {F : Fx} {ms hs : List Addr} {g : G} {σ : L2.St} {H H1 : Hp} {P : Addr} {q : Str} (Y : Rel c F ms hs g σ H) (hP : (P, q) ∈ c.T) (hu : ∀ p ∈ c.T, p.1 = P → p.2 = q) (b : ButT P H H1) (t : LamX.TabS H1 P q) : Rel c F ms hs g σ H1 := by
  obtain ⟨⟨m1, m2⟩, ps, hps, _⟩ := Y.tab _ hP
  have mh := Y.mh _ m1
  have sm : Same (hid hs H) (hid hs H1) := fun x o e => by
    by_cases hx : x ∈ hs
    · rw [hid_in hx] at e; cases e
    · rw [hid_out hx] at e ⊢
      exact b x o (fun z => hx (by rw [z]; exact mh)) e
  refine ⟨Y.len, fun i γ hi => ?_, Y.dis, fun x o hx hp => b x o (fun z => hp (by rw [z]; exact m2)) (Y.fr x o hx hp), fun x hx e => ?_, Y.sub, Y.pc, Y.oc, Y.mh, fun p hp => ⟨(Y.tab p hp).1, ?_⟩⟩
  · have y := Y.sl i γ hi
    cases γ with
    | un => exact True.intro
    | da d => obtain ⟨v, e1, r⟩ := y; exact ⟨v, e1, r.same sm⟩
    | ml o d => obtain ⟨x, vs, e1, z1, o1, o2, hx, r⟩ := y; exact ⟨x, vs, e1, z1, o1, o2, b x _ (fun z => by rw [z, hps] at hx; cases hx) hx, r.same sm⟩
  · by_cases z : x = P
    · obtain ⟨ps2, h2, _⟩ := t
      rw [z, h2] at e; cases e
    · cases y : H x with
      | none => exact Y.tr x hx y
      | some o => rw [b x o z y] at e; cases e
  · by_cases z : p.1 = P
    · rw [hu p hp z, z]; exact t
    · obtain ⟨ps3, h3, t3, a3⟩ := (Y.tab p hp).2
      refine ⟨ps3, b _ _ z h3, t3, fun pos cv hc => ?_⟩
      obtain ⟨y, e1, e2⟩ := a3 pos cv hc
      exact ⟨y, e1, b _ _ (fun n => by rw [n, hps] at e2; exact LamX.codeO_ne ps (Option.some.inj e2).symm) e2⟩
theorem dn_lam {c c' : CT} {E : XK} {P : Addr} {q : Str} {ans : Str → Option D} {t : XK → TE} {fb : M Rv} (hP : (P, q) ∈ c.T) (hu : ∀ p ∈ c.T, p.1 = P → p.2 = q)
    (hans : ∀ nm dd u, ans nm = some dd → c.mg nm = some u → (∃ C, u = .ref C) ∧ (∃ v, atomV dd = some v) ∧ ∀ H v, atomV dd = some v → Rp c H v dd) (hb : ∀ E', Dn c' E' (t E') fb)
    (hK : c'.K = c.K := by rfl) (hm : c'.mg = c.mg := by rfl) (hX : c'.X = c.X := by rfl) (hT : c'.T = [] := by rfl) : Dn c E (tLamP P q (TTr c.mg ans) t) (refE ans fb) := by
  intro F ms hs g σ H Q Y h
  refine ⟨(Y.tab _ hP).2, fun H1 b T1 Ech Qn hE hQ => ?_⟩
  have Y1 := Y.table hP hu b T1
  have back : ∀ {H2 : Hp}, Same H1 H2 → Rel c F ms hs g σ H2 ∧ Sm ms hs H H2 := fun {H2} s2 => ⟨Y1.grow s2, ⟨fun x o e => by
      by_cases hx : x ∈ hs
      · rw [hid_in hx] at e; cases e
      · rw [hid_out hx] at e ⊢
        exact s2 _ _ (b x o (fun z => hx (by rw [z]; exact Y.mh _ (Y.tab _ hP).1.1)) e), fun x o e n => s2 _ _ (b x o (fun z => n (by rw [z]; exact (Y.tab _ hP).1.1)) e)⟩⟩
  unfold refE at h
  refine hb Ech ⟨H1, [], hs⟩ [] hs (g.map roS) σ H1 Qn (Y1.ro hK hm hX hT) ?_
  cases e : fb (g.map roS) with
  | no => rw [e] at h; exact h
  | ok p =>
    obtain ⟨r, g2⟩ := p
    rw [e] at h
    dsimp only at h
    intro v H' Y' S' o'
    have s1 : Same H1 H' := fun x o y => Y'.fr x o y (by simp)
    exact hQ v H' s1 fun H2 s2 => h .non H2 (back (s1.trans s2)).1 (back (s1.trans s2)).2 .non
  | ex nm =>
    rw [e] at h
    dsimp only at h
    cases ea : ans nm with
    | none => rw [ea] at h; exact False.elim h
    | some dd =>
      rw [ea] at h
      dsimp only at h
      intro u H' hu' sm
      rw [hm] at hu'
      obtain ⟨⟨C, hC⟩, ⟨v, hv⟩, hr⟩ := hans nm dd u ea hu'
      subst hC
      have s1 : Same H1 H' := fun x o y => sm x o y (by simp)
      exact hE H' nm C dd v s1 hu' ea hv fun H2 s2 => h v H2 (back (s1.trans s2)).1 (back (s1.trans s2)).2 (hr _ v hv)
end GD

/-! GDN: methods of lists and texts that give a value; in, not in. -/
namespace GD
open PySem PySem.Spec PyProof.Rows L2
variable {c : CT} {E : XK}
def MeD (c : CT) (r : V → List V → Hp → VK → Prop) (f : D → List D → Option Rv) : Prop :=
  ∀ (hs : List Addr) (H : Hp) (x : V) (xs : List V) (dx : D) (ds : List D) (Q : VK), (∀ a ∈ hs, H a ≠ none) → Rq c hs H x dx → RqL c hs H xs ds →
    (match f dx ds with
      | some rv => ∀ v H', Same H H' → RvOk c hs H H' v rv → Q v H'
      | none => False) → r x xs H Q
def TyB (c : CT) (T : String) (b : D → Bool) : Prop := ∀ (hs : List Addr) (H : Hp) (x : V) (d : D), b d = true → Rq c hs H x d → tyV c.K T x H
def meE (b : D → Bool) (f : D → List D → Option Rv) (o : M Rv) (a : M (List Rv)) : M Rv := fun g => do
  let (x, g1) ← o g
  let d0 ← ofO (x.dat g1)
  if b d0 = true then do
    let (rs, g2) ← a g1
    let dx ← ofO (x.dat g2)
    let ds ← ofO (datL g2 rs)
    let r ← ofO (f dx ds)
    pure (r, g2)
  else .no
theorem dn_me {T : String} {b : D → Bool} {r : V → List V → Hp → VK → Prop} {f : D → List D → Option Rv} {to : TE} {ta : TA} {fo : M Rv} {fa : M (List Rv)} (hb : TyB c T b) (ho : MeD c r f) (h1 : Dn c E to fo) (h2 : Da c E ta fa) :
    Dn c E (tBM c.K T r to ta) (meE b f fo fa) := by
  intro F ms hs g σ H Q Y h
  unfold meE at h
  refine h1 F ms hs g σ H _ Y ?_
  cases e1 : fo g with
  | no => rw [e1] at h; exact h
  | ex _ => rw [e1] at h; exact h
  | ok p1 =>
    obtain ⟨x1, g1⟩ := p1
    simp only [e1, Re.ok_bind, Re.pure_eq] at h
    intro v1 H1 Y1 S1 o1
    cases q0 : x1.dat g1 with
    | none => rw [q0] at h; exact False.elim h
    | some d0 =>
      simp only [q0, ofO_some, Re.ok_bind] at h
      by_cases hbd : b d0 = true
      · simp only [hbd, if_true] at h
        refine ⟨hb hs H1 v1 d0 hbd ((o1.l Y.tr).q Y1 q0), ?_⟩
        refine h2 F ms hs g1 σ H1 _ Y1 ?_
        cases e2 : fa g1 with
        | no => rw [e2] at h; exact h
        | ex _ => rw [e2] at h; exact h
        | ok p2 =>
          obtain ⟨x2, g2⟩ := p2
          simp only [e2, Re.ok_bind, Re.pure_eq] at h
          intro v2 H2 Y2 S2 o2
          cases q3 : x1.dat g2 with
          | none => rw [q3] at h; exact False.elim h
          | some d3 =>
            simp only [q3, ofO_some, Re.ok_bind, Re.pure_eq] at h
            cases q4 : datL g2 x2 with
            | none => rw [q4] at h; exact False.elim h
            | some d4 =>
              simp only [q4, ofO_some, Re.ok_bind, Re.pure_eq] at h
              refine ho hs H2 v1 v2 d3 d4 Q Y2.tr (((o1.l Y.tr).same S2.s).q Y2 q3) (RvLs.q Y2 o2 q4) ?_
              cases q5 : f d3 d4 with
              | none => rw [q5] at h; exact False.elim h
              | some d5 =>
                simp only [q5, ofO_some, Re.ok_bind, Re.pure_eq] at h
                exact fin_op Y2 (S1.trans S2) h
      · rw [if_neg hbd] at h
        exact False.elim h
def bList : D → Bool
  | .list _ => true
  | _ => false
def bStr : D → Bool
  | .str _ => true
  | _ => false
theorem ty_list : TyB c "list" bList := by
  intro hs H x d hb h
  cases d with
  | list ds =>
    obtain ⟨a, us, rfl, h1, _⟩ := h.lstInv
    exact .inl ⟨rfl, us, .inl h1⟩
  | _ => cases hb
theorem ty_str : TyB c "str" bStr := by
  intro hs H x d hb h
  cases d with
  | str z =>
    cases h with
    | da h => cases h; rfl
  | _ => cases hb
/-- the first place of an equal one -/
def idxOf (d : D) : List D → Option Nat
  | [] => none
  | z :: zs => if PyData.eqv z d then some 0 else (idxOf d zs).map (· + 1)
theorem idxOf_some {d : D} : ∀ {ds : List D} {j : Nat}, idxOf d ds = some j → (∃ z, ds[j]? = some z ∧ PyData.eqv z d = true) ∧ ∀ (m : Nat) (z' : D), m < j → ds[m]? = some z' → PyData.eqv z' d = false
  | [], j, h => by cases h
  | z :: zs, j, h => by
    unfold idxOf at h
    split at h
    next e => cases h; exact ⟨⟨z, rfl, e⟩, fun m z' hm => absurd hm (by omega)⟩
    next e =>
      simp only [Option.map_eq_some_iff] at h
      obtain ⟨k, hk, rfl⟩ := h
      obtain ⟨⟨y, h1, h2⟩, h3⟩ := idxOf_some hk
      refine ⟨⟨y, by simpa using h1, h2⟩, fun m z' hm hz => ?_⟩
      cases m with
      | zero => cases hz; simpa using e
      | succ m => exact h3 m z' (by omega) (by simpa using hz)
def indexD : D → List D → Option Rv
  | .list ds, [d] => if SeqAt.shaped (.list ds) && SeqAt.shaped d then (idxOf d ds).map fun j : Nat => .da (.int (j : Int)) else none
  | _, _ => none
theorem d_index : MeD c (rIndexD c.K) indexD := by
  intro hs H x xs dx ds Q tr hx hxs h
  unfold indexD at h
  split at h
  next rv e =>
    split at e
    next ys d =>
      split at e
      next hc =>
        simp only [Option.map_eq_some_iff] at e
        obtain ⟨j, hj, rfl⟩ := e
        rw [Bool.and_eq_true] at hc
        obtain ⟨y, rfl, hy⟩ := hxs.oneInv
        have hl := hx.dp (nodict_of_shaped hc.1)
        obtain ⟨a, us, rfl, _, _⟩ := hx.lstInv
        obtain ⟨⟨z, h1, h2⟩, h3⟩ := idxOf_some hj
        exact ⟨a, y, d, ys, j, z, rfl, rfl, hl, hy.dp (nodict_of_shaped hc.2), hc.1, hc.2, h1, h2, h3, h _ H (Same.refl _) (.int _)⟩
      next => cases e
    next => cases e
  next => exact h.elim
theorem d_in : OpD c (rInD c.K) inD := by
  intro hs H x y dx dy Q tr hx hy h
  unfold inD at h
  split at h
  next rv e =>
    split at e
    next d ys =>
      split at e
      next hc =>
        cases e
        rw [Bool.and_eq_true] at hc
        exact ⟨_, ys, hx.dp (nodict_of_shaped hc.1), hy.dp (nodict_of_shaped hc.2), hc.1, hc.2, h _ H (Same.refl _) (.bl _)⟩
      next => cases e
    next => cases e
  next => exact h.elim
theorem d_notin : OpD c (rNotInD c.K) notInD := by
  intro hs H x y dx dy Q tr hx hy h
  unfold notInD at h
  split at h
  next rv e =>
    split at e
    next d ys =>
      split at e
      next hc =>
        cases e
        rw [Bool.and_eq_true] at hc
        exact ⟨_, ys, hx.dp (nodict_of_shaped hc.1), hy.dp (nodict_of_shaped hc.2), hc.1, hc.2, h _ H (Same.refl _) (.bl _)⟩
      next => cases e
    next => cases e
  next => exact h.elim
theorem atom_rp {H : Hp} {v : V} {dd : D} (e : atomV dd = some v) : Rp c H v dd := by
  unfold atomV at e
  split at e <;> first | (cases e; constructor) | cases e
/-! ### isinstance of one of two built-in types -/
def isi2E (T1 T2 : String) (a : M Rv) : M Rv := op1 (fun d => some (.da (.bool (isiD T1 d || isiD T2 d)))) a
theorem dn_isi2 {T1 T2 : String} {ta : TE} {fa : M Rv} (h1 : T1 = "int" ∨ T1 = "bool" ∨ T1 = "str" ∨ T1 = "list" ∨ T1 = "tuple" ∨ T1 = "dict") (h2 : T2 = "int" ∨ T2 = "bool" ∨ T2 = "str" ∨ T2 = "list" ∨ T2 = "tuple" ∨ T2 = "dict") (ha : Dn c E ta fa) (hx : c.X = none := by rfl) :
    Dn c E (tCB (rIsiT c.K) (tCons ta (tCons (tTup (tCons (tC (.ty T1)) (tCons (tC (.ty T2)) tNil))) tNil))) (isi2E T1 T2 fa) := by
  intro F ms hs g σ H Q Y h
  unfold isi2E op1 at h
  refine ha F ms hs g σ H _ Y ?_
  cases e1 : fa g with
  | no => rw [e1] at h; exact h
  | ex _ => rw [e1] at h; exact h
  | ok p =>
    obtain ⟨x, g1⟩ := p
    simp only [e1, Re.ok_bind] at h
    intro v1 H1 Y1 S1 o1
    cases q3 : x.dat g1 with
    | none => rw [q3] at h; exact False.elim h
    | some d3 =>
      simp only [q3, ofO_some, Re.ok_bind, Re.pure_eq] at h
      obtain ⟨t, q1, q2⟩ := tyq_of hx ((o1.l Y.tr).q Y1 q3)
      refine ⟨sz_of (by simp), fun p hp => ?_⟩
      have sm := same_new (o := .tup [V.ty T1, V.ty T2]) hp
      refine ⟨v1, p, [.ty T1, .ty T2], .type t, [.type T1, .type T2], isiD T1 d3 || isiD T2 d3, rfl, upd_same, .cons (.ty _) (.cons (.ty _) .nil), tyx_grow sm q1, ?_, h _ _ (Y1.grow sm) (S1.trans (Sm.grow sm)) rvok_bool⟩
      exact kitAny_cons (q2 T1 h1) (fun e => kitAny_cons (q2 T2 h2) (fun e2 => by rw [kitAny_nil, e, e2]; rfl) (fun e2 => by rw [e2]; simp)) (fun e => by rw [e]; rfl)
/-! ### written dicts -/
theorem dn_dict0 : Dn c E tDNewK (cE (.dict [])) := by
  intro F ms hs g σ H Q Y h
  have h2 : ∀ v H', Rel c F ms hs g σ H' → Sm ms hs H H' → RvR c F ms g σ hs H H' v (.da (.dict [])) → Q v H' := h
  intro p hp
  have e := same_new (o := .dK []) hp
  refine h2 (.ref p) _ (Y.grow e) (Sm.grow e) (.dct0 ?_)
  rw [hid_out (Y.fresh hp), upd_same]
theorem dn_dict1 {k v : Int} : Dn c E (tDisp [(tC (.int k), tC (.int v))]) (cE (.dict [(.int k, .int v)])) := by
  intro F ms hs g σ H Q Y h
  have h2 : ∀ x H', Rel c F ms hs g σ H' → Sm ms hs H H' → RvR c F ms g σ hs H H' x (.da (.dict [(.int k, .int v)])) → Q x H' := h
  intro p hp
  refine ⟨upd_same, [(.inl k, .int v)], rfl, by simp, ?_⟩
  rw [upd_upd]
  have e := same_new (o := .dK (mergeK [] [(.inl k, .int v)])) hp
  refine h2 (.ref p) _ (Y.grow e) (Sm.grow e) (.dcti ?_)
  rw [hid_out (Y.fresh hp), upd_same]
  rfl
/-! ### a law with lambdas -/
section
variable {P : Program} {w : World} {K : PySem.W.Frag} {mg : Str → Option Value} {base : Heap}
def spT (c : CT) (Pt : Addr) (q : Str) (Fd : List D → Re Rv) : Sp := fun vs H Q _ => ∃ ds, LamX.TabS H Pt q ∧ RpL c (hid [Pt] H) vs ds ∧
  match Fd ds with
  | .ok (.da d) => ∀ v H' hs', Rp c (hid hs' H') v d → Q v H'
  | _ => False
theorem okT {x qual q : Str} {st : Stmt} {f Pt cc : Addr} {oc : Value} {od an : Option Addr} {osl : Array (Option Value)} {kV doc pm ct : Value} {N ps : List Str} {k : Nat} {fb : G → SR}
    (lk : K.lookup f = some ⟨oc, od, .func (PySem.W.fnOf x qual (defArgs st) (defBody st) (defScope st) .none kV doc pm an (.ref cc) ct), osl⟩) (hcd : PySem.W.codeIn K (.ref cc) qual = true) (S : FnScope N ps (defScope st))
    (hbody : ∀ (A : Around) (outer : List Env) (s : Shared) (H : Hp) (E : XK), Room k (A.deeper (envOfC qual (defScope st) s.heap.objs.size f (.ref cc))) →
      ∃ t, PSs (cxOf (L2.CX P w) P w K mg base N qual (defScope st) f (.ref cc) A outer s H E) (defBody st) t ∧ Sn ⟨P, w, K, mg, [(Pt, q)], none⟩ E t fb) :
    FnOk P w K mg base (L2.CX P w) (k + 1) f (PySem.W.fnOf x qual (defArgs st) (defBody st) (defScope st) .none kV doc pm an (.ref cc) ct) ps (spT ⟨P, w, K, mg, [(Pt, q)], none⟩ Pt q (runP ps.length N.length fb)) := by
  have len : ∀ vs H Q E, spT ⟨P, w, K, mg, [(Pt, q)], none⟩ Pt q (runP ps.length N.length fb) vs H Q E → vs.length = ps.length := fun vs H Q E ⟨ds, _, r, h⟩ => by
    rw [r.length]
    unfold runP at h
    split at h
    next d e =>
      split at e
      next hl => exact hl
      next => cases e
    next => exact h.elim
  refine fn_of lk hcd S len fun A outer s H vs Q E hr h => ?_
  obtain ⟨t, h1, h2⟩ := hbody A outer s H E hr
  refine ⟨t, h1, ?_⟩
  have hl := len _ _ _ _ h
  obtain ⟨ds, tb, r, h⟩ := h
  have hds : ds.length = ps.length := by rw [← r.length]; exact hl
  have hpn : ps.length ≤ N.length := by have := congrArg List.length S.pre; rw [List.length_take] at this; omega
  unfold runP at h
  rw [if_pos hds] at h
  have nP : H Pt ≠ none := by
    obtain ⟨_, e, _⟩ := tb
    rw [e]; exact fun z => nomatch z
  have tr : ∀ a ∈ [Pt], H a ≠ none := fun a ha => by
    cases List.mem_singleton.mp ha
    exact nP
  refine h2 ⟨H, [Pt], [Pt]⟩ [Pt] [Pt] (ds.map .da ++ List.replicate (N.length - ps.length) .un) (L2.start N vs) H _ ?_ ?_
  · refine ⟨?_, fun i γ hi => ?_, fun i j oi di oj dj a hi => absurd hi no_ml, fun b o hb _ => hb, tr, fun a ha => ha, fun a ha => ha, tr, fun a ha => ha, fun p hp => ?_⟩
    · unfold L2.start
      simp only [List.length_append, List.length_map, List.length_replicate]
      omega
    · unfold L2.start
      rw [hl]
      exact rp_slots r i γ hi
    · cases List.mem_singleton.mp hp
      exact ⟨⟨List.mem_singleton.mpr rfl, List.mem_singleton.mpr rfl⟩, tb⟩
  · cases e : fb (ds.map .da ++ List.replicate (N.length - ps.length) .un) with
    | nx g =>
      rw [e] at h
      exact fun ms' hs' σ' H' Y' S' => h .non H' [] .non
    | rt r g =>
      rw [e] at h
      intro ms' hs' σ' v H' Y' S' o'
      cases r with
      | da d => exact h v H' hs' o'
      | fl ds => exact h.elim
      | bl i => exact o'.elim
    | ex e' => rw [e] at h; exact h.elim
    | bk g => rw [e] at h; exact h.elim
    | ct g => rw [e] at h; exact h.elim
    | no => rw [e] at h; exact h.elim
/-- the law with a table hands back True -/
def spLawT (K : PySem.W.Frag) (Pt : Addr) : Sp := fun vs H Q _ => ∃ (a : Addr) (ns : List Int), vs = [.ref a] ∧ SqL K H a (ns.map V.int) ∧ ns.length ≤ 63 ∧ H Pt = some (.tbl #[]) ∧ ∀ H', Q (.bl true) H'
theorem law_impT {CX : CXT} {k : Nat} {f Pt : Addr} {q : Str} {fd : FuncData} {ps : List Str} {m : List D → Re Rv}
    (h : FnOk P w K mg base CX k f fd ps (spT ⟨P, w, K, mg, [(Pt, q)], none⟩ Pt q m)) (t : ∀ ns : List Int, ns.length ≤ 63 → m [scrD ns] = .ok (.da (.bool true))) : FnOk P w K mg base CX k f fd ps (spLawT K Pt) :=
  h.imp fun vs H Q E ⟨a, ns, e, hS, hl, hP, z⟩ => by
    subst e
    refine ⟨[scrD ns], LamX.TabS.nil hP, .cons (.scr ?_ (rpl_ints ns)) .nil, ?_⟩
    · rcases hS with (y | ⟨o, y⟩) | y
      · exact .inl (.inl (by rw [hid_out (fun n => by cases List.mem_singleton.mp n; rw [hP] at y; cases y)]; exact y))
      · exact .inl (.inr ⟨o, by rw [hid_out (fun n => by cases List.mem_singleton.mp n; rw [hP] at y; cases y)]; exact y⟩)
      · exact .inr y
    · rw [t ns hl]
      intro v H' hs' o
      cases (show Rp _ _ v (.bool true) from o).blInv
      exact z H'
end
section
variable {X : Cx}
/-- refused(lambda: e) -/
theorem pe_refd {TT : (XK → Hp → VK → Prop) → Hp → VK → Prop} {x a q : Str} {g c P : Addr} {k : Nat} {st : Stmt} {fd : FuncData} {Ng : List Str} {pr : Arguments} {bd : Expr} {sc : Scope} {t : XK → TE} {p lpos pos : Pos}
    (F : Fun X.K x x st g fd) (hm : X.mg x = some (.ref g)) (hg : Gl X x) (hb : L2.Binds X.K fd [a] []) (Sg : FnScope Ng [a] (defScope st)) (h0 : Ng[0]? = some a) (va : Vis (defScope st) a)
    (hG : ∀ cdv, LamX.GivesTo X Ng x (defScope st) g cdv (defBody st) a q TT) (TB : LamX.TabB X.base X.mg c P) (hq : X.env.qual ++ "<lambda>" = q) (hcode : X.env.code = .ref c)
    (hr : Room (k + 2) X.A) (L : LamX.lamSB X.env.scope sc = true) (hdef : defaultsOf pr X.env = ([], []))
    (hbind : ∀ (q : Str) (cl : List (Str × Addr)) (pm cv ctv : Value), bindArgs (PySem.W.kla_fn "<lambda>" q pr bd sc cl pm cv ctv) ⟨[], []⟩ = pure [])
    (hbody : ∀ (A : Around) (outer : List Env) (s : Shared) (H : Hp) (E : XK) (f z : Addr), Room k (A.deeper (LamX.lamEnv X sc s.heap.objs.size f z)) → PE (LamX.lamCx X A outer s H E sc f z) bd (t E))
    (d1 : (x == ("__debug__" : Str)) = false := by decide) (d2 : (a == ("__debug__" : Str)) = false := by decide) (d3 : (a == ("__classdict__" : Str)) = false := by decide) :
    PE X (.Call (.Name x p) [.Lambda pr bd sc lpos] [] pos) (tLamP P q TT t) := by
  obtain ⟨oc, od, kV, doc, pm, an, cdv, ct, osl, rfl, lk, hcd⟩ := F.ex
  exact pe_lamP hq hm F.kp hg lk hb hcd Sg h0 va (hG cdv) TB hcode hr (LamX.lamS_by L) hdef hbind hbody d1 d2 d3
end
theorem roS_da (d : D) : roS (.da d) = .da d := rfl
theorem roS_un : roS .un = .un := rfl
theorem roS_ml (o : Bool) (ds : List D) : roS (.ml o ds) = .un := rfl
theorem k_isiT {X : Cx} {K : PySem.W.Frag} (h : X.K = K := by rfl) : CallR X (.builtin "isinstance") (rIsiT K) := h ▸ call_isiT
theorem kpe_bm {X : Cx} {K : PySem.W.Frag} {o e : Expr} {es : List Expr} {to : TE} {t : TA} {name : Str} {apos cpos : Pos} {T id : String} {r : V → List V → Hp → VK → Prop}
    (pa : PlainAttrs T) (slot : Slot T name id) (hty : typeOf (.builtin id) = pure (.type "method_descriptor")) (hm : MtR X id r) (ho : PE X o to) (ha : PA X (e :: es) t) (h : X.K = K := by rfl)
    (h1 : attributeBase o name X.env (eval o X.env) = eval o X.env := by rfl)
    (h2 : ((backTo cpos (starEach (e :: es) X.env)).all (fun x => !x.1) && (backToKw cpos (keywordEach [] X.env)).all (fun x => x.1.isSome) && decide ((e :: es).length + ([] : List Keyword).length + (if ([] : List Keyword).isEmpty then 0 else 1) < 30)) = true := by rfl)
    (h3 : (apos.endLine == cpos.line) = true := by rfl) (h4 : starEach (e :: es) X.env = (false, eval e X.env) :: starEach es X.env := by rfl) (h5 : (backTo cpos (starEach es X.env)).any (·.1) = false := by rfl) :
    PE X (.Call (.Attribute o name apos) (e :: es) [] cpos) (tBM K T r to t) := h ▸ pe_bm pa slot hty hm ho ha h1 h2 h3 h4 h5
theorem k_index {X : Cx} {K : PySem.W.Frag} (hu : X.A.units + 65 < cLine) (h : X.K = K := by rfl) : MtR X "list.index" (rIndexD K) := h ▸ mt_indexD hu
end GD

/-! GDS: a tuple turned round, t[::-1]. -/
namespace HT
open PySem PySem.Spec PyProof.Rows
section
variable {prog : Program} {w : World} {A : Around} {E : Value → Shared → Prop} {s : Shared}
theorem back_adjust (n : Nat) : Builtin.Slice.sliceAdjust none none (-1) (n : Int) = ((n : Int) - 1, -1) := by
  unfold Builtin.Slice.sliceAdjust
  simp
theorem back_places (n : Nat) : Builtin.Slice.slicePlaces ((n : Int) - 1) (-1) (-1) = n := by
  unfold Builtin.Slice.slicePlaces
  rw [if_neg (by decide)]
  by_cases h : (n : Int) - 1 > -1
  · rw [if_pos h, show (- -1 : Int) = 1 by decide, Int.ediv_one]; omega
  · rw [if_neg h]; omega
theorem fm_congr {α β : Type} {f g : α → Option β} : ∀ {l : List α}, (∀ k ∈ l, f k = g k) → l.filterMap f = l.filterMap g
  | [], _ => rfl
  | a :: l, h => by rw [List.filterMap_cons, List.filterMap_cons, h a (by simp), fm_congr fun k hk => h k (by simp [hk])]
theorem back_pick (xs : Array Value) : ((List.range xs.size).filterMap fun (k : Nat) => xs[(((xs.size : Int) - 1) + (k : Int) * (-1)).toNat]?).toArray = xs.toList.reverse.toArray := by
  congr 1
  have e : ∀ k ∈ List.range xs.size, xs[(((xs.size : Int) - 1) + (k : Int) * (-1)).toNat]? = xs.toList.reverse[k]? := fun k hk => by
    have hk' := List.mem_range.mp hk
    have : (((xs.size : Int) - 1) + (k : Int) * (-1)).toNat = xs.size - 1 - k := by omega
    rw [this, List.getElem?_reverse (by simpa using hk')]
    simp
  rw [fm_congr e]
  have : xs.size = xs.toList.reverse.length := by simp
  rw [this]
  generalize xs.toList.reverse = l
  induction l with
  | nil => rfl
  | cons a l ih =>
    rw [List.length_cons, List.range_succ_eq_map, List.filterMap_cons]
    simp only [List.getElem?_cons_zero, List.filterMap_map]
    congr 1
theorem getItem_tuple_back {t sl : Addr} {items : Array Value} {vl vu vs : Value} {Q : Value → Shared → Prop} (ht : IsTup s.heap t items) (hs : s.heap.IsSliceOf sl vl vu vs) (pl : IsPart vl none) (pu : IsPart vu none) (ps : IsPart vs (some (-1)))
    (h : Q (.ref s.heap.objs.size) { s with heap := s.heap.push { cls := .type "tuple", data := .seq items.toList.reverse.toArray } }) (hsz : items.size ≤ sizeLine) : wpAny (model prog w) A (getItem (.ref t) (.ref sl)) Q E s := by
  have fits : sizeOk (.seq items.toList.reverse.toArray) := by
    show items.toList.reverse.toArray.size ≤ sizeLine
    simpa using hsz
  obtain ⟨os, g1, g2, g3⟩ := id hs
  unfold getItem
  try with_reducible refine wpAny_holding ?_
  first | refine wpAny_bind (wpAny_pure ?_) | skip
  refine wpAny_bind (wpAny_sequenceKey ht.typeIs (by decide) (wpAny_bind (wpAny_callSpecial?_slot (name := Str.ofString "__getitem__") ht.typeIs PyProof.Rows.slot_tuple_getitem
    (wpAny_call_entry PyProof.Rows.slot_tuple_getitem ht.typeIs entry_tuple_getitem ?_ (args_tuple_getitem _ _)))))
  show wpAny _ _ (Builtin.Tuple.tupleItemsOf (.ref t) >>= _) _ _ s
  refine wpAny_bind (tupleItemsOf_ ht (wpAny_bind (wpAny_typeOf ⟨os, g1, g2⟩ ?_)))
  rw [if_pos (by decide)]
  have app : ∀ {A : Around} {E : Value → Shared → Prop} {Q : Int × Int × Nat → Shared → Prop}, Q ((items.size : Int) - 1, -1, items.size) s → wpAny (model prog w) A (Builtin.Slice.sliceApplied (.ref sl) (pure (items.size : Int))) Q E s := fun {A E Q} q => by
    unfold Builtin.Slice.sliceApplied Builtin.Slice.sliceFields
    refine wpAny_bind (wpAny_bind (wpAny_field g1 g3 (x := vl) rfl (wpAny_bind (wpAny_field g1 g3 (x := vu) rfl (wpAny_bind (wpAny_field g1 g3 (x := vs) rfl (wpAny_pure ?_)))))))
    refine wpAny_bind (slicePart_ ps ?_)
    show wpAny _ _ (if ((-1 : Int) == 0) = true then _ else _) _ _ s
    rw [if_neg (by decide)]
    refine wpAny_bind (slicePart_ pl (wpAny_bind (slicePart_ pu (wpAny_bind (wpAny_pure ?_)))))
    show wpAny _ _ (match Builtin.Slice.sliceAdjust none none (-1) (items.size : Int) with | (lo, hi) => pure (lo, (-1 : Int), Builtin.Slice.slicePlaces lo hi (-1))) _ _ s
    rw [back_adjust]
    show wpAny _ _ (pure ((items.size : Int) - 1, (-1 : Int), Builtin.Slice.slicePlaces ((items.size : Int) - 1) (-1) (-1))) _ _ s
    rw [back_places]
    exact wpAny_pure q
  refine wpAny_bind (app ?_)
  show wpAny _ _ (if (((items.size : Int) - 1 == 0) && (-1 : Int) == 1 && items.size == items.size) = true then _ else _) _ _ s
  rw [if_neg (by rw [show ((-1 : Int) == 1) = false from rfl]; simp), back_pick]
  first
    | exact wpAny_bind (m := Builtin.Tuple.tupleExact _) (wpAny_newObj_type (wpAny_pure ⟨_, rfl, wpAny_pure h⟩) fits)
    | exact wpAny_bind (m := Builtin.Tuple.tupleExact _) (wpAny_newObj_type (wpAny_bind (wpAny_pure (wpAny_pure ⟨_, rfl, wpAny_pure h⟩))) fits)
    | exact wpAny_bind (wpAny_bind (m := Builtin.Tuple.tupleExact _) (wpAny_newObj_type (wpAny_pure (wpAny_pure ⟨_, rfl, wpAny_pure h⟩)) fits))
    | exact wpAny_bind (wpAny_bind (m := Builtin.Tuple.tupleExact _) (wpAny_newObj_type (wpAny_pure ⟨_, rfl, wpAny_pure h⟩) fits))
end
end HT
namespace GD
open PySem PySem.Spec PyProof.Rows L2
/-- t[::-1], t a tuple -/
def tBackT (K : PySem.W.Frag) (te : TE) : TE := fun σ H Q => te σ H fun x H1 => ∃ a xs, x = .ref a ∧ SqT K H1 a xs ∧ ∀ p, H1 p = none → Q (.ref p) (upd H1 p (.tup xs.reverse))
theorem pe_backT {X : Cx} {K : PySem.W.Frag} {e : Expr} {te : TE} {k : Nat} {p1 p2 p3 pos : Pos} (he : PE X e te) (hK : X.K = K := by rfl) : PE X (.Subscript e (.Slice none none (some (.UnaryOp .USub (.Constant (.int 1) k p1) p2)) p3) pos) (tBackT K te) := by
  subst hK
  refine ⟨fun pins s σ H Q I h => Subscript_ (thn (he.run pins s σ H _ I h) fun v s1 ⟨x, H1, I1, r1, a, xs, ex, hx, q⟩ => ?_)⟩
  subst ex
  cases r1
  have st : PO X (some (.UnaryOp .USub (.Constant (.int 1) k p1) p2)) (tPart (tUn (rU fun i => .int (-i)) (tC (.int 1)))) := po_some (pe_un un_neg pe_int)
  refine wpAny_Slice (thn (po_none.run pins s1 σ H1 (fun o H2 => o = none ∧ H2 = H1) I1 ⟨rfl, rfl⟩) fun vl s2 ⟨l, H2, I2, pl, e1, e2⟩ => ?_)
  subst e1 e2
  refine thn (po_none.run pins s2 σ H2 (fun o H3 => o = none ∧ H3 = H2) I2 ⟨rfl, rfl⟩) fun vu s3 ⟨u, H3, I3, pu, e1, e2⟩ => ?_
  subst e1 e2
  refine thn (st.run pins s3 σ H3 (fun o H4 => o = some (-1) ∧ H4 = H3) I3 ⟨1, rfl, -1, rfl, rfl, rfl⟩) fun vs s4 ⟨o, H4, I4, ps, e1, e2⟩ => ?_
  subst e1 e2
  have J : Inv X pins σ H4 { s4 with heap := s4.heap.push { cls := .type "slice", data := .fields #[vl, vu, vs] } } := I4.kept (t' := s4.toks) fun b ob q => Heap.get?_push_of_some _ q
  obtain ⟨its, r, ht, hz⟩ := J.tuple hx
  show wpAny (model X.prog X.w) X.A (subscriptTail e (.Slice none none (some (.UnaryOp .USub (.Constant (.int 1) k p1) p2)) p3) (.ref a) (.ref s4.heap.objs.size)) (EP X pins σ Q) X.xe _
  refine tail_any (ops := [.ref a, .ref s4.heap.objs.size]) ht.typeIs (PyProof.Rows.slot_tuple_getitem.lookup) ?_ (by with_unfolding_all rfl)
  refine HT.getItem_tuple_back ht (Heap.IsSliceOf.new _ vl vu vs) pl pu ps ?_ (by rw [List.size_toArray, ← r.length]; exact hz)
  refine ⟨.ref _, _, J.laid (t' := s4.toks) (o := .tup xs.reverse) (fun b ob q => Heap.get?_push_of_some _ q) (Nat.le_refl _) ?_, rfl, q _ (J.hok.fresh (Nat.le_refl _))⟩
  exact ⟨by rw [List.length_reverse]; exact hz, its.reverse, r.reverse, ⟨_, Heap.get?_push_size _ rfl, rfl, 0, by simp⟩⟩
def rBackT (K : PySem.W.Frag) : V → Hp → VK → Prop := fun x H1 Q => ∃ a xs, x = .ref a ∧ SqT K H1 a xs ∧ ∀ p, H1 p = none → Q (.ref p) (upd H1 p (.tup xs.reverse))
def backD : D → Option Rv
  | .tuple xs => some (.da (.tuple xs.reverse))
  | _ => none
theorem RpL.reverse {c : CT} {H : Hp} : ∀ {vs : List V} {ds : List D}, RpL c H vs ds → RpL c H vs.reverse ds.reverse
  | _, _, .nil => .nil
  | _, _, .cons h r => by
    rw [List.reverse_cons, List.reverse_cons]
    exact (RpL.reverse r).append (.cons h .nil)
theorem d_back {c : CT} : UnD c (rBackT c.K) backD := by
  intro hs H x dx Q tr hx h
  unfold backD at h
  split at h
  next rv e =>
    split at e
    next xs =>
      cases e
      obtain ⟨a, us, rfl, h1, h2⟩ := hx.tupInv
      refine ⟨a, us, rfl, hidT h1, fun p hp => h _ _ (same_new hp) ?_⟩
      have np : p ∉ hs := fun z => tr p z hp
      exact .tup (.inl (.inl (by rw [hid_out np, upd_same]))) (h2.reverse.same (hid_mono (same_new hp)))
    next => cases e
  next => exact h.elim
theorem dn_backT {c : CT} {E : XK} {te : TE} {fe : M Rv} (h : Dn c E te fe) : Dn c E (tBackT c.K te) (op1 backD fe) := dn_un d_back h
end GD

/-! GDR: more plain facts: products, counts -/
namespace GD
open PySem L2
theorem ratne {b : Int} (h : b ≠ 0) : ((b : Int) : Rat) ≠ 0 := by
  intro e
  exact h (by exact_mod_cast e)
/-- first * (first + step) * .. -/
def rp (a s : Int) : Nat → Int
  | 0 => 1
  | n + 1 => rp a s n * (a + s * n)
theorem rp_nonneg {a s : Int} (ha : 0 ≤ a) (hs : 0 ≤ s) : ∀ n, 0 ≤ rp a s n
  | 0 => by simp [rp]
  | n + 1 => by
    have h1 := rp_nonneg ha hs n
    have h2 : 0 ≤ s * (n : Int) := Int.mul_nonneg hs (by omega)
    exact Int.mul_nonneg h1 (by omega)
theorem rp_pos {a s : Int} (ha : 0 < a) (hs : 0 ≤ s) : ∀ n, 0 < rp a s n
  | 0 => by simp [rp]
  | n + 1 => by
    have h1 := rp_pos ha hs n
    have h2 : 0 ≤ s * (n : Int) := Int.mul_nonneg hs (by omega)
    exact Int.mul_pos h1 (by omega)
theorem mul_lt_powI {a b : Int} {k l : Nat} (h1 : a.natAbs < 2 ^ k) (h2 : b.natAbs < 2 ^ l) : (a * b).natAbs < 2 ^ (k + l) := by
  rw [Int.natAbs_mul]; exact mul_lt_pow h1 h2
theorem rp_step {a s : Int} (ha : 0 ≤ a) (ha2 : a ≤ 1000) (hs : 0 ≤ s) (hs2 : s ≤ 100) {n : Nat} (hn : n ≤ 100) : 0 ≤ s * (n : Int) ∧ s * (n : Int) ≤ 10000 := by
  refine ⟨Int.mul_nonneg hs (by omega), ?_⟩
  have := Int.mul_le_mul hs2 (show (n : Int) ≤ 100 by omega) (by omega) (by omega)
  omega
theorem rp_lt {a s : Int} (ha : 0 ≤ a) (ha2 : a ≤ 1000) (hs : 0 ≤ s) (hs2 : s ≤ 100) : ∀ n, n ≤ 100 → (rp a s n).natAbs < 2 ^ (14 * n + 1)
  | 0, _ => by simp [rp]
  | n + 1, hn => by
    have h1 := rp_lt ha ha2 hs hs2 n (by omega)
    have h2 := rp_step ha ha2 hs hs2 (n := n) (by omega)
    have h3 := mul_lt_powI (a := rp a s n) (b := a + s * n) (k := 14 * n + 1) (l := 14) h1 (by show _ < 16384; omega)
    rw [show 14 * (n + 1) + 1 = 14 * n + 1 + 14 by omega]
    exact h3
def fct (n : Nat) : Int := rp 1 1 n
theorem fct_pos (n : Nat) : 0 < fct n := rp_pos (by decide) (by decide) n
theorem fct_succ (n : Nat) : fct (n + 1) = fct n * (n + 1) := by
  show rp 1 1 n * (1 + 1 * n) = _
  rw [Int.one_mul, Int.add_comm]; rfl
theorem fct_dvd : ∀ (n a b : Nat), a + b = n → fct a * fct b ∣ fct n
  | 0, a, b, h => by
    have ha : a = 0 := by omega
    have hb : b = 0 := by omega
    subst ha hb; exact ⟨1, rfl⟩
  | n + 1, 0, b, h => by
    have hb : b = n + 1 := by omega
    subst hb
    show fct 0 * fct (n + 1) ∣ _
    rw [show fct 0 = 1 from rfl, Int.one_mul]
    exact Int.dvd_refl _
  | n + 1, a + 1, 0, h => by
    have hb : a + 1 = n + 1 := by omega
    rw [hb, show fct 0 = 1 from rfl, Int.mul_one]
    exact Int.dvd_refl _
  | n + 1, a + 1, b + 1, h => by
    obtain ⟨x, hx⟩ := fct_dvd n a (b + 1) (by omega)
    obtain ⟨y, hy⟩ := fct_dvd n (a + 1) b (by omega)
    refine ⟨x + y, ?_⟩
    have e1 := fct_succ n
    have e2 := fct_succ a
    have e3 := fct_succ b
    have e4 : (n : Int) + 1 = (a + 1) + (b + 1) := by omega
    rw [e1, e4]
    rw [e3] at hx
    rw [e2] at hy
    rw [e2, e3]
    grind
def fcts : List Nat → Int
  | [] => 1
  | c :: cs => fct c * fcts cs
theorem fcts_pos : ∀ cs, 0 < fcts cs
  | [] => by decide
  | c :: cs => Int.mul_pos (fct_pos c) (fcts_pos cs)
theorem fcts_dvd : ∀ cs : List Nat, fcts cs ∣ fct cs.sum
  | [] => ⟨1, rfl⟩
  | c :: cs => by
    have h := fct_dvd (c + cs.sum) c cs.sum rfl
    rw [List.sum_cons]
    exact Int.dvd_trans (Int.mul_dvd_mul (Int.dvd_refl _) (fcts_dvd cs)) h
/-- counts -/
structure Cnt (n : Nat) (cs : List Nat) : Prop where
  len : cs.length = n
  sum : cs.sum ≤ 40
def cnD (cs : List Nat) : D := tupI (cs.map fun c : Nat => (c : Int))
def isCnt (n : Nat) : D → Bool
  | .tuple xs => decide (xs.length = n) && xs.all (btw · 0 40) && decide ((xs.map iv).sum ≤ 40)
  | _ => false
theorem mem_le_sum : ∀ {cs : List Nat} {c : Nat}, c ∈ cs → c ≤ cs.sum
  | x :: cs, c, h => by
    rw [List.sum_cons]
    rcases List.mem_cons.mp h with rfl | h
    · omega
    · have := mem_le_sum h; omega
theorem sum_cast : ∀ cs : List Nat, (cs.map fun c : Nat => (c : Int)).sum = (cs.sum : Nat)
  | [] => rfl
  | c :: cs => by rw [List.map_cons, List.sum_cons, List.sum_cons, sum_cast cs]; omega
theorem isCnt_of {n : Nat} {cs : List Nat} (h : Cnt n cs) : isCnt n (cnD cs) = true := by
  unfold cnD tupI isCnt
  have h1 : ((cs.map fun c : Nat => (c : Int)).map PyData.int).all (btw · 0 40) = true := btw_all (by
    intro x hx
    obtain ⟨c, hc, rfl⟩ := List.mem_map.mp hx
    have := mem_le_sum hc
    have := h.sum
    omega)
  have := h.sum
  dsimp only
  rw [h1, map_iv, sum_cast]
  simp [h.len]
  omega
def rps (m : Int) : List Int → List Nat → Int
  | u :: us, c :: cs => rp u m c * rps m us cs
  | _, _ => 1
theorem rps_lt {m : Int} (hm : 0 ≤ m) (hm2 : m ≤ 5) : ∀ (us : List Int) (cs : List Nat), (∀ x ∈ us, 0 ≤ x ∧ x ≤ 20) → (∀ c ∈ cs, c ≤ 40) → us.length = cs.length → (rps m us cs).natAbs < 2 ^ (14 * cs.sum + us.length + 1)
  | [], [], _, _, _ => by show (1 : Int).natAbs < _; decide
  | u :: us, c :: cs, h1, h2, hl => by
    have a := rp_lt (a := u) (s := m) (h1 u (by simp)).1 (by have := (h1 u (by simp)).2; omega) hm (by omega) c (by have := h2 c (by simp); omega)
    have b := rps_lt hm hm2 us cs (fun x hx => h1 x (by simp [hx])) (fun x hx => h2 x (by simp [hx])) (by simpa using hl)
    have := mul_lt_powI a b
    rw [List.sum_cons, List.length_cons, show 14 * (c + cs.sum) + (us.length + 1) + 1 = 14 * c + 1 + (14 * cs.sum + us.length + 1) by omega]
    exact this
/-- how many orders -/
def ordN (cs : List Nat) : Int := fct cs.sum / fcts cs
theorem ordN_mul (cs : List Nat) : ordN cs * fcts cs = fct cs.sum := Int.ediv_mul_cancel (fcts_dvd cs)
/-- the chance of counts -/
def cntQ (u : List Int) (m : Int) (cs : List Nat) : Rat := ((ordN cs * rps m u cs : Int) : Rat) / ((rp u.sum m cs.sum : Int) : Rat)
theorem cutD_m1 (xs : List D) : cutD xs none (some (-1)) = xs.take (xs.length - 1) := by
  unfold cutD
  have h1 : HT.sIx xs.length 0 none = 0 := rfl
  have h2 : HT.sIx xs.length xs.length (some (-1)) = xs.length - 1 := by
    unfold HT.sIx
    simp
    omega
  rw [h1, h2]
  simp
theorem put_sum {cs : List Nat} {a : Nat} (h : a < cs.length) : (cs.take a).sum + (cs.drop (a + 1)).sum + cs.getD a 0 = cs.sum := by
  have e : cs.drop a = cs[a] :: cs.drop (a + 1) := List.drop_eq_getElem_cons h
  conv => rhs; rw [← List.take_append_drop a cs, e]
  rw [List.sum_append, List.sum_cons]
  simp [List.getD, List.getElem?_eq_getElem h]
  omega
theorem turns_of (l : Nat) (b : Int) (hl : l ≤ 63) (hb : 1 ≤ b) : ∃ m : Nat, m ≤ 63 ∧ (if (if b < (l : Int) then b else (l : Int)) > 1 then (if b < (l : Int) then b else (l : Int)) else 1) = (m : Int) := by
  refine ⟨((if (if b < (l : Int) then b else (l : Int)) > 1 then (if b < (l : Int) then b else (l : Int)) else 1) : Int).toNat, ?_, ?_⟩ <;> split <;> split <;> omega
theorem Cnt.rev {n : Nat} {cs : List Nat} (h : Cnt n cs) : Cnt n cs.reverse := ⟨by simp [h.len], by rw [List.sum_reverse]; exact h.sum⟩
theorem Cnt.zero (n : Nat) : Cnt n (List.replicate n 0) := ⟨by simp, by simp⟩
theorem frD_mk {q : Rat} {a b : Int} (h1 : q.num = a) (h2 : (q.den : Int) = b) : PyData.tuple [.int a, .int b] = frD q := by rw [← h1, ← h2]; rfl
theorem eqD_frmk {p q : Rat} {a b : Int} (h1 : q.num = a) (h2 : (q.den : Int) = b) : eqD (frD p) (.tuple [.int a, .int b]) = some (.da (.bool (decide (p = q)))) := by rw [frD_mk h1 h2, eqD_fr]
theorem comp_filt {α : Type} {e : α → D} {j : Nat} {tt : M Bool} {te : M Rv} {p : α → Bool} {h : α → D} {g : G} (hg : g.set j .un = g) : ∀ ks : List α, (∀ k ∈ ks, tt (g.set j (.da (e k))) = .ok (p k, g.set j (.da (e k)))) → (∀ k ∈ ks, p k = true → ∃ r, te (g.set j (.da (e k))) = .ok (r, g.set j (.da (e k))) ∧ rawOf r = some (h k)) →
    compD (cgN j) tt te [j] (ks.map e) g = some ((ks.filter p).map h, g)
  | [], _, _ => rfl
  | k :: ks, H1, H2 => by
    have e1 := H1 k (by simp)
    have ih := comp_filt (p := p) (h := h) hg ks (fun k hk => H1 k (by simp [hk])) (fun k hk => H2 k (by simp [hk]))
    have back : (g.set j (.da (e k))).set j .un = g := by rw [List.set_set]; exact hg
    rw [List.map_cons]
    unfold compD
    simp only [cgN, e1, wipeG]
    cases hp : p k
    · simp only [Bool.false_eq_true, if_false, back, ih, List.filter_cons, hp]
    · obtain ⟨r, e2, e3⟩ := H2 k (by simp) hp
      simp only [if_true, e2, e3, back, ih, List.filter_cons, hp]
      rfl
theorem lc_filt {α : Type} {e : α → D} {it : M (List D)} {j : Nat} {tt : M Bool} {te : M Rv} {g g1 : G} {ks : List α} (p : α → Bool) (h : α → D) (hi : it g = .ok (ks.map e, g1)) (l : ks.length ≤ 1000000)
    (H1 : ∀ k ∈ ks, tt ((g1.set j .un).set j (.da (e k))) = .ok (p k, (g1.set j .un).set j (.da (e k)))) (H2 : ∀ k ∈ ks, p k = true → ∃ r, te ((g1.set j .un).set j (.da (e k))) = .ok (r, (g1.set j .un).set j (.da (e k))) ∧ rawOf r = some (h k)) :
    lcE it (cgN j) tt te [j] g = .ok (.fl ((ks.filter p).map h), g1.set j .un) := by
  unfold lcE
  simp only [hi, Re.ok_bind, List.length_map, if_pos l, wipeG]
  rw [comp_filt (p := p) (h := h) (by rw [List.set_set]) ks H1 H2]
  rfl
/-- a comprehension over things told by other things -/
theorem lc_mapE {α : Type} {e : α → D} {it : M (List D)} {j : Nat} {te : M Rv} {h : α → D} {g g1 : G} {ks : List α} (hi : it g = .ok (ks.map e, g1)) (l : ks.length ≤ 1000000)
    (H : ∀ k ∈ ks, ∃ r, te ((g1.set j .un).set j (.da (e k))) = .ok (r, (g1.set j .un).set j (.da (e k))) ∧ rawOf r = some (h k)) :
    lcE it (cgN j) yesT te [j] g = .ok (.fl (ks.map h), g1.set j .un) := by
  have := lc_filt (tt := yesT) (te := te) (fun _ : α => true) h hi l (fun _ _ => rfl) (fun k hk _ => H k hk)
  rw [this, List.filter_eq_self.mpr (fun _ _ => rfl)]
theorem shaped_ints (ns : List Int) : SeqAt.shaped (.list (ns.map .int)) = true := by
  have h := depth_ints ns
  simp only [SeqAt.shaped, PyData.canLay0, PyData.depth, canLay_ints, Bool.true_and]
  exact decide_eq_true (by omega)
theorem neD_nil_ints (ns : List Int) : neD (.list (ns.map .int)) (.list []) = some (.da (.bool (!ns.isEmpty))) := by
  have h1 := shaped_ints ns
  have h2 : SeqAt.shaped (.list []) = true := shaped_ints []
  unfold neD
  rw [h1, h2]
  cases ns <;> simp [PyData.eqv, PyData.eqvAll]
theorem eqD_nil_ints (ns : List Int) : eqD (.list (ns.map .int)) (.list []) = some (.da (.bool ns.isEmpty)) := by
  have h1 := shaped_ints ns
  have h2 : SeqAt.shaped (.list []) = true := shaped_ints []
  unfold eqD
  rw [h1, h2]
  cases ns <;> simp [PyData.eqv, PyData.eqvAll]
theorem zip_range {α β γ : Type} {a0 : α} {b0 : β} {f : α × β → γ} {u : List α} {cs : List β} (h : u.length = cs.length) : (u.zip cs).map f = (List.range u.length).map fun k => f (u.getD k a0, cs.getD k b0) := by
  refine List.ext_getElem (by simp [h]) fun i h1 h2 => ?_
  have h3 : i < u.length := by simp at h2; exact h2
  have h4 : i < cs.length := by omega
  simp [List.getD, List.getElem?_eq_getElem h3, List.getElem?_eq_getElem h4]
/-- some kind that isn't there is asked for -/
def blk (u : List Int) (cs : List Nat) : Bool := (u.zip cs).any fun p => p.1 == 0 && decide (0 < p.2)
theorem rp_zero (m : Int) : ∀ n, 0 < n → rp 0 m n = 0
  | 1, _ => by simp [rp]
  | n + 2, _ => by
    show rp 0 m (n + 1) * _ = 0
    rw [rp_zero m (n + 1) (by omega), Int.zero_mul]
theorem rps_zero {m : Int} (hm : 0 ≤ m) : ∀ (us : List Int) (cs : List Nat), (∀ x ∈ us, 0 ≤ x) → us.length = cs.length → (rps m us cs = 0 ↔ blk us cs = true)
  | [], [], _, _ => by simp [rps, blk]
  | u :: us, c :: cs, h, hl => by
    have ih := rps_zero hm us cs (fun x hx => h x (by simp [hx])) (by simpa using hl)
    have hu := h u (by simp)
    have e : rps m (u :: us) (c :: cs) = rp u m c * rps m us cs := rfl
    have e2 : blk (u :: us) (c :: cs) = ((u == 0 && decide (0 < c)) || blk us cs) := rfl
    rw [e, e2, Int.mul_eq_zero, ih, Bool.or_eq_true]
    refine or_congr_left ?_
    constructor
    · intro z
      by_cases h0 : u = 0
      · subst h0
        by_cases hc : 0 < c
        · simp [hc]
        · have : c = 0 := by omega
          subst this
          simp [rp] at z
      · have := rp_pos (a := u) (s := m) (by omega) hm c
        omega
    · intro z
      simp at z
      rw [z.1]
      exact rp_zero m c z.2
theorem ordN_pos (cs : List Nat) : 0 < ordN cs := by
  have h1 := ordN_mul cs
  have h2 := fct_pos cs.sum
  have h3 := fcts_pos cs
  rw [← h1] at h2
  rcases Int.lt_or_le 0 (ordN cs) with h | h
  · exact h
  · have := Int.mul_le_mul_of_nonneg_right h (Int.le_of_lt h3)
    omega
theorem cntQ_zero {u : List Int} {m : Int} {cs : List Nat} (hu : Urn 20 u) (hm : 0 ≤ m) (hl : u.length = cs.length) : cntQ u m cs = 0 ↔ blk u cs = true := by
  have n1 := ratne (show rp u.sum m cs.sum ≠ 0 by have := rp_pos hu.pos hm cs.sum; omega)
  have n2 := ordN_pos cs
  rw [← rps_zero hm u cs (fun x hx => (hu.all x hx).1) hl]
  unfold cntQ
  constructor
  · intro h
    have : ((ordN cs * rps m u cs : Int) : Rat) = 0 := by grind
    have : ordN cs * rps m u cs = 0 := by exact_mod_cast this
    rcases Int.mul_eq_zero.mp this with h | h
    · omega
    · exact h
  · intro h
    rw [h]
    simp
    grind
end GD

namespace LawHere
open PySem GD
def fu_divisor (g : List Sl) : Nat := match g[(1 : Nat)]? with
  | some (.da (.int b)) => b.natAbs + 1
  | _ => 0
def fu__law_cut (g : List Sl) : Nat := match g[(3 : Nat)]? with
  | some (.da (.int b)) => b.natAbs + 1
  | _ => 0
/-- is_whole(thing); slots 0:thing -/
def d_is_whole : G → SR :=
  (retS (andV (isiE "int" (vE 0)) (notV (isiE "bool" (vE 0)))))
def m_is_whole : List D → Re Rv := runP 1 1 d_is_whole
/-- is_between(thing, least, most); slots 0:thing 1:least 2:most -/
def d_is_between : G → SR :=
  (retS (andV (callE m_is_whole (aC (vE 0) aN)) (chE leD leD (vE 1) (vE 0) (vE 2))))
def m_is_between : List D → Re Rv := runP 3 3 d_is_between
-- FUEL fu_divisor : G → Nat  slots ['one', 'other']
/-- divisor(one, other); slots 0:one 1:other -/
def d_divisor : G → SR :=
  (seqS (whileS fu_divisor (tB' (op2 neD (vE 1) (cE (.int 0)))) (parS 0 1 (aC (vE 1) (aC (op2 modD (vE 0) (vE 1)) aN)))) (retS (caE absD (aC (vE 0) aN))))
def m_divisor : List D → Re Rv := runP 2 2 d_divisor
/-- fraction(top, bottom); slots 0:top 1:bottom 2:part -/
def d_fraction : G → SR :=
  (seqS (asgS (callE m_divisor (aC (vE 1) (aC (vE 0) aN))) (tgN 2)) (retS (tupE (aC (op2 fdivD (vE 0) (vE 2)) (aC (op2 fdivD (vE 1) (vE 2)) aN)))))
def m_fraction : List D → Re Rv := runP 2 3 d_fraction
/-- is_urn(thing); slots 0:thing 1:many -/
def d_is_urn : G → SR :=
  (seqS (ifS (orT (notT (tB' (isiE "tuple" (vE 0)))) (notT (tB' (chE leD leD (cE (.int 1)) (caE lenD (aC (vE 0) aN)) (cE (.int 4)))))) (retS (cE (.bool false))) nextS) (retS (andV (caE allD (aC (lcE (anyI (vE 0)) (cgN 1) yesT (callE m_is_between (aC (vE 1) (aC (cE (.int 0)) (aC (cE (.int 20)) aN)))) [1]) aN)) (op2 gtD (caE sumD (aC (vE 0) aN)) (cE (.int 0))))))
def m_is_urn : List D → Re Rv := runP 1 2 d_is_urn
/-- need_number(thing, least, most); slots 0:thing 1:least 2:most -/
def d_need_number : G → SR :=
  (ifS (notT (tB' (callE m_is_between (aC (vE 0) (aC (vE 1) (aC (vE 2) aN)))))) (raiseS "NoNumber") nextS)
def m_need_number : List D → Re Rv := runP 3 3 d_need_number
/-- need_urn(urn); slots 0:urn -/
def d_need_urn : G → SR :=
  (ifS (notT (tB' (callE m_is_urn (aC (vE 0) aN)))) (raiseS "NoUrn") nextS)
def m_need_urn : List D → Re Rv := runP 1 1 d_need_urn
/-- need_counts(urn, counts); slots 0:urn 1:counts 2:many -/
def d_need_counts : G → SR :=
  (seqS (ifS (orT (notT (tB' (isiE "tuple" (vE 1)))) (tB' (op2 neD (caE lenD (aC (vE 1) aN)) (caE lenD (aC (vE 0) aN))))) (raiseS "NoCounts") nextS) (ifS (orT (notT (tB' (caE allD (aC (lcE (anyI (vE 1)) (cgN 2) yesT (callE m_is_between (aC (vE 2) (aC (cE (.int 0)) (aC (cE (.int 40)) aN)))) [2]) aN)))) (tB' (op2 gtD (caE sumD (aC (vE 1) aN)) (cE (.int 40))))) (raiseS "NoCounts") nextS))
def m_need_counts : List D → Re Rv := runP 2 3 d_need_counts
/-- rising_product(first, step, many); slots 0:first 1:step 2:many 3:found 4:turn -/
def d_rising_product : G → SR :=
  (seqS (asgS (cE (.int 1)) (tgN 3)) (seqS (forS (rngI (aC (vE 2) aN)) (tgN 4) (asgS (op2 mulD (vE 3) (op2 addD (vE 0) (op2 mulD (vE 1) (vE 4)))) (tgN 3))) (retS (vE 3))))
def m_rising_product : List D → Re Rv := runP 3 5 d_rising_product
/-- orders_of(counts); slots 0:counts 1:found 2:many -/
def d_orders_of : G → SR :=
  (seqS (asgS (callE m_rising_product (aC (cE (.int 1)) (aC (cE (.int 1)) (aC (caE sumD (aC (vE 0) aN)) aN)))) (tgN 1)) (seqS (forS (anyI (vE 0)) (tgN 2) (asgS (op2 fdivD (vE 1) (callE m_rising_product (aC (cE (.int 1)) (aC (cE (.int 1)) (aC (vE 2) aN))))) (tgN 1))) (retS (vE 1))))
def m_orders_of : List D → Re Rv := runP 1 3 d_orders_of
/-- chance_by(urn, more, counts); slots 0:urn 1:more 2:counts 3:top 4:first 5:many -/
def d_chance_by : G → SR :=
  (seqS (asgS (callE m_orders_of (aC (vE 2) aN)) (tgN 3)) (seqS (forS (zipI (aC (vE 0) (aC (vE 2) aN))) (tgT [(tgN 4), (tgN 5)]) (asgS (op2 mulD (vE 3) (callE m_rising_product (aC (vE 4) (aC (vE 1) (aC (vE 5) aN))))) (tgN 3))) (retS (callE m_fraction (aC (vE 3) (aC (callE m_rising_product (aC (caE sumD (aC (vE 0) aN)) (aC (vE 1) (aC (caE sumD (aC (vE 2) aN)) aN)))) aN))))))
def m_chance_by : List D → Re Rv := runP 3 6 d_chance_by
/-- counts_chance(urn, more, counts); slots 0:urn 1:more 2:counts -/
def d_counts_chance : G → SR :=
  (seqS (dropS (callE m_need_urn (aC (vE 0) aN))) (seqS (dropS (callE m_need_number (aC (vE 1) (aC (cE (.int 0)) (aC (cE (.int 5)) aN))))) (seqS (dropS (callE m_need_counts (aC (vE 0) (aC (vE 2) aN)))) (retS (callE m_chance_by (aC (vE 0) (aC (vE 1) (aC (vE 2) aN))))))))
def m_counts_chance : List D → Re Rv := runP 3 3 d_counts_chance
/-- next_shares(urn, more, counts); slots 0:urn 1:more 2:counts 3:whole 4:first 5:many -/
def d_next_shares : G → SR :=
  (seqS (ifS (tB' (op2 eqD (callE m_counts_chance (aC (vE 0) (aC (vE 1) (aC (vE 2) aN)))) (tupE (aC (cE (.int 0)) (aC (cE (.int 1)) aN))))) (retS (cE .none)) nextS) (seqS (asgS (op2 addD (caE sumD (aC (vE 0) aN)) (op2 mulD (vE 1) (caE sumD (aC (vE 2) aN)))) (tgN 3)) (retS (caE tupleD (aC (lcE (zipI (aC (vE 0) (aC (vE 2) aN))) (cgT [(cgN 4), (cgN 5)]) yesT (callE m_fraction (aC (op2 addD (vE 4) (op2 mulD (vE 1) (vE 5))) (aC (vE 3) aN))) [4, 5]) aN)))))
def m_next_shares : List D → Re Rv := runP 3 6 d_next_shares
/-- _law_cell_at(_law_script, _law_k); slots 0:_law_script 1:_law_k -/
def d__law_cell_at : G → SR :=
  (seqS (ifS (tB' (op2 ltD (vE 1) (caE lenD (aC (vE 0) aN)))) (retS (op2 ixD (vE 0) (vE 1))) nextS) (retS (cE (.int 0))))
def m__law_cell_at : List D → Re Rv := runP 2 2 d__law_cell_at
/-- _law_state(_law_script, _law_k); slots 0:_law_script 1:_law_k 2:_law_cell -/
def d__law_state : G → SR :=
  (seqS (asgS (callE m__law_cell_at (aC (vE 0) (aC (vE 1) aN))) (tgN 2)) (seqS (ifS (tB' (op2 geD (vE 2) (op2 powD (cE (.int 10)) (cE (.int 18))))) (retS (lstE (aC (op2 subD (vE 2) (op2 powD (cE (.int 10)) (cE (.int 18)))) (aC (cE (.bool true)) aN)))) nextS) (retS (lstE (aC (op2 modD (vE 2) (cE (.int 2147483647))) (aC (cE (.bool false)) aN))))))
def m__law_state : List D → Re Rv := runP 2 3 d__law_state
/-- _law_take(_law_state_here, _law_many); slots 0:_law_state_here 1:_law_many 2:_law_found 3:_law_mixed -/
def d__law_take : G → SR :=
  (seqS (ifS (tB' (op2 ixD (vE 0) (cE (.int 1)))) (seqS (asgS (op2 modD (op2 ixD (vE 0) (cE (.int 0))) (vE 1)) (tgN 2)) (seqS (asgS (op2 fdivD (op2 ixD (vE 0) (cE (.int 0))) (vE 1)) (tgS (vE 0) (cE (.int 0)))) (retS (vE 2)))) nextS) (seqS (asgS (op2 modD (op2 addD (op2 mulD (op2 ixD (vE 0) (cE (.int 0))) (cE (.int 48271))) (cE (.int 29))) (cE (.int 2147483647))) (tgS (vE 0) (cE (.int 0)))) (seqS (asgS (op2 modD (op2 addD (op2 addD (op2 mulD (op2 ixD (vE 0) (cE (.int 0))) (op2 ixD (vE 0) (cE (.int 0)))) (op2 mulD (cE (.int 39373)) (op2 ixD (vE 0) (cE (.int 0))))) (cE (.int 7))) (cE (.int 2147483629))) (tgN 3)) (seqS (asgS (op2 modD (op2 addD (op2 mulD (vE 3) (vE 3)) (op2 mulD (cE (.int 16807)) (vE 3))) (cE (.int 2147483587))) (tgN 3)) (retS (op2 modD (op2 fdivD (vE 3) (cE (.int 8))) (vE 1)))))))
def m__law_take : List D → List D → Re (D × List D) := runS 2 4 d__law_take
def tab_NoKind (nm : Str) : Option Bool := if nm = "NoCounts" then some false else if nm = "NoNumber" then some false else if nm = "NoUrn" then some false else none
def tab_NoRule (nm : Str) : Option Bool := if nm = "NoCounts" then some false else if nm = "NoNumber" then some false else if nm = "NoUrn" then some false else none
def tab_NoUrn (nm : Str) : Option Bool := if nm = "NoCounts" then some false else if nm = "NoNumber" then some false else if nm = "NoUrn" then some true else none
def tab_NoNumber (nm : Str) : Option Bool := if nm = "NoCounts" then some false else if nm = "NoNumber" then some true else if nm = "NoUrn" then some false else none
def tab_NoDraws (nm : Str) : Option Bool := if nm = "NoCounts" then some false else if nm = "NoNumber" then some false else if nm = "NoUrn" then some false else none
def tab_NoBall (nm : Str) : Option Bool := if nm = "NoCounts" then some false else if nm = "NoNumber" then some false else if nm = "NoUrn" then some false else none
def tab_NotAlike (nm : Str) : Option Bool := if nm = "NoCounts" then some false else if nm = "NoNumber" then some false else if nm = "NoUrn" then some false else none
def tab_NoCounts (nm : Str) : Option Bool := if nm = "NoCounts" then some true else if nm = "NoNumber" then some false else if nm = "NoUrn" then some false else none
def tab_NotEven (nm : Str) : Option Bool := if nm = "NoCounts" then some false else if nm = "NoNumber" then some false else if nm = "NoUrn" then some false else none
def tab_BadNote (nm : Str) : Option Bool := if nm = "NoCounts" then some false else if nm = "NoNumber" then some false else if nm = "NoUrn" then some false else none
def tab_ValueError (nm : Str) : Option Bool := if nm = "NoCounts" then some true else if nm = "NoNumber" then some true else if nm = "NoUrn" then some true else none
def fR_ref : G → SR :=
  (seqS (ifS (tB' (op2 isD (vE 1) (cE .none))) (retS (cE .none)) nextS) (seqS (asgS (lstE (aC (isxE tab_NoUrn (vE 1)) (aC (isxE tab_NoRule (vE 1)) (aC (isxE tab_NoKind (vE 1)) aN)))) (tgM 3)) (seqS (asgS (op2 addD (vE 3) (lstE (aC (isxE tab_NoBall (vE 1)) (aC (isxE tab_NoDraws (vE 1)) (aC (isxE tab_NoNumber (vE 1)) aN))))) (tgM 3)) (seqS (asgS (op2 addD (vE 3) (lstE (aC (isxE tab_NotEven (vE 1)) (aC (isxE tab_NoCounts (vE 1)) (aC (isxE tab_NotAlike (vE 1)) aN))))) (tgM 3)) (seqS (appS (vE 3) (isxE tab_BadNote (vE 1))) (seqS (fun g => (ifS (orT (notT (tB' (isxE tab_ValueError (vE 1)))) (tB' (op2 neD (caE sumD (aC (lcE (anyI (vE 3)) (cgN 4) yesT (caE intD (aC (vE 4) aN)) [4]) aN)) (cE (.int 1))))) (retS (op1 negD (cE (.int 1)))) nextS) (frzS 3 g)) (retS (meE bList indexD (vE 3) (aC (cE (.bool true)) aN)))))))))
def ans_ref (nm : Str) : Option D := if nm = "NoCounts" then some (.int 7) else if nm = "NoNumber" then some (.int 5) else if nm = "NoUrn" then some (.int 0) else none
/-- _law_urn(_law_state_here, _law_kinds); slots 0:_law_state_here 1:_law_kinds 2:_law_most 3:_law_found 4:_law_kind -/
def d__law_urn : G → SR :=
  (seqS (asgS (op2 ixD (lstE (aC (cE (.int 3)) (aC (cE (.int 8)) (aC (cE (.int 21)) aN)))) (callS m__law_take (aC (vE 0) (aC (cE (.int 3)) aN)))) (tgN 2)) (seqS (asgS (lcE (rngI (aC (vE 1) aN)) (cgN 4) yesT (callS m__law_take (aC (vE 0) (aC (vE 2) aN))) [4]) (tgM 3)) (seqS (ifS (tB' (op2 eqD (caE sumD (aC (vE 3) aN)) (cE (.int 0)))) (asgS (op2 addD (cE (.int 1)) (callS m__law_take (aC (vE 0) (aC (cE (.int 20)) aN)))) (tgS (vE 3) (callS m__law_take (aC (vE 0) (aC (vE 1) aN))))) nextS) (retS (caE tupleD (aC (vE 3) aN))))))
def m__law_urn : List D → List D → Re (D × List D) := runS 2 5 d__law_urn
-- FUEL fu__law_cut : G → Nat  slots ['_law_top', '_law_bottom', '_law_one', '_law_other']
/-- _law_cut(_law_top, _law_bottom); slots 0:_law_top 1:_law_bottom 2:_law_one 3:_law_other -/
def d__law_cut : G → SR :=
  (seqS (parS 2 3 (aC (caE absD (aC (vE 0) aN)) (aC (vE 1) aN))) (seqS (whileS fu__law_cut (tB' (op2 gtD (vE 3) (cE (.int 0)))) (parS 2 3 (aC (vE 3) (aC (op2 modD (vE 2) (vE 3)) aN)))) (retS (tupE (aC (op2 fdivD (vE 0) (vE 2)) (aC (op2 fdivD (vE 1) (vE 2)) aN))))))
def m__law_cut : List D → Re Rv := runP 2 4 d__law_cut
/-- _law_whole(_law_thing, _law_least, _law_most); slots 0:_law_thing 1:_law_least 2:_law_most -/
def d__law_whole : G → SR :=
  (retS (andV (isiE "int" (vE 0)) (andV (notV (isiE "bool" (vE 0))) (chE leD leD (vE 1) (vE 0) (vE 2)))))
def m__law_whole : List D → Re Rv := runP 3 3 d__law_whole
/-- _law_is_urn(_law_thing); slots 0:_law_thing 1:_law_many -/
def d__law_is_urn : G → SR :=
  (seqS (ifS (orT (notT (tB' (isiE "tuple" (vE 0)))) (notT (tB' (chE leD leD (cE (.int 1)) (caE lenD (aC (vE 0) aN)) (cE (.int 4)))))) (retS (cE (.bool false))) nextS) (seqS (forS (anyI (vE 0)) (tgN 1) (ifS (notT (tB' (callE m__law_whole (aC (vE 1) (aC (cE (.int 0)) (aC (cE (.int 20)) aN)))))) (retS (cE (.bool false))) nextS)) (retS (op2 gtD (caE maxD (aC (vE 0) aN)) (cE (.int 0))))))
def m__law_is_urn : List D → Re Rv := runP 1 2 d__law_is_urn
/-- _law_bent_urn(_law_state_here, _law_urn_here); slots 0:_law_state_here 1:_law_urn_here 2:_law_at 3:_law_odd 4:_law_some -/
def d__law_bent_urn : G → SR :=
  (seqS (asgS (callS m__law_take (aC (vE 0) (aC (op2 addD (caE lenD (aC (vE 1) aN)) (cE (.int 1))) aN))) (tgN 2)) (seqS (asgS (op2 ixD (lstE (aC (cE (.int 21)) (aC (op1 negD (cE (.int 1))) (aC (cE (.bool true)) (aC (cE (.bool false)) (aC (cE .none) (aC (cE (.str "1")) (aC (tupE (aC (cE (.int 1)) aN)) (aC (op2 powD (cE (.int 10)) (cE (.int 29))) (aC (cE (.int 20)) (aC (cE (.int 0)) aN))))))))))) (callS m__law_take (aC (vE 0) (aC (cE (.int 10)) aN)))) (tgN 3)) (seqS (asgS (lstE (aC (op2 addD (op2 addD (slE slD (vE 1) oN (oS (vE 2))) (tupE (aC (vE 3) aN))) (slE slD (vE 1) (oS (op2 addD (vE 2) (cE (.int 1)))) oN)) (aC (op2 addD (op2 addD (slE slD (vE 1) oN (oS (vE 2))) (tupE (aC (vE 3) aN))) (slE slD (vE 1) (oS (vE 2)) oN)) (aC (op2 addD (slE slD (vE 1) oN (oS (vE 2))) (slE slD (vE 1) (oS (op2 addD (vE 2) (cE (.int 1)))) oN)) (aC (caE listD (aC (vE 1) aN)) aN))))) (tgN 4)) (seqS (asgS (op2 addD (vE 4) (lstE (aC (op2 mulD (tupE (aC (cE (.int 0)) aN)) (caE lenD (aC (vE 1) aN))) (aC (cE .none) (aC (cE (.dict [])) (aC (lstE (aC (vE 3) aN)) (aC (tupE (aC (vE 1) aN)) (aC (op2 addD (op2 addD (vE 1) (vE 1)) (tupE (aC (cE (.int 1)) aN))) aN)))))))) (tgN 4)) (retS (op2 ixD (vE 4) (op2 ixD (lstE (aC (cE (.int 0)) (aC (cE (.int 0)) (aC (cE (.int 0)) (aC (cE (.int 0)) (aC (cE (.int 1)) (aC (cE (.int 2)) (aC (cE (.int 3)) (aC (cE (.int 4)) (aC (cE (.int 5)) (aC (cE (.int 6)) (aC (cE (.int 7)) (aC (cE (.int 8)) (aC (cE (.int 9)) aN)))))))))))))) (callS m__law_take (aC (vE 0) (aC (cE (.int 13)) aN))))))))))
def m__law_bent_urn : List D → List D → Re (D × List D) := runS 2 5 d__law_bent_urn
/-- _law_no_urn(_law_state_here); slots 0:_law_state_here 1:_law_turn 2:_law_thing -/
def d__law_no_urn : G → SR :=
  (seqS (forS (rngI (aC (cE (.int 8)) aN)) (tgN 1) (seqS (asgS (callS m__law_bent_urn (aC (vE 0) (aC (callS m__law_urn (aC (vE 0) (aC (op2 addD (cE (.int 1)) (callS m__law_take (aC (vE 0) (aC (cE (.int 4)) aN)))) aN))) aN))) (tgN 2)) (ifS (notT (tB' (callE m__law_is_urn (aC (vE 2) aN)))) (retS (vE 2)) nextS))) (retS (op2 ixD (lstE (aC (cE .none) (aC (tupE aN) (aC (tupE (aC (cE (.int 0)) aN)) (aC (tupE (aC (cE (.int 1)) (aC (cE (.bool true)) aN))) aN))))) (callS m__law_take (aC (vE 0) (aC (cE (.int 4)) aN))))))
def m__law_no_urn : List D → List D → Re (D × List D) := runS 1 3 d__law_no_urn
/-- _law_counts(_law_state_here, _law_kinds); slots 0:_law_state_here 1:_law_kinds 2:_law_spare 3:_law_found 4:_law_kind 5:_law_many 6:_law_at -/
def d__law_counts : G → SR :=
  (seqS (asgS (op2 ixD (lstE (aC (cE (.int 6)) (aC (cE (.int 12)) (aC (cE (.int 40)) aN)))) (callS m__law_take (aC (vE 0) (aC (cE (.int 3)) aN)))) (tgN 2)) (seqS (asgS (lstE aN) (tgM 3)) (seqS (forS (rngI (aC (vE 1) aN)) (tgN 4) (seqS (asgS (callS m__law_take (aC (vE 0) (aC (op2 addD (vE 2) (cE (.int 1))) aN))) (tgN 5)) (seqS (appS (vE 3) (vE 5)) (asgS (op2 subD (vE 2) (vE 5)) (tgN 2))))) (seqS (asgS (callS m__law_take (aC (vE 0) (aC (vE 1) aN))) (tgN 6)) (retS (caE tupleD (aC (op2 addD (slE slD (vE 3) (oS (vE 6)) oN) (slE slD (vE 3) oN (oS (vE 6)))) aN)))))))
def m__law_counts : List D → List D → Re (D × List D) := runS 2 7 d__law_counts
/-- _law_bent_counts(_law_state_here, _law_counts_here); slots 0:_law_state_here 1:_law_counts_here 2:_law_at 3:_law_odd 4:_law_some -/
def d__law_bent_counts : G → SR :=
  (seqS (asgS (callS m__law_take (aC (vE 0) (aC (caE lenD (aC (vE 1) aN)) aN))) (tgN 2)) (seqS (asgS (op2 ixD (lstE (aC (op1 negD (cE (.int 1))) (aC (cE (.int 41)) (aC (cE (.bool true)) (aC (cE .none) (aC (cE (.str "1")) (aC (tupE (aC (cE (.int 1)) aN)) (aC (op2 powD (cE (.int 10)) (cE (.int 29))) (aC (lstE (aC (cE (.int 0)) aN)) (aC (op2 addD (op2 subD (cE (.int 41)) (caE sumD (aC (vE 1) aN))) (op2 ixD (vE 1) (vE 2))) aN)))))))))) (callS m__law_take (aC (vE 0) (aC (cE (.int 9)) aN)))) (tgN 3)) (seqS (asgS (lstE (aC (op2 addD (op2 addD (slE slD (vE 1) oN (oS (vE 2))) (tupE (aC (vE 3) aN))) (slE slD (vE 1) (oS (op2 addD (vE 2) (cE (.int 1)))) oN)) (aC (op2 addD (vE 1) (tupE (aC (cE (.int 0)) aN))) (aC (slE slD (vE 1) oN (oS (op1 negD (cE (.int 1))))) (aC (caE listD (aC (vE 1) aN)) (aC (cE .none) (aC (cE (.dict [])) (aC (lstE (aC (vE 3) aN)) aN)))))))) (tgN 4)) (retS (op2 ixD (vE 4) (op2 ixD (lstE (aC (cE (.int 0)) (aC (cE (.int 0)) (aC (cE (.int 0)) (aC (cE (.int 0)) (aC (cE (.int 1)) (aC (cE (.int 2)) (aC (cE (.int 3)) (aC (cE (.int 4)) (aC (cE (.int 5)) (aC (cE (.int 6)) aN))))))))))) (callS m__law_take (aC (vE 0) (aC (cE (.int 10)) aN)))))))))
def m__law_bent_counts : List D → List D → Re (D × List D) := runS 2 5 d__law_bent_counts
/-- _law_same(_law_found, _law_due_here); slots 0:_law_found 1:_law_due_here 2:_law_one 3:_law_other -/
def d__law_same (rec : List D → Re Rv) : G → SR :=
  (seqS (ifS (tB' (isi2E "list" "tuple" (vE 1))) (seqS (ifS (orT (tB' (op2 neD (isiE "list" (vE 0)) (isiE "list" (vE 1)))) (tB' (op2 neD (isiE "tuple" (vE 0)) (isiE "tuple" (vE 1))))) (retS (cE (.bool false))) nextS) (retS (andV (op2 eqD (caE lenD (aC (vE 0) aN)) (caE lenD (aC (vE 1) aN))) (caE allD (aC (lcE (zipI (aC (vE 0) (aC (vE 1) aN))) (cgT [(cgN 2), (cgN 3)]) yesT (callE rec (aC (vE 2) (aC (vE 3) aN))) [2, 3]) aN))))) nextS) (retS (andV (op2 eqD (isiE "bool" (vE 0)) (isiE "bool" (vE 1))) (op2 eqD (vE 0) (vE 1)))))
def m__law_same : Nat → List D → Re Rv
  | 0 => fun _ => .no
  | n + 1 => runP 2 4 (d__law_same (m__law_same n))
/-- _law_due(_law_urn_here, _law_more, _law_counts_here); slots 0:_law_urn_here 1:_law_more 2:_law_counts_here 3:_law_whole_here 4:_law_kind -/
def d__law_due : G → SR :=
  (seqS (ifS (tB' (op2 neD (lcE (rngI (aC (caE lenD (aC (vE 0) aN)) aN)) (cgN 4) (andT (tB' (op2 eqD (op2 ixD (vE 0) (vE 4)) (cE (.int 0)))) (tB' (op2 gtD (op2 ixD (vE 2) (vE 4)) (cE (.int 0))))) (vE 4) [4]) (lstE aN))) (retS (cE .none)) nextS) (seqS (asgS (op2 addD (caE sumD (aC (vE 0) aN)) (op2 mulD (vE 1) (caE sumD (aC (vE 2) aN)))) (tgN 3)) (retS (caE tupleD (aC (lcE (rngI (aC (caE lenD (aC (vE 0) aN)) aN)) (cgN 4) yesT (callE m__law_cut (aC (op2 addD (op2 ixD (vE 0) (vE 4)) (op2 mulD (vE 1) (op2 ixD (vE 2) (vE 4)))) (aC (vE 3) aN))) [4]) aN)))))
def m__law_due : List D → Re Rv := runP 3 5 d__law_due
/-- law(_law_script); slots 0:_law_script 1:_law_k 2:_law_state_here 3:_law_kinds 4:_law_counts_here 5:_law_alone 6:_law_some 7:_law_bad 8:_law_more 9:_law_none 10:_law_odd 11:_law_urn_here 12:_law_kind -/
def d_law : G → SR :=
  (seqS (forS (rngI (aC (caE maxD (aC (cE (.int 1)) (aC (caE minD (aC (caE lenD (aC (vE 0) aN)) (aC (cE (.int 8)) aN))) aN))) aN)) (tgN 1) (seqS (asgS (callE m__law_state (aC (vE 0) (aC (vE 1) aN))) (tgM 2)) (seqS (asgS (op2 addD (cE (.int 1)) (callS m__law_take (aC (vE 2) (aC (cE (.int 4)) aN)))) (tgN 3)) (seqS (asgS (tupE (aC (callS m__law_urn (aC (vE 2) (aC (vE 3) aN))) (aC (callS m__law_take (aC (vE 2) (aC (cE (.int 6)) aN))) (aC (callS m__law_counts (aC (vE 2) (aC (vE 3) aN))) aN)))) (tgT [(tgN 11), (tgN 8), (tgN 4)])) (seqS (asgS (caE tupleD (aC (lcE (rngI (aC (vE 3) aN)) (cgN 12) yesT (op2 mulD (op2 ixD (vE 4) (vE 12)) (caE intD (aC (op2 gtD (op2 ixD (vE 11) (vE 12)) (cE (.int 0))) aN))) [12]) aN)) (tgN 5)) (seqS (forS (anyI (lstE (aC (vE 4) (aC (op2 mulD (tupE (aC (cE (.int 0)) aN)) (vE 3)) (aC (vE 5) (aC (op1 backD (vE 4)) aN)))))) (tgN 6) (ifS (notT (tB' (callE (m__law_same 6) (aC (callE m_next_shares (aC (vE 11) (aC (vE 8) (aC (vE 6) aN)))) (aC (callE m__law_due (aC (vE 11) (aC (vE 8) (aC (vE 6) aN)))) aN))))) (retS (cE (.bool false))) nextS)) (seqS (asgS (op2 ixD (lstE (aC (op1 negD (cE (.int 1))) (aC (cE (.int 6)) (aC (cE (.bool true)) (aC (cE (.bool false)) (aC (cE .none) (aC (cE (.str "1")) (aC (tupE (aC (cE (.int 1)) aN)) (aC (op2 powD (cE (.int 10)) (cE (.int 29))) (aC (lstE (aC (cE (.int 0)) aN)) aN)))))))))) (callS m__law_take (aC (vE 2) (aC (cE (.int 9)) aN)))) (tgN 10)) (seqS (asgS (tupE (aC (callS m__law_no_urn (aC (vE 2) aN)) (aC (callS m__law_bent_counts (aC (vE 2) (aC (vE 4) aN))) aN))) (tgT [(tgN 9), (tgN 7)])) (seqS (ifS (tB' (op2 neD (refE ans_ref (callE m_next_shares (aC (vE 9) (aC (vE 10) (aC (vE 7) aN))))) (cE (.int 0)))) (retS (cE (.bool false))) nextS) (seqS (ifS (tB' (op2 neD (refE ans_ref (callE m_next_shares (aC (vE 11) (aC (vE 10) (aC (vE 7) aN))))) (cE (.int 5)))) (retS (cE (.bool false))) nextS) (ifS (tB' (op2 neD (refE ans_ref (callE m_next_shares (aC (vE 11) (aC (vE 8) (aC (vE 7) aN))))) (cE (.int 7)))) (retS (cE (.bool false))) nextS))))))))))) (retS (andV (op2 eqD (callE m_next_shares (aC (tupE (aC (cE (.int 1)) (aC (cE (.int 1)) aN))) (aC (cE (.int 1)) (aC (tupE (aC (cE (.int 2)) (aC (cE (.int 1)) aN))) aN)))) (tupE (aC (tupE (aC (cE (.int 3)) (aC (cE (.int 5)) aN))) (aC (tupE (aC (cE (.int 2)) (aC (cE (.int 5)) aN))) aN)))) (op2 isD (callE m_next_shares (aC (tupE (aC (cE (.int 0)) (aC (cE (.int 1)) aN))) (aC (cE (.int 1)) (aC (tupE (aC (cE (.int 1)) (aC (cE (.int 0)) aN))) aN)))) (cE .none)))))
def m_law : List D → Re Rv := runP 1 13 d_law
end LawHere

namespace LawHere
open PySem GD
/-! ### the package: urns -/
theorem is_whole_ev (d : D) : m_is_whole [d] = .ok (.da (.bool (whole d))) := by
  unfold m_is_whole d_is_whole; simp only [refE, roS_da, roS_un, roS_ml, runP, runS, seqS, nextS_ap, asgS, parS, ifS, retS, retN, dropS, raiseS, neverS, contS_ap, breakS_ap, frzS, appS, extS, tgN, tgM, tgs, tgT, tgS, vE, cE, op2, op1, aN, aC, tB', andT, orT, notT, andV, orV, notV, ifE, tupE, lstE, caE, chE, callE, callS, isiE_ap, oN, oS, slE, anyI, rngI, zipI, forS, yesT, cgN, cgT, cgs, whileS, rawL, rawOf, rawL_nil, datL, datL_nil, Rv.dat, GD.toBool, toBool_bool, intOf, intOf_int, ofO, ofO_some, ofO_none, Re.ok_bind, Re.ex_bind, Re.no_bind, Re.pure_eq, addD_int, addD_tup, addD_lst, addD_str, subD_int, negD_int, ltD_int, leD_int, gtD_int, geD_int, isD_none, isD_bool, isNotD_none, isNotD_bool, isNoneD_none, isNoneD_bool, isNoneD_int, isNoneD_str, isNoneD_list, isNoneD_tuple, isNoneD_dict, lenD_lst, lenD_tup, absD_int, intD_int, intD_bool, tupleD_lst, tupleD_tup, listD_lst, listD_tup, itemsOf_lst, itemsOf_tup, zipD_lst, zipD_tup, maxD_int, minD_int, slD_tup, slD_lst, pow_10_18, itemsOf_tupI, isi_tuple, isi_int, isi_bool, isi_str, isi_list, isTup_none, isTup_bool, isTup_int, isTup_str, isTup_list, isTup_tuple, isTup_dict, isWB_none, isWB_bool, isWB_int, isWB_str, isWB_list, isWB_tuple, isWB_dict, isB_none, isB_bool, isB_int, isB_str, isB_list, isB_tuple, isB_dict, isStr_none, isStr_bool, isStr_int, isStr_str, isStr_list, isStr_tuple, isStr_dict, isLst_none, isLst_bool, isLst_int, isLst_str, isLst_list, isLst_tuple, isTupI, sumD_lst, lenD_tupI, sumD_tupI, lenD_drD, eqD_int, neD_int, ixD_tup, ixD_lst, at0, at1, at2, at3, List.length_cons, List.length_nil, List.map_cons, List.map_nil, List.cons_append, List.nil_append, List.replicate, List.getElem?_cons_zero, List.getElem?_cons_succ, List.getElem?_nil, List.set_cons_zero, List.set_cons_succ, Nat.reduceAdd, Nat.reduceSub, Nat.reduceLeDiff, Nat.reduceEqDiff, if_true, if_false, beq_self_eq_true, decide_true, eq_self, reduceCtorEq, Bool.not_true, Bool.not_false, Bool.true_and, Bool.and_true, Bool.false_and, Bool.and_false, Bool.or_true, Bool.true_or, Bool.or_false, Bool.false_or, Bool.false_eq_true, Option.map_some, Option.map_none, Option.bind_some, Option.bind_none]
  cases d <;> rfl
theorem is_between_ev (d : D) (a b : Int) : m_is_between [d, .int a, .int b] = .ok (.da (.bool (btw d a b))) := by
  unfold m_is_between d_is_between; simp only [refE, roS_da, roS_un, roS_ml, runP, runS, seqS, nextS_ap, asgS, parS, ifS, retS, retN, dropS, raiseS, neverS, contS_ap, breakS_ap, frzS, appS, extS, tgN, tgM, tgs, tgT, tgS, vE, cE, op2, op1, aN, aC, tB', andT, orT, notT, andV, orV, notV, ifE, tupE, lstE, caE, chE, callE, callS, isiE_ap, oN, oS, slE, anyI, rngI, zipI, forS, yesT, cgN, cgT, cgs, whileS, rawL, rawOf, rawL_nil, datL, datL_nil, Rv.dat, GD.toBool, toBool_bool, intOf, intOf_int, ofO, ofO_some, ofO_none, Re.ok_bind, Re.ex_bind, Re.no_bind, Re.pure_eq, addD_int, addD_tup, addD_lst, addD_str, subD_int, negD_int, ltD_int, leD_int, gtD_int, geD_int, isD_none, isD_bool, isNotD_none, isNotD_bool, isNoneD_none, isNoneD_bool, isNoneD_int, isNoneD_str, isNoneD_list, isNoneD_tuple, isNoneD_dict, lenD_lst, lenD_tup, absD_int, intD_int, intD_bool, tupleD_lst, tupleD_tup, listD_lst, listD_tup, itemsOf_lst, itemsOf_tup, zipD_lst, zipD_tup, maxD_int, minD_int, slD_tup, slD_lst, pow_10_18, itemsOf_tupI, isi_tuple, isi_int, isi_bool, isi_str, isi_list, isTup_none, isTup_bool, isTup_int, isTup_str, isTup_list, isTup_tuple, isTup_dict, isWB_none, isWB_bool, isWB_int, isWB_str, isWB_list, isWB_tuple, isWB_dict, isB_none, isB_bool, isB_int, isB_str, isB_list, isB_tuple, isB_dict, isStr_none, isStr_bool, isStr_int, isStr_str, isStr_list, isStr_tuple, isStr_dict, isLst_none, isLst_bool, isLst_int, isLst_str, isLst_list, isLst_tuple, isTupI, sumD_lst, lenD_tupI, sumD_tupI, lenD_drD, eqD_int, neD_int, ixD_tup, ixD_lst, at0, at1, at2, at3, List.length_cons, List.length_nil, List.map_cons, List.map_nil, List.cons_append, List.nil_append, List.replicate, List.getElem?_cons_zero, List.getElem?_cons_succ, List.getElem?_nil, List.set_cons_zero, List.set_cons_succ, Nat.reduceAdd, Nat.reduceSub, Nat.reduceLeDiff, Nat.reduceEqDiff, if_true, if_false, beq_self_eq_true, decide_true, eq_self, reduceCtorEq, Bool.not_true, Bool.not_false, Bool.true_and, Bool.and_true, Bool.false_and, Bool.and_false, Bool.or_true, Bool.true_or, Bool.or_false, Bool.false_or, Bool.false_eq_true, Option.map_some, Option.map_none, Option.bind_some, Option.bind_none, is_whole_ev]
  cases d
  case int x =>
    simp only [refE, roS_da, roS_un, roS_ml, runP, runS, seqS, nextS_ap, asgS, parS, ifS, retS, retN, dropS, raiseS, neverS, contS_ap, breakS_ap, frzS, appS, extS, tgN, tgM, tgs, tgT, tgS, vE, cE, op2, op1, aN, aC, tB', andT, orT, notT, andV, orV, notV, ifE, tupE, lstE, caE, chE, callE, callS, isiE_ap, oN, oS, slE, anyI, rngI, zipI, forS, yesT, cgN, cgT, cgs, whileS, rawL, rawOf, rawL_nil, datL, datL_nil, Rv.dat, GD.toBool, toBool_bool, intOf, intOf_int, ofO, ofO_some, ofO_none, Re.ok_bind, Re.ex_bind, Re.no_bind, Re.pure_eq, addD_int, addD_tup, addD_lst, addD_str, subD_int, negD_int, ltD_int, leD_int, gtD_int, geD_int, isD_none, isD_bool, isNotD_none, isNotD_bool, isNoneD_none, isNoneD_bool, isNoneD_int, isNoneD_str, isNoneD_list, isNoneD_tuple, isNoneD_dict, lenD_lst, lenD_tup, absD_int, intD_int, intD_bool, tupleD_lst, tupleD_tup, listD_lst, listD_tup, itemsOf_lst, itemsOf_tup, zipD_lst, zipD_tup, maxD_int, minD_int, slD_tup, slD_lst, pow_10_18, itemsOf_tupI, isi_tuple, isi_int, isi_bool, isi_str, isi_list, isTup_none, isTup_bool, isTup_int, isTup_str, isTup_list, isTup_tuple, isTup_dict, isWB_none, isWB_bool, isWB_int, isWB_str, isWB_list, isWB_tuple, isWB_dict, isB_none, isB_bool, isB_int, isB_str, isB_list, isB_tuple, isB_dict, isStr_none, isStr_bool, isStr_int, isStr_str, isStr_list, isStr_tuple, isStr_dict, isLst_none, isLst_bool, isLst_int, isLst_str, isLst_list, isLst_tuple, isTupI, sumD_lst, lenD_tupI, sumD_tupI, lenD_drD, eqD_int, neD_int, ixD_tup, ixD_lst, at0, at1, at2, at3, List.length_cons, List.length_nil, List.map_cons, List.map_nil, List.cons_append, List.nil_append, List.replicate, List.getElem?_cons_zero, List.getElem?_cons_succ, List.getElem?_nil, List.set_cons_zero, List.set_cons_succ, Nat.reduceAdd, Nat.reduceSub, Nat.reduceLeDiff, Nat.reduceEqDiff, if_true, if_false, beq_self_eq_true, decide_true, eq_self, reduceCtorEq, Bool.not_true, Bool.not_false, Bool.true_and, Bool.and_true, Bool.false_and, Bool.and_false, Bool.or_true, Bool.true_or, Bool.or_false, Bool.false_or, Bool.false_eq_true, Option.map_some, Option.map_none, Option.bind_some, Option.bind_none, whole, btw]
    cases decide (a ≤ x) <;> rfl
  all_goals (simp only [refE, roS_da, roS_un, roS_ml, runP, runS, seqS, nextS_ap, asgS, parS, ifS, retS, retN, dropS, raiseS, neverS, contS_ap, breakS_ap, frzS, appS, extS, tgN, tgM, tgs, tgT, tgS, vE, cE, op2, op1, aN, aC, tB', andT, orT, notT, andV, orV, notV, ifE, tupE, lstE, caE, chE, callE, callS, isiE_ap, oN, oS, slE, anyI, rngI, zipI, forS, yesT, cgN, cgT, cgs, whileS, rawL, rawOf, rawL_nil, datL, datL_nil, Rv.dat, GD.toBool, toBool_bool, intOf, intOf_int, ofO, ofO_some, ofO_none, Re.ok_bind, Re.ex_bind, Re.no_bind, Re.pure_eq, addD_int, addD_tup, addD_lst, addD_str, subD_int, negD_int, ltD_int, leD_int, gtD_int, geD_int, isD_none, isD_bool, isNotD_none, isNotD_bool, isNoneD_none, isNoneD_bool, isNoneD_int, isNoneD_str, isNoneD_list, isNoneD_tuple, isNoneD_dict, lenD_lst, lenD_tup, absD_int, intD_int, intD_bool, tupleD_lst, tupleD_tup, listD_lst, listD_tup, itemsOf_lst, itemsOf_tup, zipD_lst, zipD_tup, maxD_int, minD_int, slD_tup, slD_lst, pow_10_18, itemsOf_tupI, isi_tuple, isi_int, isi_bool, isi_str, isi_list, isTup_none, isTup_bool, isTup_int, isTup_str, isTup_list, isTup_tuple, isTup_dict, isWB_none, isWB_bool, isWB_int, isWB_str, isWB_list, isWB_tuple, isWB_dict, isB_none, isB_bool, isB_int, isB_str, isB_list, isB_tuple, isB_dict, isStr_none, isStr_bool, isStr_int, isStr_str, isStr_list, isStr_tuple, isStr_dict, isLst_none, isLst_bool, isLst_int, isLst_str, isLst_list, isLst_tuple, isTupI, sumD_lst, lenD_tupI, sumD_tupI, lenD_drD, eqD_int, neD_int, ixD_tup, ixD_lst, at0, at1, at2, at3, List.length_cons, List.length_nil, List.map_cons, List.map_nil, List.cons_append, List.nil_append, List.replicate, List.getElem?_cons_zero, List.getElem?_cons_succ, List.getElem?_nil, List.set_cons_zero, List.set_cons_succ, Nat.reduceAdd, Nat.reduceSub, Nat.reduceLeDiff, Nat.reduceEqDiff, if_true, if_false, beq_self_eq_true, decide_true, eq_self, reduceCtorEq, Bool.not_true, Bool.not_false, Bool.true_and, Bool.and_true, Bool.false_and, Bool.and_false, Bool.or_true, Bool.true_or, Bool.or_false, Bool.false_or, Bool.false_eq_true, Option.map_some, Option.map_none, Option.bind_some, Option.bind_none, whole, btw])
theorem div_loop (a0 : List Sl) : ∀ (n : Nat) (a b : Int), b.natAbs < n → ∃ a' : Int, whileD (tB' (op2 neD (vE 1) (cE (.int 0)))) (parS 0 1 (aC (vE 1) (aC (op2 modD (vE 0) (vE 1)) aN))) n [.da (.int a), .da (.int b)] = .nx [.da (.int a'), .da (.int 0)] ∧ a'.natAbs = Nat.gcd a.natAbs b.natAbs
  | 0, a, b, h => by omega
  | n + 1, a, b, h => by
    unfold whileD
    simp only [refE, roS_da, roS_un, roS_ml, runP, runS, seqS, nextS_ap, asgS, parS, ifS, retS, retN, dropS, raiseS, neverS, contS_ap, breakS_ap, frzS, appS, extS, tgN, tgM, tgs, tgT, tgS, vE, cE, op2, op1, aN, aC, tB', andT, orT, notT, andV, orV, notV, ifE, tupE, lstE, caE, chE, callE, callS, isiE_ap, oN, oS, slE, anyI, rngI, zipI, forS, yesT, cgN, cgT, cgs, whileS, rawL, rawOf, rawL_nil, datL, datL_nil, Rv.dat, GD.toBool, toBool_bool, intOf, intOf_int, ofO, ofO_some, ofO_none, Re.ok_bind, Re.ex_bind, Re.no_bind, Re.pure_eq, addD_int, addD_tup, addD_lst, addD_str, subD_int, negD_int, ltD_int, leD_int, gtD_int, geD_int, isD_none, isD_bool, isNotD_none, isNotD_bool, isNoneD_none, isNoneD_bool, isNoneD_int, isNoneD_str, isNoneD_list, isNoneD_tuple, isNoneD_dict, lenD_lst, lenD_tup, absD_int, intD_int, intD_bool, tupleD_lst, tupleD_tup, listD_lst, listD_tup, itemsOf_lst, itemsOf_tup, zipD_lst, zipD_tup, maxD_int, minD_int, slD_tup, slD_lst, pow_10_18, itemsOf_tupI, isi_tuple, isi_int, isi_bool, isi_str, isi_list, isTup_none, isTup_bool, isTup_int, isTup_str, isTup_list, isTup_tuple, isTup_dict, isWB_none, isWB_bool, isWB_int, isWB_str, isWB_list, isWB_tuple, isWB_dict, isB_none, isB_bool, isB_int, isB_str, isB_list, isB_tuple, isB_dict, isStr_none, isStr_bool, isStr_int, isStr_str, isStr_list, isStr_tuple, isStr_dict, isLst_none, isLst_bool, isLst_int, isLst_str, isLst_list, isLst_tuple, isTupI, sumD_lst, lenD_tupI, sumD_tupI, lenD_drD, eqD_int, neD_int, ixD_tup, ixD_lst, at0, at1, at2, at3, List.length_cons, List.length_nil, List.map_cons, List.map_nil, List.cons_append, List.nil_append, List.replicate, List.getElem?_cons_zero, List.getElem?_cons_succ, List.getElem?_nil, List.set_cons_zero, List.set_cons_succ, Nat.reduceAdd, Nat.reduceSub, Nat.reduceLeDiff, Nat.reduceEqDiff, if_true, if_false, beq_self_eq_true, decide_true, eq_self, reduceCtorEq, Bool.not_true, Bool.not_false, Bool.true_and, Bool.and_true, Bool.false_and, Bool.and_false, Bool.or_true, Bool.true_or, Bool.or_false, Bool.false_or, Bool.false_eq_true, Option.map_some, Option.map_none, Option.bind_some, Option.bind_none]
    by_cases hb : b = 0
    · subst hb
      exact ⟨a, rfl, by simp⟩
    · have e : (!(b == 0)) = true := by simp [hb]
      have e2 : modD (.int a) (.int b) = some (.da (.int (a.fmod b))) := if_neg hb
      simp only [refE, roS_da, roS_un, roS_ml, runP, runS, seqS, nextS_ap, asgS, parS, ifS, retS, retN, dropS, raiseS, neverS, contS_ap, breakS_ap, frzS, appS, extS, tgN, tgM, tgs, tgT, tgS, vE, cE, op2, op1, aN, aC, tB', andT, orT, notT, andV, orV, notV, ifE, tupE, lstE, caE, chE, callE, callS, isiE_ap, oN, oS, slE, anyI, rngI, zipI, forS, yesT, cgN, cgT, cgs, whileS, rawL, rawOf, rawL_nil, datL, datL_nil, Rv.dat, GD.toBool, toBool_bool, intOf, intOf_int, ofO, ofO_some, ofO_none, Re.ok_bind, Re.ex_bind, Re.no_bind, Re.pure_eq, addD_int, addD_tup, addD_lst, addD_str, subD_int, negD_int, ltD_int, leD_int, gtD_int, geD_int, isD_none, isD_bool, isNotD_none, isNotD_bool, isNoneD_none, isNoneD_bool, isNoneD_int, isNoneD_str, isNoneD_list, isNoneD_tuple, isNoneD_dict, lenD_lst, lenD_tup, absD_int, intD_int, intD_bool, tupleD_lst, tupleD_tup, listD_lst, listD_tup, itemsOf_lst, itemsOf_tup, zipD_lst, zipD_tup, maxD_int, minD_int, slD_tup, slD_lst, pow_10_18, itemsOf_tupI, isi_tuple, isi_int, isi_bool, isi_str, isi_list, isTup_none, isTup_bool, isTup_int, isTup_str, isTup_list, isTup_tuple, isTup_dict, isWB_none, isWB_bool, isWB_int, isWB_str, isWB_list, isWB_tuple, isWB_dict, isB_none, isB_bool, isB_int, isB_str, isB_list, isB_tuple, isB_dict, isStr_none, isStr_bool, isStr_int, isStr_str, isStr_list, isStr_tuple, isStr_dict, isLst_none, isLst_bool, isLst_int, isLst_str, isLst_list, isLst_tuple, isTupI, sumD_lst, lenD_tupI, sumD_tupI, lenD_drD, eqD_int, neD_int, ixD_tup, ixD_lst, at0, at1, at2, at3, List.length_cons, List.length_nil, List.map_cons, List.map_nil, List.cons_append, List.nil_append, List.replicate, List.getElem?_cons_zero, List.getElem?_cons_succ, List.getElem?_nil, List.set_cons_zero, List.set_cons_succ, Nat.reduceAdd, Nat.reduceSub, Nat.reduceLeDiff, Nat.reduceEqDiff, if_true, if_false, beq_self_eq_true, decide_true, eq_self, reduceCtorEq, Bool.not_true, Bool.not_false, Bool.true_and, Bool.and_true, Bool.false_and, Bool.and_false, Bool.or_true, Bool.true_or, Bool.or_false, Bool.false_or, Bool.false_eq_true, Option.map_some, Option.map_none, Option.bind_some, Option.bind_none, e, e2]
      obtain ⟨a', h1, h2⟩ := div_loop a0 n b (a.fmod b) (by have := fmod_natAbs_lt a hb; omega)
      exact ⟨a', h1, by rw [h2, gcd_fmod]⟩
theorem divisor_ev (a b : Int) : m_divisor [.int a, .int b] = .ok (.da (.int (Nat.gcd a.natAbs b.natAbs : Nat))) := by
  unfold m_divisor d_divisor; simp only [refE, roS_da, roS_un, roS_ml, runP, runS, seqS, nextS_ap, asgS, parS, ifS, retS, retN, dropS, raiseS, neverS, contS_ap, breakS_ap, frzS, appS, extS, tgN, tgM, tgs, tgT, tgS, vE, cE, op2, op1, aN, aC, tB', andT, orT, notT, andV, orV, notV, ifE, tupE, lstE, caE, chE, callE, callS, isiE_ap, oN, oS, slE, anyI, rngI, zipI, forS, yesT, cgN, cgT, cgs, whileS, rawL, rawOf, rawL_nil, datL, datL_nil, Rv.dat, GD.toBool, toBool_bool, intOf, intOf_int, ofO, ofO_some, ofO_none, Re.ok_bind, Re.ex_bind, Re.no_bind, Re.pure_eq, addD_int, addD_tup, addD_lst, addD_str, subD_int, negD_int, ltD_int, leD_int, gtD_int, geD_int, isD_none, isD_bool, isNotD_none, isNotD_bool, isNoneD_none, isNoneD_bool, isNoneD_int, isNoneD_str, isNoneD_list, isNoneD_tuple, isNoneD_dict, lenD_lst, lenD_tup, absD_int, intD_int, intD_bool, tupleD_lst, tupleD_tup, listD_lst, listD_tup, itemsOf_lst, itemsOf_tup, zipD_lst, zipD_tup, maxD_int, minD_int, slD_tup, slD_lst, pow_10_18, itemsOf_tupI, isi_tuple, isi_int, isi_bool, isi_str, isi_list, isTup_none, isTup_bool, isTup_int, isTup_str, isTup_list, isTup_tuple, isTup_dict, isWB_none, isWB_bool, isWB_int, isWB_str, isWB_list, isWB_tuple, isWB_dict, isB_none, isB_bool, isB_int, isB_str, isB_list, isB_tuple, isB_dict, isStr_none, isStr_bool, isStr_int, isStr_str, isStr_list, isStr_tuple, isStr_dict, isLst_none, isLst_bool, isLst_int, isLst_str, isLst_list, isLst_tuple, isTupI, sumD_lst, lenD_tupI, sumD_tupI, lenD_drD, eqD_int, neD_int, ixD_tup, ixD_lst, at0, at1, at2, at3, List.length_cons, List.length_nil, List.map_cons, List.map_nil, List.cons_append, List.nil_append, List.replicate, List.getElem?_cons_zero, List.getElem?_cons_succ, List.getElem?_nil, List.set_cons_zero, List.set_cons_succ, Nat.reduceAdd, Nat.reduceSub, Nat.reduceLeDiff, Nat.reduceEqDiff, if_true, if_false, beq_self_eq_true, decide_true, eq_self, reduceCtorEq, Bool.not_true, Bool.not_false, Bool.true_and, Bool.and_true, Bool.false_and, Bool.and_false, Bool.or_true, Bool.true_or, Bool.or_false, Bool.false_or, Bool.false_eq_true, Option.map_some, Option.map_none, Option.bind_some, Option.bind_none]
  obtain ⟨a', h1, h2⟩ := div_loop [] (fu_divisor [.da (.int a), .da (.int b)]) a b (by show b.natAbs < b.natAbs + 1; omega)
  simp only [refE, roS_da, roS_un, roS_ml, runP, runS, seqS, nextS_ap, asgS, parS, ifS, retS, retN, dropS, raiseS, neverS, contS_ap, breakS_ap, frzS, appS, extS, tgN, tgM, tgs, tgT, tgS, vE, cE, op2, op1, aN, aC, tB', andT, orT, notT, andV, orV, notV, ifE, tupE, lstE, caE, chE, callE, callS, isiE_ap, oN, oS, slE, anyI, rngI, zipI, forS, yesT, cgN, cgT, cgs, whileS, rawL, rawOf, rawL_nil, datL, datL_nil, Rv.dat, GD.toBool, toBool_bool, intOf, intOf_int, ofO, ofO_some, ofO_none, Re.ok_bind, Re.ex_bind, Re.no_bind, Re.pure_eq, addD_int, addD_tup, addD_lst, addD_str, subD_int, negD_int, ltD_int, leD_int, gtD_int, geD_int, isD_none, isD_bool, isNotD_none, isNotD_bool, isNoneD_none, isNoneD_bool, isNoneD_int, isNoneD_str, isNoneD_list, isNoneD_tuple, isNoneD_dict, lenD_lst, lenD_tup, absD_int, intD_int, intD_bool, tupleD_lst, tupleD_tup, listD_lst, listD_tup, itemsOf_lst, itemsOf_tup, zipD_lst, zipD_tup, maxD_int, minD_int, slD_tup, slD_lst, pow_10_18, itemsOf_tupI, isi_tuple, isi_int, isi_bool, isi_str, isi_list, isTup_none, isTup_bool, isTup_int, isTup_str, isTup_list, isTup_tuple, isTup_dict, isWB_none, isWB_bool, isWB_int, isWB_str, isWB_list, isWB_tuple, isWB_dict, isB_none, isB_bool, isB_int, isB_str, isB_list, isB_tuple, isB_dict, isStr_none, isStr_bool, isStr_int, isStr_str, isStr_list, isStr_tuple, isStr_dict, isLst_none, isLst_bool, isLst_int, isLst_str, isLst_list, isLst_tuple, isTupI, sumD_lst, lenD_tupI, sumD_tupI, lenD_drD, eqD_int, neD_int, ixD_tup, ixD_lst, at0, at1, at2, at3, List.length_cons, List.length_nil, List.map_cons, List.map_nil, List.cons_append, List.nil_append, List.replicate, List.getElem?_cons_zero, List.getElem?_cons_succ, List.getElem?_nil, List.set_cons_zero, List.set_cons_succ, Nat.reduceAdd, Nat.reduceSub, Nat.reduceLeDiff, Nat.reduceEqDiff, if_true, if_false, beq_self_eq_true, decide_true, eq_self, reduceCtorEq, Bool.not_true, Bool.not_false, Bool.true_and, Bool.and_true, Bool.false_and, Bool.and_false, Bool.or_true, Bool.true_or, Bool.or_false, Bool.false_or, Bool.false_eq_true, Option.map_some, Option.map_none, Option.bind_some, Option.bind_none, h1]
  rw [← h2]
  have e : (if a' < 0 then -a' else a') = (a'.natAbs : Int) := by split <;> omega
  rw [e]
theorem fraction_nat (a : Int) {d : Nat} (hd : d ≠ 0) (hs : d < 2 ^ 8000) : m_fraction [.int a, .int (d : Int)] = .ok (.da (frD (mkRat a d))) := by
  have g0 : 0 < Nat.gcd (d : Int).natAbs a.natAbs := Nat.gcd_pos_of_pos_left _ (by omega)
  have gl : Nat.gcd (d : Int).natAbs a.natAbs ≤ d := Nat.le_of_dvd (by omega) (Nat.gcd_dvd_left d a.natAbs)
  have c : ((Nat.gcd (d : Int).natAbs a.natAbs : Nat) : Int).natAbs.log2 < 9000 := by
    have := log2_lt' (Nat.lt_of_le_of_lt gl hs) (by decide)
    simp only [Int.natAbs_natCast] at this ⊢
    omega
  have c0 : 0 < ((Nat.gcd (d : Int).natAbs a.natAbs : Nat) : Int) := by omega
  have f : ∀ i, fdivD (.int i) (.int ((Nat.gcd (d : Int).natAbs a.natAbs : Nat) : Int)) = some (.da (.int (i / ((Nat.gcd (d : Int).natAbs a.natAbs : Nat) : Int)))) := fun i => fdivD_int c0 c
  unfold m_fraction d_fraction; simp only [refE, roS_da, roS_un, roS_ml, runP, runS, seqS, nextS_ap, asgS, parS, ifS, retS, retN, dropS, raiseS, neverS, contS_ap, breakS_ap, frzS, appS, extS, tgN, tgM, tgs, tgT, tgS, vE, cE, op2, op1, aN, aC, tB', andT, orT, notT, andV, orV, notV, ifE, tupE, lstE, caE, chE, callE, callS, isiE_ap, oN, oS, slE, anyI, rngI, zipI, forS, yesT, cgN, cgT, cgs, whileS, rawL, rawOf, rawL_nil, datL, datL_nil, Rv.dat, GD.toBool, toBool_bool, intOf, intOf_int, ofO, ofO_some, ofO_none, Re.ok_bind, Re.ex_bind, Re.no_bind, Re.pure_eq, addD_int, addD_tup, addD_lst, addD_str, subD_int, negD_int, ltD_int, leD_int, gtD_int, geD_int, isD_none, isD_bool, isNotD_none, isNotD_bool, isNoneD_none, isNoneD_bool, isNoneD_int, isNoneD_str, isNoneD_list, isNoneD_tuple, isNoneD_dict, lenD_lst, lenD_tup, absD_int, intD_int, intD_bool, tupleD_lst, tupleD_tup, listD_lst, listD_tup, itemsOf_lst, itemsOf_tup, zipD_lst, zipD_tup, maxD_int, minD_int, slD_tup, slD_lst, pow_10_18, itemsOf_tupI, isi_tuple, isi_int, isi_bool, isi_str, isi_list, isTup_none, isTup_bool, isTup_int, isTup_str, isTup_list, isTup_tuple, isTup_dict, isWB_none, isWB_bool, isWB_int, isWB_str, isWB_list, isWB_tuple, isWB_dict, isB_none, isB_bool, isB_int, isB_str, isB_list, isB_tuple, isB_dict, isStr_none, isStr_bool, isStr_int, isStr_str, isStr_list, isStr_tuple, isStr_dict, isLst_none, isLst_bool, isLst_int, isLst_str, isLst_list, isLst_tuple, isTupI, sumD_lst, lenD_tupI, sumD_tupI, lenD_drD, eqD_int, neD_int, ixD_tup, ixD_lst, at0, at1, at2, at3, List.length_cons, List.length_nil, List.map_cons, List.map_nil, List.cons_append, List.nil_append, List.replicate, List.getElem?_cons_zero, List.getElem?_cons_succ, List.getElem?_nil, List.set_cons_zero, List.set_cons_succ, Nat.reduceAdd, Nat.reduceSub, Nat.reduceLeDiff, Nat.reduceEqDiff, if_true, if_false, beq_self_eq_true, decide_true, eq_self, reduceCtorEq, Bool.not_true, Bool.not_false, Bool.true_and, Bool.and_true, Bool.false_and, Bool.and_false, Bool.or_true, Bool.true_or, Bool.or_false, Bool.false_or, Bool.false_eq_true, Option.map_some, Option.map_none, Option.bind_some, Option.bind_none, divisor_ev, f]
  obtain ⟨h1, h2⟩ := mkRat_nd a hd
  unfold frD
  rw [h1, h2]
  have e : Nat.gcd (d : Int).natAbs a.natAbs = a.natAbs.gcd d := Nat.gcd_comm _ _
  rw [e, Int.natCast_ediv]
theorem fraction_ev (a : Int) {b : Int} (h : 0 < b) (hs : b < 2 ^ 8000) : m_fraction [.int a, .int b] = .ok (.da (frD ((a : Rat) / (b : Rat)))) := by
  have h2 := fraction_nat a (d := b.toNat) (by omega) (by rw [← Int.ofNat_lt]; rw [Int.toNat_of_nonneg (by omega)]; simpa using hs)
  rw [Int.toNat_of_nonneg (by omega), mkRat_div a h] at h2
  exact h2
theorem is_urn_ev (d : D) : m_is_urn [d] = .ok (.da (.bool (isUrn d))) := by
  unfold m_is_urn d_is_urn
  cases d
  case tuple xs =>
    simp only [refE, roS_da, roS_un, roS_ml, runP, runS, seqS, nextS_ap, asgS, parS, ifS, retS, retN, dropS, raiseS, neverS, contS_ap, breakS_ap, frzS, appS, extS, tgN, tgM, tgs, tgT, tgS, vE, cE, op2, op1, aN, aC, tB', andT, orT, notT, andV, orV, notV, ifE, tupE, lstE, caE, chE, callE, callS, isiE_ap, oN, oS, slE, anyI, rngI, zipI, forS, yesT, cgN, cgT, cgs, whileS, rawL, rawOf, rawL_nil, datL, datL_nil, Rv.dat, GD.toBool, toBool_bool, intOf, intOf_int, ofO, ofO_some, ofO_none, Re.ok_bind, Re.ex_bind, Re.no_bind, Re.pure_eq, addD_int, addD_tup, addD_lst, addD_str, subD_int, negD_int, ltD_int, leD_int, gtD_int, geD_int, isD_none, isD_bool, isNotD_none, isNotD_bool, isNoneD_none, isNoneD_bool, isNoneD_int, isNoneD_str, isNoneD_list, isNoneD_tuple, isNoneD_dict, lenD_lst, lenD_tup, absD_int, intD_int, intD_bool, tupleD_lst, tupleD_tup, listD_lst, listD_tup, itemsOf_lst, itemsOf_tup, zipD_lst, zipD_tup, maxD_int, minD_int, slD_tup, slD_lst, pow_10_18, itemsOf_tupI, isi_tuple, isi_int, isi_bool, isi_str, isi_list, isTup_none, isTup_bool, isTup_int, isTup_str, isTup_list, isTup_tuple, isTup_dict, isWB_none, isWB_bool, isWB_int, isWB_str, isWB_list, isWB_tuple, isWB_dict, isB_none, isB_bool, isB_int, isB_str, isB_list, isB_tuple, isB_dict, isStr_none, isStr_bool, isStr_int, isStr_str, isStr_list, isStr_tuple, isStr_dict, isLst_none, isLst_bool, isLst_int, isLst_str, isLst_list, isLst_tuple, isTupI, sumD_lst, lenD_tupI, sumD_tupI, lenD_drD, eqD_int, neD_int, ixD_tup, ixD_lst, at0, at1, at2, at3, List.length_cons, List.length_nil, List.map_cons, List.map_nil, List.cons_append, List.nil_append, List.replicate, List.getElem?_cons_zero, List.getElem?_cons_succ, List.getElem?_nil, List.set_cons_zero, List.set_cons_succ, Nat.reduceAdd, Nat.reduceSub, Nat.reduceLeDiff, Nat.reduceEqDiff, if_true, if_false, beq_self_eq_true, decide_true, eq_self, reduceCtorEq, Bool.not_true, Bool.not_false, Bool.true_and, Bool.and_true, Bool.false_and, Bool.and_false, Bool.or_true, Bool.true_or, Bool.or_false, Bool.false_or, Bool.false_eq_true, Option.map_some, Option.map_none, Option.bind_some, Option.bind_none]
    by_cases h1 : (1 : Int) ≤ xs.length
    · by_cases h2 : (xs.length : Int) ≤ 4
      · have L := lc_map (it := anyI (vE 0)) (j := 1) (te := callE m_is_between (aC (vE 1) (aC (cE (.int 0)) (aC (cE (.int 20)) aN)))) (h := fun d => .bool (btw d 0 20)) (g := [.da (.tuple xs), .un]) (g1 := [.da (.tuple xs), .un]) (ds := xs) rfl (by omega)
          (fun d _ => ⟨.da (.bool (btw d 0 20)), by simp only [refE, roS_da, roS_un, roS_ml, runP, runS, seqS, nextS_ap, asgS, parS, ifS, retS, retN, dropS, raiseS, neverS, contS_ap, breakS_ap, frzS, appS, extS, tgN, tgM, tgs, tgT, tgS, vE, cE, op2, op1, aN, aC, tB', andT, orT, notT, andV, orV, notV, ifE, tupE, lstE, caE, chE, callE, callS, isiE_ap, oN, oS, slE, anyI, rngI, zipI, forS, yesT, cgN, cgT, cgs, whileS, rawL, rawOf, rawL_nil, datL, datL_nil, Rv.dat, GD.toBool, toBool_bool, intOf, intOf_int, ofO, ofO_some, ofO_none, Re.ok_bind, Re.ex_bind, Re.no_bind, Re.pure_eq, addD_int, addD_tup, addD_lst, addD_str, subD_int, negD_int, ltD_int, leD_int, gtD_int, geD_int, isD_none, isD_bool, isNotD_none, isNotD_bool, isNoneD_none, isNoneD_bool, isNoneD_int, isNoneD_str, isNoneD_list, isNoneD_tuple, isNoneD_dict, lenD_lst, lenD_tup, absD_int, intD_int, intD_bool, tupleD_lst, tupleD_tup, listD_lst, listD_tup, itemsOf_lst, itemsOf_tup, zipD_lst, zipD_tup, maxD_int, minD_int, slD_tup, slD_lst, pow_10_18, itemsOf_tupI, isi_tuple, isi_int, isi_bool, isi_str, isi_list, isTup_none, isTup_bool, isTup_int, isTup_str, isTup_list, isTup_tuple, isTup_dict, isWB_none, isWB_bool, isWB_int, isWB_str, isWB_list, isWB_tuple, isWB_dict, isB_none, isB_bool, isB_int, isB_str, isB_list, isB_tuple, isB_dict, isStr_none, isStr_bool, isStr_int, isStr_str, isStr_list, isStr_tuple, isStr_dict, isLst_none, isLst_bool, isLst_int, isLst_str, isLst_list, isLst_tuple, isTupI, sumD_lst, lenD_tupI, sumD_tupI, lenD_drD, eqD_int, neD_int, ixD_tup, ixD_lst, at0, at1, at2, at3, List.length_cons, List.length_nil, List.map_cons, List.map_nil, List.cons_append, List.nil_append, List.replicate, List.getElem?_cons_zero, List.getElem?_cons_succ, List.getElem?_nil, List.set_cons_zero, List.set_cons_succ, Nat.reduceAdd, Nat.reduceSub, Nat.reduceLeDiff, Nat.reduceEqDiff, if_true, if_false, beq_self_eq_true, decide_true, eq_self, reduceCtorEq, Bool.not_true, Bool.not_false, Bool.true_and, Bool.and_true, Bool.false_and, Bool.and_false, Bool.or_true, Bool.true_or, Bool.or_false, Bool.false_or, Bool.false_eq_true, Option.map_some, Option.map_none, Option.bind_some, Option.bind_none, is_between_ev], rfl⟩)
        simp only [refE, roS_da, roS_un, roS_ml, runP, runS, seqS, nextS_ap, asgS, parS, ifS, retS, retN, dropS, raiseS, neverS, contS_ap, breakS_ap, frzS, appS, extS, tgN, tgM, tgs, tgT, tgS, vE, cE, op2, op1, aN, aC, tB', andT, orT, notT, andV, orV, notV, ifE, tupE, lstE, caE, chE, callE, callS, isiE_ap, oN, oS, slE, anyI, rngI, zipI, forS, yesT, cgN, cgT, cgs, whileS, rawL, rawOf, rawL_nil, datL, datL_nil, Rv.dat, GD.toBool, toBool_bool, intOf, intOf_int, ofO, ofO_some, ofO_none, Re.ok_bind, Re.ex_bind, Re.no_bind, Re.pure_eq, addD_int, addD_tup, addD_lst, addD_str, subD_int, negD_int, ltD_int, leD_int, gtD_int, geD_int, isD_none, isD_bool, isNotD_none, isNotD_bool, isNoneD_none, isNoneD_bool, isNoneD_int, isNoneD_str, isNoneD_list, isNoneD_tuple, isNoneD_dict, lenD_lst, lenD_tup, absD_int, intD_int, intD_bool, tupleD_lst, tupleD_tup, listD_lst, listD_tup, itemsOf_lst, itemsOf_tup, zipD_lst, zipD_tup, maxD_int, minD_int, slD_tup, slD_lst, pow_10_18, itemsOf_tupI, isi_tuple, isi_int, isi_bool, isi_str, isi_list, isTup_none, isTup_bool, isTup_int, isTup_str, isTup_list, isTup_tuple, isTup_dict, isWB_none, isWB_bool, isWB_int, isWB_str, isWB_list, isWB_tuple, isWB_dict, isB_none, isB_bool, isB_int, isB_str, isB_list, isB_tuple, isB_dict, isStr_none, isStr_bool, isStr_int, isStr_str, isStr_list, isStr_tuple, isStr_dict, isLst_none, isLst_bool, isLst_int, isLst_str, isLst_list, isLst_tuple, isTupI, sumD_lst, lenD_tupI, sumD_tupI, lenD_drD, eqD_int, neD_int, ixD_tup, ixD_lst, at0, at1, at2, at3, List.length_cons, List.length_nil, List.map_cons, List.map_nil, List.cons_append, List.nil_append, List.replicate, List.getElem?_cons_zero, List.getElem?_cons_succ, List.getElem?_nil, List.set_cons_zero, List.set_cons_succ, Nat.reduceAdd, Nat.reduceSub, Nat.reduceLeDiff, Nat.reduceEqDiff, if_true, if_false, beq_self_eq_true, decide_true, eq_self, reduceCtorEq, Bool.not_true, Bool.not_false, Bool.true_and, Bool.and_true, Bool.false_and, Bool.and_false, Bool.or_true, Bool.true_or, Bool.or_false, Bool.false_or, Bool.false_eq_true, Option.map_some, Option.map_none, Option.bind_some, Option.bind_none, h1, h2, decide_true, L, allD_fn, isUrn, List.set_cons_succ, List.set_cons_zero]
        cases h3 : xs.all (btw · 0 20)
        · rfl
        · obtain ⟨h4, h5⟩ := intsOf_btw h3
          have e : sumD [.tuple xs] = some (.da (.int (xs.map iv).sum)) := by show (intsOf xs).map _ = _; rw [h4]; rfl
          simp only [refE, roS_da, roS_un, roS_ml, runP, runS, seqS, nextS_ap, asgS, parS, ifS, retS, retN, dropS, raiseS, neverS, contS_ap, breakS_ap, frzS, appS, extS, tgN, tgM, tgs, tgT, tgS, vE, cE, op2, op1, aN, aC, tB', andT, orT, notT, andV, orV, notV, ifE, tupE, lstE, caE, chE, callE, callS, isiE_ap, oN, oS, slE, anyI, rngI, zipI, forS, yesT, cgN, cgT, cgs, whileS, rawL, rawOf, rawL_nil, datL, datL_nil, Rv.dat, GD.toBool, toBool_bool, intOf, intOf_int, ofO, ofO_some, ofO_none, Re.ok_bind, Re.ex_bind, Re.no_bind, Re.pure_eq, addD_int, addD_tup, addD_lst, addD_str, subD_int, negD_int, ltD_int, leD_int, gtD_int, geD_int, isD_none, isD_bool, isNotD_none, isNotD_bool, isNoneD_none, isNoneD_bool, isNoneD_int, isNoneD_str, isNoneD_list, isNoneD_tuple, isNoneD_dict, lenD_lst, lenD_tup, absD_int, intD_int, intD_bool, tupleD_lst, tupleD_tup, listD_lst, listD_tup, itemsOf_lst, itemsOf_tup, zipD_lst, zipD_tup, maxD_int, minD_int, slD_tup, slD_lst, pow_10_18, itemsOf_tupI, isi_tuple, isi_int, isi_bool, isi_str, isi_list, isTup_none, isTup_bool, isTup_int, isTup_str, isTup_list, isTup_tuple, isTup_dict, isWB_none, isWB_bool, isWB_int, isWB_str, isWB_list, isWB_tuple, isWB_dict, isB_none, isB_bool, isB_int, isB_str, isB_list, isB_tuple, isB_dict, isStr_none, isStr_bool, isStr_int, isStr_str, isStr_list, isStr_tuple, isStr_dict, isLst_none, isLst_bool, isLst_int, isLst_str, isLst_list, isLst_tuple, isTupI, sumD_lst, lenD_tupI, sumD_tupI, lenD_drD, eqD_int, neD_int, ixD_tup, ixD_lst, at0, at1, at2, at3, List.length_cons, List.length_nil, List.map_cons, List.map_nil, List.cons_append, List.nil_append, List.replicate, List.getElem?_cons_zero, List.getElem?_cons_succ, List.getElem?_nil, List.set_cons_zero, List.set_cons_succ, Nat.reduceAdd, Nat.reduceSub, Nat.reduceLeDiff, Nat.reduceEqDiff, if_true, if_false, beq_self_eq_true, decide_true, eq_self, reduceCtorEq, Bool.not_true, Bool.not_false, Bool.true_and, Bool.and_true, Bool.false_and, Bool.and_false, Bool.or_true, Bool.true_or, Bool.or_false, Bool.false_or, Bool.false_eq_true, Option.map_some, Option.map_none, Option.bind_some, Option.bind_none, e]
      · have e : decide ((xs.length : Int) ≤ 4) = false := decide_eq_false h2
        simp only [refE, roS_da, roS_un, roS_ml, runP, runS, seqS, nextS_ap, asgS, parS, ifS, retS, retN, dropS, raiseS, neverS, contS_ap, breakS_ap, frzS, appS, extS, tgN, tgM, tgs, tgT, tgS, vE, cE, op2, op1, aN, aC, tB', andT, orT, notT, andV, orV, notV, ifE, tupE, lstE, caE, chE, callE, callS, isiE_ap, oN, oS, slE, anyI, rngI, zipI, forS, yesT, cgN, cgT, cgs, whileS, rawL, rawOf, rawL_nil, datL, datL_nil, Rv.dat, GD.toBool, toBool_bool, intOf, intOf_int, ofO, ofO_some, ofO_none, Re.ok_bind, Re.ex_bind, Re.no_bind, Re.pure_eq, addD_int, addD_tup, addD_lst, addD_str, subD_int, negD_int, ltD_int, leD_int, gtD_int, geD_int, isD_none, isD_bool, isNotD_none, isNotD_bool, isNoneD_none, isNoneD_bool, isNoneD_int, isNoneD_str, isNoneD_list, isNoneD_tuple, isNoneD_dict, lenD_lst, lenD_tup, absD_int, intD_int, intD_bool, tupleD_lst, tupleD_tup, listD_lst, listD_tup, itemsOf_lst, itemsOf_tup, zipD_lst, zipD_tup, maxD_int, minD_int, slD_tup, slD_lst, pow_10_18, itemsOf_tupI, isi_tuple, isi_int, isi_bool, isi_str, isi_list, isTup_none, isTup_bool, isTup_int, isTup_str, isTup_list, isTup_tuple, isTup_dict, isWB_none, isWB_bool, isWB_int, isWB_str, isWB_list, isWB_tuple, isWB_dict, isB_none, isB_bool, isB_int, isB_str, isB_list, isB_tuple, isB_dict, isStr_none, isStr_bool, isStr_int, isStr_str, isStr_list, isStr_tuple, isStr_dict, isLst_none, isLst_bool, isLst_int, isLst_str, isLst_list, isLst_tuple, isTupI, sumD_lst, lenD_tupI, sumD_tupI, lenD_drD, eqD_int, neD_int, ixD_tup, ixD_lst, at0, at1, at2, at3, List.length_cons, List.length_nil, List.map_cons, List.map_nil, List.cons_append, List.nil_append, List.replicate, List.getElem?_cons_zero, List.getElem?_cons_succ, List.getElem?_nil, List.set_cons_zero, List.set_cons_succ, Nat.reduceAdd, Nat.reduceSub, Nat.reduceLeDiff, Nat.reduceEqDiff, if_true, if_false, beq_self_eq_true, decide_true, eq_self, reduceCtorEq, Bool.not_true, Bool.not_false, Bool.true_and, Bool.and_true, Bool.false_and, Bool.and_false, Bool.or_true, Bool.true_or, Bool.or_false, Bool.false_or, Bool.false_eq_true, Option.map_some, Option.map_none, Option.bind_some, Option.bind_none, isUrn, e, h1, decide_true]
    · have e : decide ((1 : Int) ≤ xs.length) = false := decide_eq_false h1
      simp only [refE, roS_da, roS_un, roS_ml, runP, runS, seqS, nextS_ap, asgS, parS, ifS, retS, retN, dropS, raiseS, neverS, contS_ap, breakS_ap, frzS, appS, extS, tgN, tgM, tgs, tgT, tgS, vE, cE, op2, op1, aN, aC, tB', andT, orT, notT, andV, orV, notV, ifE, tupE, lstE, caE, chE, callE, callS, isiE_ap, oN, oS, slE, anyI, rngI, zipI, forS, yesT, cgN, cgT, cgs, whileS, rawL, rawOf, rawL_nil, datL, datL_nil, Rv.dat, GD.toBool, toBool_bool, intOf, intOf_int, ofO, ofO_some, ofO_none, Re.ok_bind, Re.ex_bind, Re.no_bind, Re.pure_eq, addD_int, addD_tup, addD_lst, addD_str, subD_int, negD_int, ltD_int, leD_int, gtD_int, geD_int, isD_none, isD_bool, isNotD_none, isNotD_bool, isNoneD_none, isNoneD_bool, isNoneD_int, isNoneD_str, isNoneD_list, isNoneD_tuple, isNoneD_dict, lenD_lst, lenD_tup, absD_int, intD_int, intD_bool, tupleD_lst, tupleD_tup, listD_lst, listD_tup, itemsOf_lst, itemsOf_tup, zipD_lst, zipD_tup, maxD_int, minD_int, slD_tup, slD_lst, pow_10_18, itemsOf_tupI, isi_tuple, isi_int, isi_bool, isi_str, isi_list, isTup_none, isTup_bool, isTup_int, isTup_str, isTup_list, isTup_tuple, isTup_dict, isWB_none, isWB_bool, isWB_int, isWB_str, isWB_list, isWB_tuple, isWB_dict, isB_none, isB_bool, isB_int, isB_str, isB_list, isB_tuple, isB_dict, isStr_none, isStr_bool, isStr_int, isStr_str, isStr_list, isStr_tuple, isStr_dict, isLst_none, isLst_bool, isLst_int, isLst_str, isLst_list, isLst_tuple, isTupI, sumD_lst, lenD_tupI, sumD_tupI, lenD_drD, eqD_int, neD_int, ixD_tup, ixD_lst, at0, at1, at2, at3, List.length_cons, List.length_nil, List.map_cons, List.map_nil, List.cons_append, List.nil_append, List.replicate, List.getElem?_cons_zero, List.getElem?_cons_succ, List.getElem?_nil, List.set_cons_zero, List.set_cons_succ, Nat.reduceAdd, Nat.reduceSub, Nat.reduceLeDiff, Nat.reduceEqDiff, if_true, if_false, beq_self_eq_true, decide_true, eq_self, reduceCtorEq, Bool.not_true, Bool.not_false, Bool.true_and, Bool.and_true, Bool.false_and, Bool.and_false, Bool.or_true, Bool.true_or, Bool.or_false, Bool.false_or, Bool.false_eq_true, Option.map_some, Option.map_none, Option.bind_some, Option.bind_none, isUrn, e]
  all_goals (simp only [refE, roS_da, roS_un, roS_ml, runP, runS, seqS, nextS_ap, asgS, parS, ifS, retS, retN, dropS, raiseS, neverS, contS_ap, breakS_ap, frzS, appS, extS, tgN, tgM, tgs, tgT, tgS, vE, cE, op2, op1, aN, aC, tB', andT, orT, notT, andV, orV, notV, ifE, tupE, lstE, caE, chE, callE, callS, isiE_ap, oN, oS, slE, anyI, rngI, zipI, forS, yesT, cgN, cgT, cgs, whileS, rawL, rawOf, rawL_nil, datL, datL_nil, Rv.dat, GD.toBool, toBool_bool, intOf, intOf_int, ofO, ofO_some, ofO_none, Re.ok_bind, Re.ex_bind, Re.no_bind, Re.pure_eq, addD_int, addD_tup, addD_lst, addD_str, subD_int, negD_int, ltD_int, leD_int, gtD_int, geD_int, isD_none, isD_bool, isNotD_none, isNotD_bool, isNoneD_none, isNoneD_bool, isNoneD_int, isNoneD_str, isNoneD_list, isNoneD_tuple, isNoneD_dict, lenD_lst, lenD_tup, absD_int, intD_int, intD_bool, tupleD_lst, tupleD_tup, listD_lst, listD_tup, itemsOf_lst, itemsOf_tup, zipD_lst, zipD_tup, maxD_int, minD_int, slD_tup, slD_lst, pow_10_18, itemsOf_tupI, isi_tuple, isi_int, isi_bool, isi_str, isi_list, isTup_none, isTup_bool, isTup_int, isTup_str, isTup_list, isTup_tuple, isTup_dict, isWB_none, isWB_bool, isWB_int, isWB_str, isWB_list, isWB_tuple, isWB_dict, isB_none, isB_bool, isB_int, isB_str, isB_list, isB_tuple, isB_dict, isStr_none, isStr_bool, isStr_int, isStr_str, isStr_list, isStr_tuple, isStr_dict, isLst_none, isLst_bool, isLst_int, isLst_str, isLst_list, isLst_tuple, isTupI, sumD_lst, lenD_tupI, sumD_tupI, lenD_drD, eqD_int, neD_int, ixD_tup, ixD_lst, at0, at1, at2, at3, List.length_cons, List.length_nil, List.map_cons, List.map_nil, List.cons_append, List.nil_append, List.replicate, List.getElem?_cons_zero, List.getElem?_cons_succ, List.getElem?_nil, List.set_cons_zero, List.set_cons_succ, Nat.reduceAdd, Nat.reduceSub, Nat.reduceLeDiff, Nat.reduceEqDiff, if_true, if_false, beq_self_eq_true, decide_true, eq_self, reduceCtorEq, Bool.not_true, Bool.not_false, Bool.true_and, Bool.and_true, Bool.false_and, Bool.and_false, Bool.or_true, Bool.true_or, Bool.or_false, Bool.false_or, Bool.false_eq_true, Option.map_some, Option.map_none, Option.bind_some, Option.bind_none, isUrn])
theorem rule_loop (k : Int) (hk : k ≤ 1000000) (t : D) : ∀ (ls : List D) (s2 s3 : Sl), ∃ s2' s3', forD (tgN 2)
      (seqS (ifS (orT (notT (tB' (isiE "tuple" (vE 2)))) (tB' (op2 neD (caE lenD (aC (vE 2) aN)) (vE 0)))) (retS (cE (.bool false))) nextS) (ifS (notT (tB' (caE allD (aC (lcE (anyI (vE 2)) (cgN 3) yesT (callE m_is_between (aC (vE 3) (aC (cE (.int 0)) (aC (cE (.int 5)) aN)))) [3]) aN)))) (retS (cE (.bool false))) nextS))
      ls [.da (.int k), .da t, s2, s3] = if ls.all (isLine k) then .nx [.da (.int k), .da t, s2', s3'] else .rt (.da (.bool false)) [.da (.int k), .da t, s2', s3']
  | [], s2, s3 => ⟨s2, s3, rfl⟩
  | d :: ls, s2, s3 => by
    unfold forD
    cases d
    case tuple xs =>
      by_cases h : (xs.length : Int) = k
      · subst h
        have L := lc_map (it := anyI (vE 2)) (j := 3) (te := callE m_is_between (aC (vE 3) (aC (cE (.int 0)) (aC (cE (.int 5)) aN)))) (h := fun d => .bool (btw d 0 5)) (g := [.da (.int xs.length), .da t, .da (.tuple xs), s3]) (g1 := [.da (.int xs.length), .da t, .da (.tuple xs), s3]) (ds := xs) rfl (by omega)
          (fun d _ => ⟨.da (.bool (btw d 0 5)), by simp only [refE, roS_da, roS_un, roS_ml, runP, runS, seqS, nextS_ap, asgS, parS, ifS, retS, retN, dropS, raiseS, neverS, contS_ap, breakS_ap, frzS, appS, extS, tgN, tgM, tgs, tgT, tgS, vE, cE, op2, op1, aN, aC, tB', andT, orT, notT, andV, orV, notV, ifE, tupE, lstE, caE, chE, callE, callS, isiE_ap, oN, oS, slE, anyI, rngI, zipI, forS, yesT, cgN, cgT, cgs, whileS, rawL, rawOf, rawL_nil, datL, datL_nil, Rv.dat, GD.toBool, toBool_bool, intOf, intOf_int, ofO, ofO_some, ofO_none, Re.ok_bind, Re.ex_bind, Re.no_bind, Re.pure_eq, addD_int, addD_tup, addD_lst, addD_str, subD_int, negD_int, ltD_int, leD_int, gtD_int, geD_int, isD_none, isD_bool, isNotD_none, isNotD_bool, isNoneD_none, isNoneD_bool, isNoneD_int, isNoneD_str, isNoneD_list, isNoneD_tuple, isNoneD_dict, lenD_lst, lenD_tup, absD_int, intD_int, intD_bool, tupleD_lst, tupleD_tup, listD_lst, listD_tup, itemsOf_lst, itemsOf_tup, zipD_lst, zipD_tup, maxD_int, minD_int, slD_tup, slD_lst, pow_10_18, itemsOf_tupI, isi_tuple, isi_int, isi_bool, isi_str, isi_list, isTup_none, isTup_bool, isTup_int, isTup_str, isTup_list, isTup_tuple, isTup_dict, isWB_none, isWB_bool, isWB_int, isWB_str, isWB_list, isWB_tuple, isWB_dict, isB_none, isB_bool, isB_int, isB_str, isB_list, isB_tuple, isB_dict, isStr_none, isStr_bool, isStr_int, isStr_str, isStr_list, isStr_tuple, isStr_dict, isLst_none, isLst_bool, isLst_int, isLst_str, isLst_list, isLst_tuple, isTupI, sumD_lst, lenD_tupI, sumD_tupI, lenD_drD, eqD_int, neD_int, ixD_tup, ixD_lst, at0, at1, at2, at3, List.length_cons, List.length_nil, List.map_cons, List.map_nil, List.cons_append, List.nil_append, List.replicate, List.getElem?_cons_zero, List.getElem?_cons_succ, List.getElem?_nil, List.set_cons_zero, List.set_cons_succ, Nat.reduceAdd, Nat.reduceSub, Nat.reduceLeDiff, Nat.reduceEqDiff, if_true, if_false, beq_self_eq_true, decide_true, eq_self, reduceCtorEq, Bool.not_true, Bool.not_false, Bool.true_and, Bool.and_true, Bool.false_and, Bool.and_false, Bool.or_true, Bool.true_or, Bool.or_false, Bool.false_or, Bool.false_eq_true, Option.map_some, Option.map_none, Option.bind_some, Option.bind_none, is_between_ev], rfl⟩)
        cases h3 : xs.all (btw · 0 5)
        · refine ⟨.da (.tuple xs), .un, ?_⟩
          simp only [refE, roS_da, roS_un, roS_ml, runP, runS, seqS, nextS_ap, asgS, parS, ifS, retS, retN, dropS, raiseS, neverS, contS_ap, breakS_ap, frzS, appS, extS, tgN, tgM, tgs, tgT, tgS, vE, cE, op2, op1, aN, aC, tB', andT, orT, notT, andV, orV, notV, ifE, tupE, lstE, caE, chE, callE, callS, isiE_ap, oN, oS, slE, anyI, rngI, zipI, forS, yesT, cgN, cgT, cgs, whileS, rawL, rawOf, rawL_nil, datL, datL_nil, Rv.dat, GD.toBool, toBool_bool, intOf, intOf_int, ofO, ofO_some, ofO_none, Re.ok_bind, Re.ex_bind, Re.no_bind, Re.pure_eq, addD_int, addD_tup, addD_lst, addD_str, subD_int, negD_int, ltD_int, leD_int, gtD_int, geD_int, isD_none, isD_bool, isNotD_none, isNotD_bool, isNoneD_none, isNoneD_bool, isNoneD_int, isNoneD_str, isNoneD_list, isNoneD_tuple, isNoneD_dict, lenD_lst, lenD_tup, absD_int, intD_int, intD_bool, tupleD_lst, tupleD_tup, listD_lst, listD_tup, itemsOf_lst, itemsOf_tup, zipD_lst, zipD_tup, maxD_int, minD_int, slD_tup, slD_lst, pow_10_18, itemsOf_tupI, isi_tuple, isi_int, isi_bool, isi_str, isi_list, isTup_none, isTup_bool, isTup_int, isTup_str, isTup_list, isTup_tuple, isTup_dict, isWB_none, isWB_bool, isWB_int, isWB_str, isWB_list, isWB_tuple, isWB_dict, isB_none, isB_bool, isB_int, isB_str, isB_list, isB_tuple, isB_dict, isStr_none, isStr_bool, isStr_int, isStr_str, isStr_list, isStr_tuple, isStr_dict, isLst_none, isLst_bool, isLst_int, isLst_str, isLst_list, isLst_tuple, isTupI, sumD_lst, lenD_tupI, sumD_tupI, lenD_drD, eqD_int, neD_int, ixD_tup, ixD_lst, at0, at1, at2, at3, List.length_cons, List.length_nil, List.map_cons, List.map_nil, List.cons_append, List.nil_append, List.replicate, List.getElem?_cons_zero, List.getElem?_cons_succ, List.getElem?_nil, List.set_cons_zero, List.set_cons_succ, Nat.reduceAdd, Nat.reduceSub, Nat.reduceLeDiff, Nat.reduceEqDiff, if_true, if_false, beq_self_eq_true, decide_true, eq_self, reduceCtorEq, Bool.not_true, Bool.not_false, Bool.true_and, Bool.and_true, Bool.false_and, Bool.and_false, Bool.or_true, Bool.true_or, Bool.or_false, Bool.false_or, Bool.false_eq_true, Option.map_some, Option.map_none, Option.bind_some, Option.bind_none, L, allD_fn, h3, List.all_cons, isLine]
        · obtain ⟨s2', s3', ih⟩ := rule_loop xs.length hk t ls (.da (.tuple xs)) .un
          refine ⟨s2', s3', ?_⟩
          simp only [refE, roS_da, roS_un, roS_ml, runP, runS, seqS, nextS_ap, asgS, parS, ifS, retS, retN, dropS, raiseS, neverS, contS_ap, breakS_ap, frzS, appS, extS, tgN, tgM, tgs, tgT, tgS, vE, cE, op2, op1, aN, aC, tB', andT, orT, notT, andV, orV, notV, ifE, tupE, lstE, caE, chE, callE, callS, isiE_ap, oN, oS, slE, anyI, rngI, zipI, forS, yesT, cgN, cgT, cgs, whileS, rawL, rawOf, rawL_nil, datL, datL_nil, Rv.dat, GD.toBool, toBool_bool, intOf, intOf_int, ofO, ofO_some, ofO_none, Re.ok_bind, Re.ex_bind, Re.no_bind, Re.pure_eq, addD_int, addD_tup, addD_lst, addD_str, subD_int, negD_int, ltD_int, leD_int, gtD_int, geD_int, isD_none, isD_bool, isNotD_none, isNotD_bool, isNoneD_none, isNoneD_bool, isNoneD_int, isNoneD_str, isNoneD_list, isNoneD_tuple, isNoneD_dict, lenD_lst, lenD_tup, absD_int, intD_int, intD_bool, tupleD_lst, tupleD_tup, listD_lst, listD_tup, itemsOf_lst, itemsOf_tup, zipD_lst, zipD_tup, maxD_int, minD_int, slD_tup, slD_lst, pow_10_18, itemsOf_tupI, isi_tuple, isi_int, isi_bool, isi_str, isi_list, isTup_none, isTup_bool, isTup_int, isTup_str, isTup_list, isTup_tuple, isTup_dict, isWB_none, isWB_bool, isWB_int, isWB_str, isWB_list, isWB_tuple, isWB_dict, isB_none, isB_bool, isB_int, isB_str, isB_list, isB_tuple, isB_dict, isStr_none, isStr_bool, isStr_int, isStr_str, isStr_list, isStr_tuple, isStr_dict, isLst_none, isLst_bool, isLst_int, isLst_str, isLst_list, isLst_tuple, isTupI, sumD_lst, lenD_tupI, sumD_tupI, lenD_drD, eqD_int, neD_int, ixD_tup, ixD_lst, at0, at1, at2, at3, List.length_cons, List.length_nil, List.map_cons, List.map_nil, List.cons_append, List.nil_append, List.replicate, List.getElem?_cons_zero, List.getElem?_cons_succ, List.getElem?_nil, List.set_cons_zero, List.set_cons_succ, Nat.reduceAdd, Nat.reduceSub, Nat.reduceLeDiff, Nat.reduceEqDiff, if_true, if_false, beq_self_eq_true, decide_true, eq_self, reduceCtorEq, Bool.not_true, Bool.not_false, Bool.true_and, Bool.and_true, Bool.false_and, Bool.and_false, Bool.or_true, Bool.true_or, Bool.or_false, Bool.false_or, Bool.false_eq_true, Option.map_some, Option.map_none, Option.bind_some, Option.bind_none, L, allD_fn, h3, List.all_cons, isLine]
          exact ih
      · have e : (!((xs.length : Int) == k)) = true := by simp [h]
        have e2 : decide ((xs.length : Int) = k) = false := decide_eq_false h
        refine ⟨.da (.tuple xs), s3, ?_⟩
        simp only [refE, roS_da, roS_un, roS_ml, runP, runS, seqS, nextS_ap, asgS, parS, ifS, retS, retN, dropS, raiseS, neverS, contS_ap, breakS_ap, frzS, appS, extS, tgN, tgM, tgs, tgT, tgS, vE, cE, op2, op1, aN, aC, tB', andT, orT, notT, andV, orV, notV, ifE, tupE, lstE, caE, chE, callE, callS, isiE_ap, oN, oS, slE, anyI, rngI, zipI, forS, yesT, cgN, cgT, cgs, whileS, rawL, rawOf, rawL_nil, datL, datL_nil, Rv.dat, GD.toBool, toBool_bool, intOf, intOf_int, ofO, ofO_some, ofO_none, Re.ok_bind, Re.ex_bind, Re.no_bind, Re.pure_eq, addD_int, addD_tup, addD_lst, addD_str, subD_int, negD_int, ltD_int, leD_int, gtD_int, geD_int, isD_none, isD_bool, isNotD_none, isNotD_bool, isNoneD_none, isNoneD_bool, isNoneD_int, isNoneD_str, isNoneD_list, isNoneD_tuple, isNoneD_dict, lenD_lst, lenD_tup, absD_int, intD_int, intD_bool, tupleD_lst, tupleD_tup, listD_lst, listD_tup, itemsOf_lst, itemsOf_tup, zipD_lst, zipD_tup, maxD_int, minD_int, slD_tup, slD_lst, pow_10_18, itemsOf_tupI, isi_tuple, isi_int, isi_bool, isi_str, isi_list, isTup_none, isTup_bool, isTup_int, isTup_str, isTup_list, isTup_tuple, isTup_dict, isWB_none, isWB_bool, isWB_int, isWB_str, isWB_list, isWB_tuple, isWB_dict, isB_none, isB_bool, isB_int, isB_str, isB_list, isB_tuple, isB_dict, isStr_none, isStr_bool, isStr_int, isStr_str, isStr_list, isStr_tuple, isStr_dict, isLst_none, isLst_bool, isLst_int, isLst_str, isLst_list, isLst_tuple, isTupI, sumD_lst, lenD_tupI, sumD_tupI, lenD_drD, eqD_int, neD_int, ixD_tup, ixD_lst, at0, at1, at2, at3, List.length_cons, List.length_nil, List.map_cons, List.map_nil, List.cons_append, List.nil_append, List.replicate, List.getElem?_cons_zero, List.getElem?_cons_succ, List.getElem?_nil, List.set_cons_zero, List.set_cons_succ, Nat.reduceAdd, Nat.reduceSub, Nat.reduceLeDiff, Nat.reduceEqDiff, if_true, if_false, beq_self_eq_true, decide_true, eq_self, reduceCtorEq, Bool.not_true, Bool.not_false, Bool.true_and, Bool.and_true, Bool.false_and, Bool.and_false, Bool.or_true, Bool.true_or, Bool.or_false, Bool.false_or, Bool.false_eq_true, Option.map_some, Option.map_none, Option.bind_some, Option.bind_none, e, List.all_cons, isLine, e2]
    all_goals exact ⟨_, s3, by simp only [refE, roS_da, roS_un, roS_ml, runP, runS, seqS, nextS_ap, asgS, parS, ifS, retS, retN, dropS, raiseS, neverS, contS_ap, breakS_ap, frzS, appS, extS, tgN, tgM, tgs, tgT, tgS, vE, cE, op2, op1, aN, aC, tB', andT, orT, notT, andV, orV, notV, ifE, tupE, lstE, caE, chE, callE, callS, isiE_ap, oN, oS, slE, anyI, rngI, zipI, forS, yesT, cgN, cgT, cgs, whileS, rawL, rawOf, rawL_nil, datL, datL_nil, Rv.dat, GD.toBool, toBool_bool, intOf, intOf_int, ofO, ofO_some, ofO_none, Re.ok_bind, Re.ex_bind, Re.no_bind, Re.pure_eq, addD_int, addD_tup, addD_lst, addD_str, subD_int, negD_int, ltD_int, leD_int, gtD_int, geD_int, isD_none, isD_bool, isNotD_none, isNotD_bool, isNoneD_none, isNoneD_bool, isNoneD_int, isNoneD_str, isNoneD_list, isNoneD_tuple, isNoneD_dict, lenD_lst, lenD_tup, absD_int, intD_int, intD_bool, tupleD_lst, tupleD_tup, listD_lst, listD_tup, itemsOf_lst, itemsOf_tup, zipD_lst, zipD_tup, maxD_int, minD_int, slD_tup, slD_lst, pow_10_18, itemsOf_tupI, isi_tuple, isi_int, isi_bool, isi_str, isi_list, isTup_none, isTup_bool, isTup_int, isTup_str, isTup_list, isTup_tuple, isTup_dict, isWB_none, isWB_bool, isWB_int, isWB_str, isWB_list, isWB_tuple, isWB_dict, isB_none, isB_bool, isB_int, isB_str, isB_list, isB_tuple, isB_dict, isStr_none, isStr_bool, isStr_int, isStr_str, isStr_list, isStr_tuple, isStr_dict, isLst_none, isLst_bool, isLst_int, isLst_str, isLst_list, isLst_tuple, isTupI, sumD_lst, lenD_tupI, sumD_tupI, lenD_drD, eqD_int, neD_int, ixD_tup, ixD_lst, at0, at1, at2, at3, List.length_cons, List.length_nil, List.map_cons, List.map_nil, List.cons_append, List.nil_append, List.replicate, List.getElem?_cons_zero, List.getElem?_cons_succ, List.getElem?_nil, List.set_cons_zero, List.set_cons_succ, Nat.reduceAdd, Nat.reduceSub, Nat.reduceLeDiff, Nat.reduceEqDiff, if_true, if_false, beq_self_eq_true, decide_true, eq_self, reduceCtorEq, Bool.not_true, Bool.not_false, Bool.true_and, Bool.and_true, Bool.false_and, Bool.and_false, Bool.or_true, Bool.true_or, Bool.or_false, Bool.false_or, Bool.false_eq_true, Option.map_some, Option.map_none, Option.bind_some, Option.bind_none, List.all_cons, isLine]; rfl⟩
theorem need_urn_ok {d : D} (h : isUrn d = true) : m_need_urn [d] = .ok (.da .none) := by
  unfold m_need_urn d_need_urn; simp only [refE, roS_da, roS_un, roS_ml, runP, runS, seqS, nextS_ap, asgS, parS, ifS, retS, retN, dropS, raiseS, neverS, contS_ap, breakS_ap, frzS, appS, extS, tgN, tgM, tgs, tgT, tgS, vE, cE, op2, op1, aN, aC, tB', andT, orT, notT, andV, orV, notV, ifE, tupE, lstE, caE, chE, callE, callS, isiE_ap, oN, oS, slE, anyI, rngI, zipI, forS, yesT, cgN, cgT, cgs, whileS, rawL, rawOf, rawL_nil, datL, datL_nil, Rv.dat, GD.toBool, toBool_bool, intOf, intOf_int, ofO, ofO_some, ofO_none, Re.ok_bind, Re.ex_bind, Re.no_bind, Re.pure_eq, addD_int, addD_tup, addD_lst, addD_str, subD_int, negD_int, ltD_int, leD_int, gtD_int, geD_int, isD_none, isD_bool, isNotD_none, isNotD_bool, isNoneD_none, isNoneD_bool, isNoneD_int, isNoneD_str, isNoneD_list, isNoneD_tuple, isNoneD_dict, lenD_lst, lenD_tup, absD_int, intD_int, intD_bool, tupleD_lst, tupleD_tup, listD_lst, listD_tup, itemsOf_lst, itemsOf_tup, zipD_lst, zipD_tup, maxD_int, minD_int, slD_tup, slD_lst, pow_10_18, itemsOf_tupI, isi_tuple, isi_int, isi_bool, isi_str, isi_list, isTup_none, isTup_bool, isTup_int, isTup_str, isTup_list, isTup_tuple, isTup_dict, isWB_none, isWB_bool, isWB_int, isWB_str, isWB_list, isWB_tuple, isWB_dict, isB_none, isB_bool, isB_int, isB_str, isB_list, isB_tuple, isB_dict, isStr_none, isStr_bool, isStr_int, isStr_str, isStr_list, isStr_tuple, isStr_dict, isLst_none, isLst_bool, isLst_int, isLst_str, isLst_list, isLst_tuple, isTupI, sumD_lst, lenD_tupI, sumD_tupI, lenD_drD, eqD_int, neD_int, ixD_tup, ixD_lst, at0, at1, at2, at3, List.length_cons, List.length_nil, List.map_cons, List.map_nil, List.cons_append, List.nil_append, List.replicate, List.getElem?_cons_zero, List.getElem?_cons_succ, List.getElem?_nil, List.set_cons_zero, List.set_cons_succ, Nat.reduceAdd, Nat.reduceSub, Nat.reduceLeDiff, Nat.reduceEqDiff, if_true, if_false, beq_self_eq_true, decide_true, eq_self, reduceCtorEq, Bool.not_true, Bool.not_false, Bool.true_and, Bool.and_true, Bool.false_and, Bool.and_false, Bool.or_true, Bool.true_or, Bool.or_false, Bool.false_or, Bool.false_eq_true, Option.map_some, Option.map_none, Option.bind_some, Option.bind_none, is_urn_ev, h]
theorem need_number_ok {a b : Int} {d : D} (h : btw d a b = true) : m_need_number [d, .int a, .int b] = .ok (.da .none) := by
  unfold m_need_number d_need_number; simp only [refE, roS_da, roS_un, roS_ml, runP, runS, seqS, nextS_ap, asgS, parS, ifS, retS, retN, dropS, raiseS, neverS, contS_ap, breakS_ap, frzS, appS, extS, tgN, tgM, tgs, tgT, tgS, vE, cE, op2, op1, aN, aC, tB', andT, orT, notT, andV, orV, notV, ifE, tupE, lstE, caE, chE, callE, callS, isiE_ap, oN, oS, slE, anyI, rngI, zipI, forS, yesT, cgN, cgT, cgs, whileS, rawL, rawOf, rawL_nil, datL, datL_nil, Rv.dat, GD.toBool, toBool_bool, intOf, intOf_int, ofO, ofO_some, ofO_none, Re.ok_bind, Re.ex_bind, Re.no_bind, Re.pure_eq, addD_int, addD_tup, addD_lst, addD_str, subD_int, negD_int, ltD_int, leD_int, gtD_int, geD_int, isD_none, isD_bool, isNotD_none, isNotD_bool, isNoneD_none, isNoneD_bool, isNoneD_int, isNoneD_str, isNoneD_list, isNoneD_tuple, isNoneD_dict, lenD_lst, lenD_tup, absD_int, intD_int, intD_bool, tupleD_lst, tupleD_tup, listD_lst, listD_tup, itemsOf_lst, itemsOf_tup, zipD_lst, zipD_tup, maxD_int, minD_int, slD_tup, slD_lst, pow_10_18, itemsOf_tupI, isi_tuple, isi_int, isi_bool, isi_str, isi_list, isTup_none, isTup_bool, isTup_int, isTup_str, isTup_list, isTup_tuple, isTup_dict, isWB_none, isWB_bool, isWB_int, isWB_str, isWB_list, isWB_tuple, isWB_dict, isB_none, isB_bool, isB_int, isB_str, isB_list, isB_tuple, isB_dict, isStr_none, isStr_bool, isStr_int, isStr_str, isStr_list, isStr_tuple, isStr_dict, isLst_none, isLst_bool, isLst_int, isLst_str, isLst_list, isLst_tuple, isTupI, sumD_lst, lenD_tupI, sumD_tupI, lenD_drD, eqD_int, neD_int, ixD_tup, ixD_lst, at0, at1, at2, at3, List.length_cons, List.length_nil, List.map_cons, List.map_nil, List.cons_append, List.nil_append, List.replicate, List.getElem?_cons_zero, List.getElem?_cons_succ, List.getElem?_nil, List.set_cons_zero, List.set_cons_succ, Nat.reduceAdd, Nat.reduceSub, Nat.reduceLeDiff, Nat.reduceEqDiff, if_true, if_false, beq_self_eq_true, decide_true, eq_self, reduceCtorEq, Bool.not_true, Bool.not_false, Bool.true_and, Bool.and_true, Bool.false_and, Bool.and_false, Bool.or_true, Bool.true_or, Bool.or_false, Bool.false_or, Bool.false_eq_true, Option.map_some, Option.map_none, Option.bind_some, Option.bind_none, is_between_ev, h]
theorem btw_nat {k : Nat} {a b : Int} (h : a ≤ k) (h2 : k ≤ b) : btw (.int k) a b = true := by simp [btw, h, h2]
theorem fraction_sm (a : Int) {b : Int} (h : 0 < b) (hs : b < 2 ^ 64) : m_fraction [.int a, .int b] = .ok (.da (frD ((a : Rat) / (b : Rat)))) := fraction_ev a h (lt64_8000 hs)
theorem urn_sum {u : List Int} {b : Int} (h : Urn b u) (hb : b ≤ 1000000) : u.sum ≤ 4000000 := by
  have h2 := sum_le h.all
  have h4 := h.l4
  have h3 : b * (u.length : Int) ≤ 1000000 * u.length := Int.mul_le_mul_of_nonneg_right hb (by omega)
  omega
/-! ### the law's script -/
theorem cell_at_ev (ns : List Int) (k : Nat) : ∃ x, m__law_cell_at [scrD ns, .int k] = .ok (.da (.int x)) := by
  have e : lenD [scrD ns] = some (.da (.int ns.length)) := by
    show some (Rv.da (.int ((ns.map PyData.int).length : Nat))) = _
    rw [List.length_map]
  unfold m__law_cell_at d__law_cell_at
  by_cases h : k < ns.length
  · refine ⟨ns[k], ?_⟩
    have e2 : ixD (scrD ns) (.int k) = some (.da (.int ns[k])) := by
      show (L2.atI (ns.map PyData.int) k).map Rv.da = _
      rw [atI_nat' (x := PyData.int ns[k]) (by rw [List.getElem?_map, List.getElem?_eq_getElem h]; rfl)]
      rfl
    simp only [refE, roS_da, roS_un, roS_ml, runP, runS, seqS, nextS_ap, asgS, parS, ifS, retS, retN, dropS, raiseS, neverS, contS_ap, breakS_ap, frzS, appS, extS, tgN, tgM, tgs, tgT, tgS, vE, cE, op2, op1, aN, aC, tB', andT, orT, notT, andV, orV, notV, ifE, tupE, lstE, caE, chE, callE, callS, isiE_ap, oN, oS, slE, anyI, rngI, zipI, forS, yesT, cgN, cgT, cgs, whileS, rawL, rawOf, rawL_nil, datL, datL_nil, Rv.dat, GD.toBool, toBool_bool, intOf, intOf_int, ofO, ofO_some, ofO_none, Re.ok_bind, Re.ex_bind, Re.no_bind, Re.pure_eq, addD_int, addD_tup, addD_lst, addD_str, subD_int, negD_int, ltD_int, leD_int, gtD_int, geD_int, isD_none, isD_bool, isNotD_none, isNotD_bool, isNoneD_none, isNoneD_bool, isNoneD_int, isNoneD_str, isNoneD_list, isNoneD_tuple, isNoneD_dict, lenD_lst, lenD_tup, absD_int, intD_int, intD_bool, tupleD_lst, tupleD_tup, listD_lst, listD_tup, itemsOf_lst, itemsOf_tup, zipD_lst, zipD_tup, maxD_int, minD_int, slD_tup, slD_lst, pow_10_18, itemsOf_tupI, isi_tuple, isi_int, isi_bool, isi_str, isi_list, isTup_none, isTup_bool, isTup_int, isTup_str, isTup_list, isTup_tuple, isTup_dict, isWB_none, isWB_bool, isWB_int, isWB_str, isWB_list, isWB_tuple, isWB_dict, isB_none, isB_bool, isB_int, isB_str, isB_list, isB_tuple, isB_dict, isStr_none, isStr_bool, isStr_int, isStr_str, isStr_list, isStr_tuple, isStr_dict, isLst_none, isLst_bool, isLst_int, isLst_str, isLst_list, isLst_tuple, isTupI, sumD_lst, lenD_tupI, sumD_tupI, lenD_drD, eqD_int, neD_int, ixD_tup, ixD_lst, at0, at1, at2, at3, List.length_cons, List.length_nil, List.map_cons, List.map_nil, List.cons_append, List.nil_append, List.replicate, List.getElem?_cons_zero, List.getElem?_cons_succ, List.getElem?_nil, List.set_cons_zero, List.set_cons_succ, Nat.reduceAdd, Nat.reduceSub, Nat.reduceLeDiff, Nat.reduceEqDiff, if_true, if_false, beq_self_eq_true, decide_true, eq_self, reduceCtorEq, Bool.not_true, Bool.not_false, Bool.true_and, Bool.and_true, Bool.false_and, Bool.and_false, Bool.or_true, Bool.true_or, Bool.or_false, Bool.false_or, Bool.false_eq_true, Option.map_some, Option.map_none, Option.bind_some, Option.bind_none, e, e2, decide_eq_true (show (k : Int) < ns.length by omega)]
  · refine ⟨0, ?_⟩
    simp only [refE, roS_da, roS_un, roS_ml, runP, runS, seqS, nextS_ap, asgS, parS, ifS, retS, retN, dropS, raiseS, neverS, contS_ap, breakS_ap, frzS, appS, extS, tgN, tgM, tgs, tgT, tgS, vE, cE, op2, op1, aN, aC, tB', andT, orT, notT, andV, orV, notV, ifE, tupE, lstE, caE, chE, callE, callS, isiE_ap, oN, oS, slE, anyI, rngI, zipI, forS, yesT, cgN, cgT, cgs, whileS, rawL, rawOf, rawL_nil, datL, datL_nil, Rv.dat, GD.toBool, toBool_bool, intOf, intOf_int, ofO, ofO_some, ofO_none, Re.ok_bind, Re.ex_bind, Re.no_bind, Re.pure_eq, addD_int, addD_tup, addD_lst, addD_str, subD_int, negD_int, ltD_int, leD_int, gtD_int, geD_int, isD_none, isD_bool, isNotD_none, isNotD_bool, isNoneD_none, isNoneD_bool, isNoneD_int, isNoneD_str, isNoneD_list, isNoneD_tuple, isNoneD_dict, lenD_lst, lenD_tup, absD_int, intD_int, intD_bool, tupleD_lst, tupleD_tup, listD_lst, listD_tup, itemsOf_lst, itemsOf_tup, zipD_lst, zipD_tup, maxD_int, minD_int, slD_tup, slD_lst, pow_10_18, itemsOf_tupI, isi_tuple, isi_int, isi_bool, isi_str, isi_list, isTup_none, isTup_bool, isTup_int, isTup_str, isTup_list, isTup_tuple, isTup_dict, isWB_none, isWB_bool, isWB_int, isWB_str, isWB_list, isWB_tuple, isWB_dict, isB_none, isB_bool, isB_int, isB_str, isB_list, isB_tuple, isB_dict, isStr_none, isStr_bool, isStr_int, isStr_str, isStr_list, isStr_tuple, isStr_dict, isLst_none, isLst_bool, isLst_int, isLst_str, isLst_list, isLst_tuple, isTupI, sumD_lst, lenD_tupI, sumD_tupI, lenD_drD, eqD_int, neD_int, ixD_tup, ixD_lst, at0, at1, at2, at3, List.length_cons, List.length_nil, List.map_cons, List.map_nil, List.cons_append, List.nil_append, List.replicate, List.getElem?_cons_zero, List.getElem?_cons_succ, List.getElem?_nil, List.set_cons_zero, List.set_cons_succ, Nat.reduceAdd, Nat.reduceSub, Nat.reduceLeDiff, Nat.reduceEqDiff, if_true, if_false, beq_self_eq_true, decide_true, eq_self, reduceCtorEq, Bool.not_true, Bool.not_false, Bool.true_and, Bool.and_true, Bool.false_and, Bool.and_false, Bool.or_true, Bool.true_or, Bool.or_false, Bool.false_or, Bool.false_eq_true, Option.map_some, Option.map_none, Option.bind_some, Option.bind_none, e, decide_eq_false (show ¬ (k : Int) < ns.length by omega)]
theorem state_ev (ns : List Int) (k : Nat) : ∃ ds, m__law_state [scrD ns, .int k] = .ok (.fl ds) ∧ Val ds := by
  obtain ⟨x, h⟩ := cell_at_ev ns k
  have e : ¬ ((18 : Int) < 0) := by decide
  unfold m__law_state d__law_state
  by_cases c : (1000000000000000000 : Int) ≤ x
  · refine ⟨[.int (x - 1000000000000000000), .bool true], ?_, _, _, rfl, .inl rfl⟩
    have : decide ((1000000000000000000 : Int) ≤ x) = true := decide_eq_true c
    simp only [refE, roS_da, roS_un, roS_ml, runP, runS, seqS, nextS_ap, asgS, parS, ifS, retS, retN, dropS, raiseS, neverS, contS_ap, breakS_ap, frzS, appS, extS, tgN, tgM, tgs, tgT, tgS, vE, cE, op2, op1, aN, aC, tB', andT, orT, notT, andV, orV, notV, ifE, tupE, lstE, caE, chE, callE, callS, isiE_ap, oN, oS, slE, anyI, rngI, zipI, forS, yesT, cgN, cgT, cgs, whileS, rawL, rawOf, rawL_nil, datL, datL_nil, Rv.dat, GD.toBool, toBool_bool, intOf, intOf_int, ofO, ofO_some, ofO_none, Re.ok_bind, Re.ex_bind, Re.no_bind, Re.pure_eq, addD_int, addD_tup, addD_lst, addD_str, subD_int, negD_int, ltD_int, leD_int, gtD_int, geD_int, isD_none, isD_bool, isNotD_none, isNotD_bool, isNoneD_none, isNoneD_bool, isNoneD_int, isNoneD_str, isNoneD_list, isNoneD_tuple, isNoneD_dict, lenD_lst, lenD_tup, absD_int, intD_int, intD_bool, tupleD_lst, tupleD_tup, listD_lst, listD_tup, itemsOf_lst, itemsOf_tup, zipD_lst, zipD_tup, maxD_int, minD_int, slD_tup, slD_lst, pow_10_18, itemsOf_tupI, isi_tuple, isi_int, isi_bool, isi_str, isi_list, isTup_none, isTup_bool, isTup_int, isTup_str, isTup_list, isTup_tuple, isTup_dict, isWB_none, isWB_bool, isWB_int, isWB_str, isWB_list, isWB_tuple, isWB_dict, isB_none, isB_bool, isB_int, isB_str, isB_list, isB_tuple, isB_dict, isStr_none, isStr_bool, isStr_int, isStr_str, isStr_list, isStr_tuple, isStr_dict, isLst_none, isLst_bool, isLst_int, isLst_str, isLst_list, isLst_tuple, isTupI, sumD_lst, lenD_tupI, sumD_tupI, lenD_drD, eqD_int, neD_int, ixD_tup, ixD_lst, at0, at1, at2, at3, List.length_cons, List.length_nil, List.map_cons, List.map_nil, List.cons_append, List.nil_append, List.replicate, List.getElem?_cons_zero, List.getElem?_cons_succ, List.getElem?_nil, List.set_cons_zero, List.set_cons_succ, Nat.reduceAdd, Nat.reduceSub, Nat.reduceLeDiff, Nat.reduceEqDiff, if_true, if_false, beq_self_eq_true, decide_true, eq_self, reduceCtorEq, Bool.not_true, Bool.not_false, Bool.true_and, Bool.and_true, Bool.false_and, Bool.and_false, Bool.or_true, Bool.true_or, Bool.or_false, Bool.false_or, Bool.false_eq_true, Option.map_some, Option.map_none, Option.bind_some, Option.bind_none, h, this]
  · refine ⟨[.int (x % 2147483647), .bool false], ?_, _, _, rfl, .inr ⟨by omega, by omega⟩⟩
    have : decide ((1000000000000000000 : Int) ≤ x) = false := decide_eq_false c
    simp only [refE, roS_da, roS_un, roS_ml, runP, runS, seqS, nextS_ap, asgS, parS, ifS, retS, retN, dropS, raiseS, neverS, contS_ap, breakS_ap, frzS, appS, extS, tgN, tgM, tgs, tgT, tgS, vE, cE, op2, op1, aN, aC, tB', andT, orT, notT, andV, orV, notV, ifE, tupE, lstE, caE, chE, callE, callS, isiE_ap, oN, oS, slE, anyI, rngI, zipI, forS, yesT, cgN, cgT, cgs, whileS, rawL, rawOf, rawL_nil, datL, datL_nil, Rv.dat, GD.toBool, toBool_bool, intOf, intOf_int, ofO, ofO_some, ofO_none, Re.ok_bind, Re.ex_bind, Re.no_bind, Re.pure_eq, addD_int, addD_tup, addD_lst, addD_str, subD_int, negD_int, ltD_int, leD_int, gtD_int, geD_int, isD_none, isD_bool, isNotD_none, isNotD_bool, isNoneD_none, isNoneD_bool, isNoneD_int, isNoneD_str, isNoneD_list, isNoneD_tuple, isNoneD_dict, lenD_lst, lenD_tup, absD_int, intD_int, intD_bool, tupleD_lst, tupleD_tup, listD_lst, listD_tup, itemsOf_lst, itemsOf_tup, zipD_lst, zipD_tup, maxD_int, minD_int, slD_tup, slD_lst, pow_10_18, itemsOf_tupI, isi_tuple, isi_int, isi_bool, isi_str, isi_list, isTup_none, isTup_bool, isTup_int, isTup_str, isTup_list, isTup_tuple, isTup_dict, isWB_none, isWB_bool, isWB_int, isWB_str, isWB_list, isWB_tuple, isWB_dict, isB_none, isB_bool, isB_int, isB_str, isB_list, isB_tuple, isB_dict, isStr_none, isStr_bool, isStr_int, isStr_str, isStr_list, isStr_tuple, isStr_dict, isLst_none, isLst_bool, isLst_int, isLst_str, isLst_list, isLst_tuple, isTupI, sumD_lst, lenD_tupI, sumD_tupI, lenD_drD, eqD_int, neD_int, ixD_tup, ixD_lst, at0, at1, at2, at3, List.length_cons, List.length_nil, List.map_cons, List.map_nil, List.cons_append, List.nil_append, List.replicate, List.getElem?_cons_zero, List.getElem?_cons_succ, List.getElem?_nil, List.set_cons_zero, List.set_cons_succ, Nat.reduceAdd, Nat.reduceSub, Nat.reduceLeDiff, Nat.reduceEqDiff, if_true, if_false, beq_self_eq_true, decide_true, eq_self, reduceCtorEq, Bool.not_true, Bool.not_false, Bool.true_and, Bool.and_true, Bool.false_and, Bool.and_false, Bool.or_true, Bool.true_or, Bool.or_false, Bool.false_or, Bool.false_eq_true, Option.map_some, Option.map_none, Option.bind_some, Option.bind_none, h, this, modD_int (i := x) (j := 2147483647) (by decide)]
theorem take_ev {ds : List D} {n : Int} (h : Val ds) (h0 : 0 < n) (h1 : n < 2 ^ 64) : ∃ (v : Nat) (ds' : List D), m__law_take ds [.int n] = .ok (.int v, ds') ∧ (v : Int) < n ∧ Val ds' := by
  obtain ⟨s, b, rfl, hs⟩ := h
  have f : fdivD (.int s) (.int n) = some (.da (.int (s / n))) := fdivD_int h0 (by have := log2_lt' (n := n.natAbs) (k := 64) (by omega) (by decide); omega)
  have m : ∀ i, modD (.int i) (.int n) = some (.da (.int (i % n))) := fun i => modD_int h0
  have ix0 : L2.ixN 2 0 = some 0 := rfl
  have nn : ∀ i : Int, ∃ v : Nat, i % n = v := fun i => ⟨(i % n).toNat, by have := Int.emod_nonneg i (show n ≠ 0 by omega); omega⟩
  unfold m__law_take d__law_take
  cases b
  · have hs := hs.resolve_left (by simp)
    have M := fun (i : Int) => modD_int (i := i) (j := 2147483647) (by decide)
    have M2 := fun (i : Int) => modD_int (i := i) (j := 2147483629) (by decide)
    have M3 := fun (i : Int) => modD_int (i := i) (j := 2147483587) (by decide)
    have a1 := mulD_sm (i := s) (j := 48271) (by omega) (by decide)
    generalize ht : (s * 48271 + 29) % 2147483647 = t
    have ht1 : 0 ≤ t := by omega
    have ht2 : t < 2147483647 := by omega
    have a2 := mulD_sm (i := t) (j := t) (by omega) (by omega)
    have a3 := mulD_sm (i := 39373) (j := t) (by omega) (by omega)
    generalize hx : (t * t + 39373 * t + 7) % 2147483629 = x
    have hx1 : 0 ≤ x := by omega
    have hx2 : x < 2147483647 := by omega
    have a4 := mulD_sm (i := x) (j := x) (by omega) (by omega)
    have a5 := mulD_sm (i := 16807) (j := x) (by omega) (by omega)
    have f8 : ∀ i, fdivD (.int i) (.int 8) = some (.da (.int (i / 8))) := fun i => fdivD_int (by decide) (by decide)
    obtain ⟨v, hv⟩ := nn ((x * x + 16807 * x) % 2147483587 / 8)
    refine ⟨v, [.int t, .bool false], ?_, ?_, _, _, rfl, .inr ⟨ht1, ht2⟩⟩
    · simp only [refE, roS_da, roS_un, roS_ml, runP, runS, seqS, nextS_ap, asgS, parS, ifS, retS, retN, dropS, raiseS, neverS, contS_ap, breakS_ap, frzS, appS, extS, tgN, tgM, tgs, tgT, tgS, vE, cE, op2, op1, aN, aC, tB', andT, orT, notT, andV, orV, notV, ifE, tupE, lstE, caE, chE, callE, callS, isiE_ap, oN, oS, slE, anyI, rngI, zipI, forS, yesT, cgN, cgT, cgs, whileS, rawL, rawOf, rawL_nil, datL, datL_nil, Rv.dat, GD.toBool, toBool_bool, intOf, intOf_int, ofO, ofO_some, ofO_none, Re.ok_bind, Re.ex_bind, Re.no_bind, Re.pure_eq, addD_int, addD_tup, addD_lst, addD_str, subD_int, negD_int, ltD_int, leD_int, gtD_int, geD_int, isD_none, isD_bool, isNotD_none, isNotD_bool, isNoneD_none, isNoneD_bool, isNoneD_int, isNoneD_str, isNoneD_list, isNoneD_tuple, isNoneD_dict, lenD_lst, lenD_tup, absD_int, intD_int, intD_bool, tupleD_lst, tupleD_tup, listD_lst, listD_tup, itemsOf_lst, itemsOf_tup, zipD_lst, zipD_tup, maxD_int, minD_int, slD_tup, slD_lst, pow_10_18, itemsOf_tupI, isi_tuple, isi_int, isi_bool, isi_str, isi_list, isTup_none, isTup_bool, isTup_int, isTup_str, isTup_list, isTup_tuple, isTup_dict, isWB_none, isWB_bool, isWB_int, isWB_str, isWB_list, isWB_tuple, isWB_dict, isB_none, isB_bool, isB_int, isB_str, isB_list, isB_tuple, isB_dict, isStr_none, isStr_bool, isStr_int, isStr_str, isStr_list, isStr_tuple, isStr_dict, isLst_none, isLst_bool, isLst_int, isLst_str, isLst_list, isLst_tuple, isTupI, sumD_lst, lenD_tupI, sumD_tupI, lenD_drD, eqD_int, neD_int, ixD_tup, ixD_lst, at0, at1, at2, at3, List.length_cons, List.length_nil, List.map_cons, List.map_nil, List.cons_append, List.nil_append, List.replicate, List.getElem?_cons_zero, List.getElem?_cons_succ, List.getElem?_nil, List.set_cons_zero, List.set_cons_succ, Nat.reduceAdd, Nat.reduceSub, Nat.reduceLeDiff, Nat.reduceEqDiff, if_true, if_false, beq_self_eq_true, decide_true, eq_self, reduceCtorEq, Bool.not_true, Bool.not_false, Bool.true_and, Bool.and_true, Bool.false_and, Bool.and_false, Bool.or_true, Bool.true_or, Bool.or_false, Bool.false_or, Bool.false_eq_true, Option.map_some, Option.map_none, Option.bind_some, Option.bind_none, runS, M, M2, M3, a1, ht, ix0, a2, a3, hx, a4, a5, f8, m, hv]
    · rw [← hv]; exact Int.emod_lt_of_pos _ h0
  · obtain ⟨v, hv⟩ := nn s
    refine ⟨v, [.int (s / n), .bool true], ?_, ?_, _, _, rfl, .inl rfl⟩
    · simp only [refE, roS_da, roS_un, roS_ml, runP, runS, seqS, nextS_ap, asgS, parS, ifS, retS, retN, dropS, raiseS, neverS, contS_ap, breakS_ap, frzS, appS, extS, tgN, tgM, tgs, tgT, tgS, vE, cE, op2, op1, aN, aC, tB', andT, orT, notT, andV, orV, notV, ifE, tupE, lstE, caE, chE, callE, callS, isiE_ap, oN, oS, slE, anyI, rngI, zipI, forS, yesT, cgN, cgT, cgs, whileS, rawL, rawOf, rawL_nil, datL, datL_nil, Rv.dat, GD.toBool, toBool_bool, intOf, intOf_int, ofO, ofO_some, ofO_none, Re.ok_bind, Re.ex_bind, Re.no_bind, Re.pure_eq, addD_int, addD_tup, addD_lst, addD_str, subD_int, negD_int, ltD_int, leD_int, gtD_int, geD_int, isD_none, isD_bool, isNotD_none, isNotD_bool, isNoneD_none, isNoneD_bool, isNoneD_int, isNoneD_str, isNoneD_list, isNoneD_tuple, isNoneD_dict, lenD_lst, lenD_tup, absD_int, intD_int, intD_bool, tupleD_lst, tupleD_tup, listD_lst, listD_tup, itemsOf_lst, itemsOf_tup, zipD_lst, zipD_tup, maxD_int, minD_int, slD_tup, slD_lst, pow_10_18, itemsOf_tupI, isi_tuple, isi_int, isi_bool, isi_str, isi_list, isTup_none, isTup_bool, isTup_int, isTup_str, isTup_list, isTup_tuple, isTup_dict, isWB_none, isWB_bool, isWB_int, isWB_str, isWB_list, isWB_tuple, isWB_dict, isB_none, isB_bool, isB_int, isB_str, isB_list, isB_tuple, isB_dict, isStr_none, isStr_bool, isStr_int, isStr_str, isStr_list, isStr_tuple, isStr_dict, isLst_none, isLst_bool, isLst_int, isLst_str, isLst_list, isLst_tuple, isTupI, sumD_lst, lenD_tupI, sumD_tupI, lenD_drD, eqD_int, neD_int, ixD_tup, ixD_lst, at0, at1, at2, at3, List.length_cons, List.length_nil, List.map_cons, List.map_nil, List.cons_append, List.nil_append, List.replicate, List.getElem?_cons_zero, List.getElem?_cons_succ, List.getElem?_nil, List.set_cons_zero, List.set_cons_succ, Nat.reduceAdd, Nat.reduceSub, Nat.reduceLeDiff, Nat.reduceEqDiff, if_true, if_false, beq_self_eq_true, decide_true, eq_self, reduceCtorEq, Bool.not_true, Bool.not_false, Bool.true_and, Bool.and_true, Bool.false_and, Bool.and_false, Bool.or_true, Bool.true_or, Bool.or_false, Bool.false_or, Bool.false_eq_true, Option.map_some, Option.map_none, Option.bind_some, Option.bind_none, f, m, ix0, hv]
    · rw [← hv]; exact Int.emod_lt_of_pos _ h0

theorem cut_loop (x y : Sl) : ∀ (n : Nat) (a b : Int), 0 ≤ a → 0 ≤ b → b.natAbs < n → whileD (tB' (op2 gtD (vE 3) (cE (.int 0)))) (parS 2 3 (aC (vE 3) (aC (op2 modD (vE 2) (vE 3)) aN))) n [x, y, .da (.int a), .da (.int b)] = .nx [x, y, .da (.int (Nat.gcd a.natAbs b.natAbs : Nat)), .da (.int 0)]
  | 0, a, b, _, _, h => by omega
  | n + 1, a, b, ha, hb, h => by
    unfold whileD
    by_cases hb0 : b = 0
    · subst hb0
      simp only [refE, roS_da, roS_un, roS_ml, runP, runS, seqS, nextS_ap, asgS, parS, ifS, retS, retN, dropS, raiseS, neverS, contS_ap, breakS_ap, frzS, appS, extS, tgN, tgM, tgs, tgT, tgS, vE, cE, op2, op1, aN, aC, tB', andT, orT, notT, andV, orV, notV, ifE, tupE, lstE, caE, chE, callE, callS, isiE_ap, oN, oS, slE, anyI, rngI, zipI, forS, yesT, cgN, cgT, cgs, whileS, rawL, rawOf, rawL_nil, datL, datL_nil, Rv.dat, GD.toBool, toBool_bool, intOf, intOf_int, ofO, ofO_some, ofO_none, Re.ok_bind, Re.ex_bind, Re.no_bind, Re.pure_eq, addD_int, addD_tup, addD_lst, addD_str, subD_int, negD_int, ltD_int, leD_int, gtD_int, geD_int, isD_none, isD_bool, isNotD_none, isNotD_bool, isNoneD_none, isNoneD_bool, isNoneD_int, isNoneD_str, isNoneD_list, isNoneD_tuple, isNoneD_dict, lenD_lst, lenD_tup, absD_int, intD_int, intD_bool, tupleD_lst, tupleD_tup, listD_lst, listD_tup, itemsOf_lst, itemsOf_tup, zipD_lst, zipD_tup, maxD_int, minD_int, slD_tup, slD_lst, pow_10_18, itemsOf_tupI, isi_tuple, isi_int, isi_bool, isi_str, isi_list, isTup_none, isTup_bool, isTup_int, isTup_str, isTup_list, isTup_tuple, isTup_dict, isWB_none, isWB_bool, isWB_int, isWB_str, isWB_list, isWB_tuple, isWB_dict, isB_none, isB_bool, isB_int, isB_str, isB_list, isB_tuple, isB_dict, isStr_none, isStr_bool, isStr_int, isStr_str, isStr_list, isStr_tuple, isStr_dict, isLst_none, isLst_bool, isLst_int, isLst_str, isLst_list, isLst_tuple, isTupI, sumD_lst, lenD_tupI, sumD_tupI, lenD_drD, eqD_int, neD_int, ixD_tup, ixD_lst, at0, at1, at2, at3, List.length_cons, List.length_nil, List.map_cons, List.map_nil, List.cons_append, List.nil_append, List.replicate, List.getElem?_cons_zero, List.getElem?_cons_succ, List.getElem?_nil, List.set_cons_zero, List.set_cons_succ, Nat.reduceAdd, Nat.reduceSub, Nat.reduceLeDiff, Nat.reduceEqDiff, if_true, if_false, beq_self_eq_true, decide_true, eq_self, reduceCtorEq, Bool.not_true, Bool.not_false, Bool.true_and, Bool.and_true, Bool.false_and, Bool.and_false, Bool.or_true, Bool.true_or, Bool.or_false, Bool.false_or, Bool.false_eq_true, Option.map_some, Option.map_none, Option.bind_some, Option.bind_none, show decide ((0 : Int) < 0) = false by decide]
      have : ((Nat.gcd a.natAbs (Int.natAbs 0) : Nat) : Int) = a := by simp; omega
      rw [this]
    · simp only [refE, roS_da, roS_un, roS_ml, runP, runS, seqS, nextS_ap, asgS, parS, ifS, retS, retN, dropS, raiseS, neverS, contS_ap, breakS_ap, frzS, appS, extS, tgN, tgM, tgs, tgT, tgS, vE, cE, op2, op1, aN, aC, tB', andT, orT, notT, andV, orV, notV, ifE, tupE, lstE, caE, chE, callE, callS, isiE_ap, oN, oS, slE, anyI, rngI, zipI, forS, yesT, cgN, cgT, cgs, whileS, rawL, rawOf, rawL_nil, datL, datL_nil, Rv.dat, GD.toBool, toBool_bool, intOf, intOf_int, ofO, ofO_some, ofO_none, Re.ok_bind, Re.ex_bind, Re.no_bind, Re.pure_eq, addD_int, addD_tup, addD_lst, addD_str, subD_int, negD_int, ltD_int, leD_int, gtD_int, geD_int, isD_none, isD_bool, isNotD_none, isNotD_bool, isNoneD_none, isNoneD_bool, isNoneD_int, isNoneD_str, isNoneD_list, isNoneD_tuple, isNoneD_dict, lenD_lst, lenD_tup, absD_int, intD_int, intD_bool, tupleD_lst, tupleD_tup, listD_lst, listD_tup, itemsOf_lst, itemsOf_tup, zipD_lst, zipD_tup, maxD_int, minD_int, slD_tup, slD_lst, pow_10_18, itemsOf_tupI, isi_tuple, isi_int, isi_bool, isi_str, isi_list, isTup_none, isTup_bool, isTup_int, isTup_str, isTup_list, isTup_tuple, isTup_dict, isWB_none, isWB_bool, isWB_int, isWB_str, isWB_list, isWB_tuple, isWB_dict, isB_none, isB_bool, isB_int, isB_str, isB_list, isB_tuple, isB_dict, isStr_none, isStr_bool, isStr_int, isStr_str, isStr_list, isStr_tuple, isStr_dict, isLst_none, isLst_bool, isLst_int, isLst_str, isLst_list, isLst_tuple, isTupI, sumD_lst, lenD_tupI, sumD_tupI, lenD_drD, eqD_int, neD_int, ixD_tup, ixD_lst, at0, at1, at2, at3, List.length_cons, List.length_nil, List.map_cons, List.map_nil, List.cons_append, List.nil_append, List.replicate, List.getElem?_cons_zero, List.getElem?_cons_succ, List.getElem?_nil, List.set_cons_zero, List.set_cons_succ, Nat.reduceAdd, Nat.reduceSub, Nat.reduceLeDiff, Nat.reduceEqDiff, if_true, if_false, beq_self_eq_true, decide_true, eq_self, reduceCtorEq, Bool.not_true, Bool.not_false, Bool.true_and, Bool.and_true, Bool.false_and, Bool.and_false, Bool.or_true, Bool.true_or, Bool.or_false, Bool.false_or, Bool.false_eq_true, Option.map_some, Option.map_none, Option.bind_some, Option.bind_none, decide_eq_true (show 0 < b by omega), modD_nz hb0]
      rw [cut_loop x y n b (a.fmod b) hb (Int.fmod_nonneg_of_pos a (by omega)) (by have := fmod_natAbs_lt a hb0; omega), gcd_fmod]
theorem cut_nat (a : Int) {d : Nat} (hd : d ≠ 0) (hs : d < 2 ^ 8000) : m__law_cut [.int a, .int (d : Int)] = .ok (.da (frD (mkRat a d))) := by
  have g0 : 0 < Nat.gcd a.natAbs d := Nat.gcd_pos_of_pos_right _ (by omega)
  have gl : Nat.gcd a.natAbs d ≤ d := Nat.le_of_dvd (by omega) (Nat.gcd_dvd_right a.natAbs d)
  have c : ((Nat.gcd a.natAbs d : Nat) : Int).natAbs.log2 < 9000 := by
    have := log2_lt' (Nat.lt_of_le_of_lt gl hs) (by decide)
    simp only [Int.natAbs_natCast] at this ⊢
    omega
  have c0 : 0 < ((Nat.gcd a.natAbs d : Nat) : Int) := by omega
  have f : ∀ i, fdivD (.int i) (.int ((Nat.gcd a.natAbs d : Nat) : Int)) = some (.da (.int (i / ((Nat.gcd a.natAbs d : Nat) : Int)))) := fun i => fdivD_int c0 c
  have e : (if a < 0 then -a else a) = (a.natAbs : Int) := by split <;> omega
  have L := cut_loop (.da (.int a)) (.da (.int d)) (fu__law_cut [.da (.int a), .da (.int d), .da (.int a.natAbs), .da (.int d)]) a.natAbs d (by omega) (by omega) (by show (d : Int).natAbs < (d : Int).natAbs + 1; omega)
  rw [Int.natAbs_natCast, Int.natAbs_natCast] at L
  unfold m__law_cut d__law_cut; simp only [refE, roS_da, roS_un, roS_ml, runP, runS, seqS, nextS_ap, asgS, parS, ifS, retS, retN, dropS, raiseS, neverS, contS_ap, breakS_ap, frzS, appS, extS, tgN, tgM, tgs, tgT, tgS, vE, cE, op2, op1, aN, aC, tB', andT, orT, notT, andV, orV, notV, ifE, tupE, lstE, caE, chE, callE, callS, isiE_ap, oN, oS, slE, anyI, rngI, zipI, forS, yesT, cgN, cgT, cgs, whileS, rawL, rawOf, rawL_nil, datL, datL_nil, Rv.dat, GD.toBool, toBool_bool, intOf, intOf_int, ofO, ofO_some, ofO_none, Re.ok_bind, Re.ex_bind, Re.no_bind, Re.pure_eq, addD_int, addD_tup, addD_lst, addD_str, subD_int, negD_int, ltD_int, leD_int, gtD_int, geD_int, isD_none, isD_bool, isNotD_none, isNotD_bool, isNoneD_none, isNoneD_bool, isNoneD_int, isNoneD_str, isNoneD_list, isNoneD_tuple, isNoneD_dict, lenD_lst, lenD_tup, absD_int, intD_int, intD_bool, tupleD_lst, tupleD_tup, listD_lst, listD_tup, itemsOf_lst, itemsOf_tup, zipD_lst, zipD_tup, maxD_int, minD_int, slD_tup, slD_lst, pow_10_18, itemsOf_tupI, isi_tuple, isi_int, isi_bool, isi_str, isi_list, isTup_none, isTup_bool, isTup_int, isTup_str, isTup_list, isTup_tuple, isTup_dict, isWB_none, isWB_bool, isWB_int, isWB_str, isWB_list, isWB_tuple, isWB_dict, isB_none, isB_bool, isB_int, isB_str, isB_list, isB_tuple, isB_dict, isStr_none, isStr_bool, isStr_int, isStr_str, isStr_list, isStr_tuple, isStr_dict, isLst_none, isLst_bool, isLst_int, isLst_str, isLst_list, isLst_tuple, isTupI, sumD_lst, lenD_tupI, sumD_tupI, lenD_drD, eqD_int, neD_int, ixD_tup, ixD_lst, at0, at1, at2, at3, List.length_cons, List.length_nil, List.map_cons, List.map_nil, List.cons_append, List.nil_append, List.replicate, List.getElem?_cons_zero, List.getElem?_cons_succ, List.getElem?_nil, List.set_cons_zero, List.set_cons_succ, Nat.reduceAdd, Nat.reduceSub, Nat.reduceLeDiff, Nat.reduceEqDiff, if_true, if_false, beq_self_eq_true, decide_true, eq_self, reduceCtorEq, Bool.not_true, Bool.not_false, Bool.true_and, Bool.and_true, Bool.false_and, Bool.and_false, Bool.or_true, Bool.true_or, Bool.or_false, Bool.false_or, Bool.false_eq_true, Option.map_some, Option.map_none, Option.bind_some, Option.bind_none, e, L, f]
  obtain ⟨h1, h2⟩ := mkRat_nd a hd
  unfold frD
  rw [h1, h2, Int.natCast_ediv]
theorem cut_ev (a : Int) {b : Int} (h : 0 < b) (hs : b < 2 ^ 64) : m__law_cut [.int a, .int b] = .ok (.da (frD ((a : Rat) / (b : Rat)))) := by
  have h2 := cut_nat a (d := b.toNat) (by omega) (by have := lt64_8000 hs; rw [← Int.ofNat_lt]; rw [Int.toNat_of_nonneg (by omega)]; simpa using this)
  rw [Int.toNat_of_nonneg (by omega), mkRat_div a h] at h2
  exact h2

end LawHere

namespace LawHere
open PySem GD
/-! ### the law's urns -/
theorem lst3 {ds : List D} (a b c : D) {v : Nat} (h : (v : Int) < 3) : ∃ x, (x = a ∨ x = b ∨ x = c) ∧ ixD (.list [a, b, c]) (.int (v : Int)) = some (.da x) := by
  obtain ⟨x, h1, h2⟩ := ix_lt (xs := [a, b, c]) (v := v) (by simp; omega)
  exact ⟨x, by simpa using h1, h2⟩
theorem lurn_ev {ds : List D} {n : Nat} (h : Val ds) (h1 : 1 ≤ n) (h4 : n ≤ 4) : ∃ u ds', m__law_urn ds [.int n] = .ok (tupI u, ds') ∧ Urn 20 u ∧ u.length = n ∧ Val ds' := by
  obtain ⟨v0, d0, e0, hv0, h0⟩ := take_ev h (n := 3) (by decide) (by decide)
  obtain ⟨x, hx, ex⟩ := lst3 (ds := ds) (.int 3) (.int 8) (.int 21) hv0
  obtain ⟨m, rfl, m1, m21⟩ : ∃ m : Int, x = .int m ∧ 1 ≤ m ∧ m ≤ 21 := by
    rcases hx with h | h | h <;> subst h
    · exact ⟨3, rfl, by decide, by decide⟩
    · exact ⟨8, rfl, by decide, by decide⟩
    · exact ⟨21, rfl, by decide, by decide⟩
  obtain ⟨ys, g', e, l, p, ds1, hv, rfl⟩ := lc_inv (it := (rngI (aC (vE 1) aN))) (j := 4) (te := (callS m__law_take (aC (vE 0) (aC (vE 2) aN)))) (g := [.ml false d0, .da (.int n), .da (.int m), .un, .un]) (g1 := [.ml false d0, .da (.int n), .da (.int m), .un, .un])
    (ds := (List.range n).map fun i : Nat => .int i) (fun g => ∃ ds, Val ds ∧ g = [.ml false ds, .da (.int n), .da (.int m), .un, .un]) (fun d => ∃ x : Nat, d = .int x ∧ (x : Int) < m)
    (by simp only [refE, roS_da, roS_un, roS_ml, runP, runS, seqS, nextS_ap, asgS, parS, ifS, retS, retN, dropS, raiseS, neverS, contS_ap, breakS_ap, frzS, appS, extS, tgN, tgM, tgs, tgT, tgS, vE, cE, op2, op1, aN, aC, tB', andT, orT, notT, andV, orV, notV, ifE, tupE, lstE, caE, chE, callE, callS, isiE_ap, oN, oS, slE, anyI, rngI, zipI, forS, yesT, cgN, cgT, cgs, whileS, rawL, rawOf, rawL_nil, datL, datL_nil, Rv.dat, GD.toBool, toBool_bool, intOf, intOf_int, ofO, ofO_some, ofO_none, Re.ok_bind, Re.ex_bind, Re.no_bind, Re.pure_eq, addD_int, addD_tup, addD_lst, addD_str, subD_int, negD_int, ltD_int, leD_int, gtD_int, geD_int, isD_none, isD_bool, isNotD_none, isNotD_bool, isNoneD_none, isNoneD_bool, isNoneD_int, isNoneD_str, isNoneD_list, isNoneD_tuple, isNoneD_dict, lenD_lst, lenD_tup, absD_int, intD_int, intD_bool, tupleD_lst, tupleD_tup, listD_lst, listD_tup, itemsOf_lst, itemsOf_tup, zipD_lst, zipD_tup, maxD_int, minD_int, slD_tup, slD_lst, pow_10_18, itemsOf_tupI, isi_tuple, isi_int, isi_bool, isi_str, isi_list, isTup_none, isTup_bool, isTup_int, isTup_str, isTup_list, isTup_tuple, isTup_dict, isWB_none, isWB_bool, isWB_int, isWB_str, isWB_list, isWB_tuple, isWB_dict, isB_none, isB_bool, isB_int, isB_str, isB_list, isB_tuple, isB_dict, isStr_none, isStr_bool, isStr_int, isStr_str, isStr_list, isStr_tuple, isStr_dict, isLst_none, isLst_bool, isLst_int, isLst_str, isLst_list, isLst_tuple, isTupI, sumD_lst, lenD_tupI, sumD_tupI, lenD_drD, eqD_int, neD_int, ixD_tup, ixD_lst, at0, at1, at2, at3, List.length_cons, List.length_nil, List.map_cons, List.map_nil, List.cons_append, List.nil_append, List.replicate, List.getElem?_cons_zero, List.getElem?_cons_succ, List.getElem?_nil, List.set_cons_zero, List.set_cons_succ, Nat.reduceAdd, Nat.reduceSub, Nat.reduceLeDiff, Nat.reduceEqDiff, if_true, if_false, beq_self_eq_true, decide_true, eq_self, reduceCtorEq, Bool.not_true, Bool.not_false, Bool.true_and, Bool.and_true, Bool.false_and, Bool.and_false, Bool.or_true, Bool.true_or, Bool.or_false, Bool.false_or, Bool.false_eq_true, Option.map_some, Option.map_none, Option.bind_some, Option.bind_none, rng_nat (show n ≤ 1000000 by omega)]) (by simp; omega) ⟨d0, h0, by simp only [refE, roS_da, roS_un, roS_ml, runP, runS, seqS, nextS_ap, asgS, parS, ifS, retS, retN, dropS, raiseS, neverS, contS_ap, breakS_ap, frzS, appS, extS, tgN, tgM, tgs, tgT, tgS, vE, cE, op2, op1, aN, aC, tB', andT, orT, notT, andV, orV, notV, ifE, tupE, lstE, caE, chE, callE, callS, isiE_ap, oN, oS, slE, anyI, rngI, zipI, forS, yesT, cgN, cgT, cgs, whileS, rawL, rawOf, rawL_nil, datL, datL_nil, Rv.dat, GD.toBool, toBool_bool, intOf, intOf_int, ofO, ofO_some, ofO_none, Re.ok_bind, Re.ex_bind, Re.no_bind, Re.pure_eq, addD_int, addD_tup, addD_lst, addD_str, subD_int, negD_int, ltD_int, leD_int, gtD_int, geD_int, isD_none, isD_bool, isNotD_none, isNotD_bool, isNoneD_none, isNoneD_bool, isNoneD_int, isNoneD_str, isNoneD_list, isNoneD_tuple, isNoneD_dict, lenD_lst, lenD_tup, absD_int, intD_int, intD_bool, tupleD_lst, tupleD_tup, listD_lst, listD_tup, itemsOf_lst, itemsOf_tup, zipD_lst, zipD_tup, maxD_int, minD_int, slD_tup, slD_lst, pow_10_18, itemsOf_tupI, isi_tuple, isi_int, isi_bool, isi_str, isi_list, isTup_none, isTup_bool, isTup_int, isTup_str, isTup_list, isTup_tuple, isTup_dict, isWB_none, isWB_bool, isWB_int, isWB_str, isWB_list, isWB_tuple, isWB_dict, isB_none, isB_bool, isB_int, isB_str, isB_list, isB_tuple, isB_dict, isStr_none, isStr_bool, isStr_int, isStr_str, isStr_list, isStr_tuple, isStr_dict, isLst_none, isLst_bool, isLst_int, isLst_str, isLst_list, isLst_tuple, isTupI, sumD_lst, lenD_tupI, sumD_tupI, lenD_drD, eqD_int, neD_int, ixD_tup, ixD_lst, at0, at1, at2, at3, List.length_cons, List.length_nil, List.map_cons, List.map_nil, List.cons_append, List.nil_append, List.replicate, List.getElem?_cons_zero, List.getElem?_cons_succ, List.getElem?_nil, List.set_cons_zero, List.set_cons_succ, Nat.reduceAdd, Nat.reduceSub, Nat.reduceLeDiff, Nat.reduceEqDiff, if_true, if_false, beq_self_eq_true, decide_true, eq_self, reduceCtorEq, Bool.not_true, Bool.not_false, Bool.true_and, Bool.and_true, Bool.false_and, Bool.and_false, Bool.or_true, Bool.true_or, Bool.or_false, Bool.false_or, Bool.false_eq_true, Option.map_some, Option.map_none, Option.bind_some, Option.bind_none]⟩ (by
      rintro d _ g ⟨ds, hd, rfl⟩
      obtain ⟨v, ds', e, hv, hd'⟩ := take_ev hd (n := m) (by omega) (by omega)
      exact ⟨.da (.int v), _, .int v, by simp only [refE, roS_da, roS_un, roS_ml, runP, runS, seqS, nextS_ap, asgS, parS, ifS, retS, retN, dropS, raiseS, neverS, contS_ap, breakS_ap, frzS, appS, extS, tgN, tgM, tgs, tgT, tgS, vE, cE, op2, op1, aN, aC, tB', andT, orT, notT, andV, orV, notV, ifE, tupE, lstE, caE, chE, callE, callS, isiE_ap, oN, oS, slE, anyI, rngI, zipI, forS, yesT, cgN, cgT, cgs, whileS, rawL, rawOf, rawL_nil, datL, datL_nil, Rv.dat, GD.toBool, toBool_bool, intOf, intOf_int, ofO, ofO_some, ofO_none, Re.ok_bind, Re.ex_bind, Re.no_bind, Re.pure_eq, addD_int, addD_tup, addD_lst, addD_str, subD_int, negD_int, ltD_int, leD_int, gtD_int, geD_int, isD_none, isD_bool, isNotD_none, isNotD_bool, isNoneD_none, isNoneD_bool, isNoneD_int, isNoneD_str, isNoneD_list, isNoneD_tuple, isNoneD_dict, lenD_lst, lenD_tup, absD_int, intD_int, intD_bool, tupleD_lst, tupleD_tup, listD_lst, listD_tup, itemsOf_lst, itemsOf_tup, zipD_lst, zipD_tup, maxD_int, minD_int, slD_tup, slD_lst, pow_10_18, itemsOf_tupI, isi_tuple, isi_int, isi_bool, isi_str, isi_list, isTup_none, isTup_bool, isTup_int, isTup_str, isTup_list, isTup_tuple, isTup_dict, isWB_none, isWB_bool, isWB_int, isWB_str, isWB_list, isWB_tuple, isWB_dict, isB_none, isB_bool, isB_int, isB_str, isB_list, isB_tuple, isB_dict, isStr_none, isStr_bool, isStr_int, isStr_str, isStr_list, isStr_tuple, isStr_dict, isLst_none, isLst_bool, isLst_int, isLst_str, isLst_list, isLst_tuple, isTupI, sumD_lst, lenD_tupI, sumD_tupI, lenD_drD, eqD_int, neD_int, ixD_tup, ixD_lst, at0, at1, at2, at3, List.length_cons, List.length_nil, List.map_cons, List.map_nil, List.cons_append, List.nil_append, List.replicate, List.getElem?_cons_zero, List.getElem?_cons_succ, List.getElem?_nil, List.set_cons_zero, List.set_cons_succ, Nat.reduceAdd, Nat.reduceSub, Nat.reduceLeDiff, Nat.reduceEqDiff, if_true, if_false, beq_self_eq_true, decide_true, eq_self, reduceCtorEq, Bool.not_true, Bool.not_false, Bool.true_and, Bool.and_true, Bool.false_and, Bool.and_false, Bool.or_true, Bool.true_or, Bool.or_false, Bool.false_or, Bool.false_eq_true, Option.map_some, Option.map_none, Option.bind_some, Option.bind_none, e]; rfl, rfl, ⟨v, rfl, hv⟩, ds', hd', by simp only [refE, roS_da, roS_un, roS_ml, runP, runS, seqS, nextS_ap, asgS, parS, ifS, retS, retN, dropS, raiseS, neverS, contS_ap, breakS_ap, frzS, appS, extS, tgN, tgM, tgs, tgT, tgS, vE, cE, op2, op1, aN, aC, tB', andT, orT, notT, andV, orV, notV, ifE, tupE, lstE, caE, chE, callE, callS, isiE_ap, oN, oS, slE, anyI, rngI, zipI, forS, yesT, cgN, cgT, cgs, whileS, rawL, rawOf, rawL_nil, datL, datL_nil, Rv.dat, GD.toBool, toBool_bool, intOf, intOf_int, ofO, ofO_some, ofO_none, Re.ok_bind, Re.ex_bind, Re.no_bind, Re.pure_eq, addD_int, addD_tup, addD_lst, addD_str, subD_int, negD_int, ltD_int, leD_int, gtD_int, geD_int, isD_none, isD_bool, isNotD_none, isNotD_bool, isNoneD_none, isNoneD_bool, isNoneD_int, isNoneD_str, isNoneD_list, isNoneD_tuple, isNoneD_dict, lenD_lst, lenD_tup, absD_int, intD_int, intD_bool, tupleD_lst, tupleD_tup, listD_lst, listD_tup, itemsOf_lst, itemsOf_tup, zipD_lst, zipD_tup, maxD_int, minD_int, slD_tup, slD_lst, pow_10_18, itemsOf_tupI, isi_tuple, isi_int, isi_bool, isi_str, isi_list, isTup_none, isTup_bool, isTup_int, isTup_str, isTup_list, isTup_tuple, isTup_dict, isWB_none, isWB_bool, isWB_int, isWB_str, isWB_list, isWB_tuple, isWB_dict, isB_none, isB_bool, isB_int, isB_str, isB_list, isB_tuple, isB_dict, isStr_none, isStr_bool, isStr_int, isStr_str, isStr_list, isStr_tuple, isStr_dict, isLst_none, isLst_bool, isLst_int, isLst_str, isLst_list, isLst_tuple, isTupI, sumD_lst, lenD_tupI, sumD_tupI, lenD_drD, eqD_int, neD_int, ixD_tup, ixD_lst, at0, at1, at2, at3, List.length_cons, List.length_nil, List.map_cons, List.map_nil, List.cons_append, List.nil_append, List.replicate, List.getElem?_cons_zero, List.getElem?_cons_succ, List.getElem?_nil, List.set_cons_zero, List.set_cons_succ, Nat.reduceAdd, Nat.reduceSub, Nat.reduceLeDiff, Nat.reduceEqDiff, if_true, if_false, beq_self_eq_true, decide_true, eq_self, reduceCtorEq, Bool.not_true, Bool.not_false, Bool.true_and, Bool.and_true, Bool.false_and, Bool.and_false, Bool.or_true, Bool.true_or, Bool.or_false, Bool.false_or, Bool.false_eq_true, Option.map_some, Option.map_none, Option.bind_some, Option.bind_none]⟩)
  obtain ⟨us, rfl, l2, hu'⟩ := ys_ints p
  have hu : ∀ x ∈ us, 0 ≤ x ∧ x ≤ 20 := fun x hx => by have := hu' x hx; omega
  have lu : us.length = n := by simpa using l2.trans l
  by_cases hs : us.sum = 0
  · obtain ⟨v1, d2, e1, hv1, hd2⟩ := take_ev hv (n := 20) (by decide) (by decide)
    obtain ⟨v2, d3, e2, hv2, hd3⟩ := take_ev hd2 (n := n) (by omega) (by omega)
    have hv3 : v2 < us.length := by omega
    refine ⟨us.set v2 (1 + v1), d3, ?_, ⟨by simp; omega, by simp; omega, set_all hu (by omega) (by omega), sum_pos (fun x hx => (set_all hu (by omega) (by omega) x hx).1) ⟨1 + v1, List.mem_set hv3 _, by omega⟩⟩, by simpa using lu, hd3⟩
    have q : ((us.sum == 0)) = true := by simp [hs]
    unfold m__law_urn d__law_urn
    simp only [refE, roS_da, roS_un, roS_ml, runP, runS, seqS, nextS_ap, asgS, parS, ifS, retS, retN, dropS, raiseS, neverS, contS_ap, breakS_ap, frzS, appS, extS, tgN, tgM, tgs, tgT, tgS, vE, cE, op2, op1, aN, aC, tB', andT, orT, notT, andV, orV, notV, ifE, tupE, lstE, caE, chE, callE, callS, isiE_ap, oN, oS, slE, anyI, rngI, zipI, forS, yesT, cgN, cgT, cgs, whileS, rawL, rawOf, rawL_nil, datL, datL_nil, Rv.dat, GD.toBool, toBool_bool, intOf, intOf_int, ofO, ofO_some, ofO_none, Re.ok_bind, Re.ex_bind, Re.no_bind, Re.pure_eq, addD_int, addD_tup, addD_lst, addD_str, subD_int, negD_int, ltD_int, leD_int, gtD_int, geD_int, isD_none, isD_bool, isNotD_none, isNotD_bool, isNoneD_none, isNoneD_bool, isNoneD_int, isNoneD_str, isNoneD_list, isNoneD_tuple, isNoneD_dict, lenD_lst, lenD_tup, absD_int, intD_int, intD_bool, tupleD_lst, tupleD_tup, listD_lst, listD_tup, itemsOf_lst, itemsOf_tup, zipD_lst, zipD_tup, maxD_int, minD_int, slD_tup, slD_lst, pow_10_18, itemsOf_tupI, isi_tuple, isi_int, isi_bool, isi_str, isi_list, isTup_none, isTup_bool, isTup_int, isTup_str, isTup_list, isTup_tuple, isTup_dict, isWB_none, isWB_bool, isWB_int, isWB_str, isWB_list, isWB_tuple, isWB_dict, isB_none, isB_bool, isB_int, isB_str, isB_list, isB_tuple, isB_dict, isStr_none, isStr_bool, isStr_int, isStr_str, isStr_list, isStr_tuple, isStr_dict, isLst_none, isLst_bool, isLst_int, isLst_str, isLst_list, isLst_tuple, isTupI, sumD_lst, lenD_tupI, sumD_tupI, lenD_drD, eqD_int, neD_int, ixD_tup, ixD_lst, at0, at1, at2, at3, List.length_cons, List.length_nil, List.map_cons, List.map_nil, List.cons_append, List.nil_append, List.replicate, List.getElem?_cons_zero, List.getElem?_cons_succ, List.getElem?_nil, List.set_cons_zero, List.set_cons_succ, Nat.reduceAdd, Nat.reduceSub, Nat.reduceLeDiff, Nat.reduceEqDiff, if_true, if_false, beq_self_eq_true, decide_true, eq_self, reduceCtorEq, Bool.not_true, Bool.not_false, Bool.true_and, Bool.and_true, Bool.false_and, Bool.and_false, Bool.or_true, Bool.true_or, Bool.or_false, Bool.false_or, Bool.false_eq_true, Option.map_some, Option.map_none, Option.bind_some, Option.bind_none, runS, e0, ex, e, q, e1, e2, List.length_map, ixN_nat hv3, ← List.map_set]
    rfl
  · have q : ((us.sum == 0)) = false := by simpa using hs
    refine ⟨us, ds1, ?_, ⟨by omega, by omega, hu, by have := (sum_le hu).1; omega⟩, lu, hv⟩
    unfold m__law_urn d__law_urn
    simp only [refE, roS_da, roS_un, roS_ml, runP, runS, seqS, nextS_ap, asgS, parS, ifS, retS, retN, dropS, raiseS, neverS, contS_ap, breakS_ap, frzS, appS, extS, tgN, tgM, tgs, tgT, tgS, vE, cE, op2, op1, aN, aC, tB', andT, orT, notT, andV, orV, notV, ifE, tupE, lstE, caE, chE, callE, callS, isiE_ap, oN, oS, slE, anyI, rngI, zipI, forS, yesT, cgN, cgT, cgs, whileS, rawL, rawOf, rawL_nil, datL, datL_nil, Rv.dat, GD.toBool, toBool_bool, intOf, intOf_int, ofO, ofO_some, ofO_none, Re.ok_bind, Re.ex_bind, Re.no_bind, Re.pure_eq, addD_int, addD_tup, addD_lst, addD_str, subD_int, negD_int, ltD_int, leD_int, gtD_int, geD_int, isD_none, isD_bool, isNotD_none, isNotD_bool, isNoneD_none, isNoneD_bool, isNoneD_int, isNoneD_str, isNoneD_list, isNoneD_tuple, isNoneD_dict, lenD_lst, lenD_tup, absD_int, intD_int, intD_bool, tupleD_lst, tupleD_tup, listD_lst, listD_tup, itemsOf_lst, itemsOf_tup, zipD_lst, zipD_tup, maxD_int, minD_int, slD_tup, slD_lst, pow_10_18, itemsOf_tupI, isi_tuple, isi_int, isi_bool, isi_str, isi_list, isTup_none, isTup_bool, isTup_int, isTup_str, isTup_list, isTup_tuple, isTup_dict, isWB_none, isWB_bool, isWB_int, isWB_str, isWB_list, isWB_tuple, isWB_dict, isB_none, isB_bool, isB_int, isB_str, isB_list, isB_tuple, isB_dict, isStr_none, isStr_bool, isStr_int, isStr_str, isStr_list, isStr_tuple, isStr_dict, isLst_none, isLst_bool, isLst_int, isLst_str, isLst_list, isLst_tuple, isTupI, sumD_lst, lenD_tupI, sumD_tupI, lenD_drD, eqD_int, neD_int, ixD_tup, ixD_lst, at0, at1, at2, at3, List.length_cons, List.length_nil, List.map_cons, List.map_nil, List.cons_append, List.nil_append, List.replicate, List.getElem?_cons_zero, List.getElem?_cons_succ, List.getElem?_nil, List.set_cons_zero, List.set_cons_succ, Nat.reduceAdd, Nat.reduceSub, Nat.reduceLeDiff, Nat.reduceEqDiff, if_true, if_false, beq_self_eq_true, decide_true, eq_self, reduceCtorEq, Bool.not_true, Bool.not_false, Bool.true_and, Bool.and_true, Bool.false_and, Bool.and_false, Bool.or_true, Bool.true_or, Bool.or_false, Bool.false_or, Bool.false_eq_true, Option.map_some, Option.map_none, Option.bind_some, Option.bind_none, runS, e0, ex, e, q]
    rfl

/-! ### the law's looks -/
theorem law_whole_ev (d : D) (a b : Int) : m__law_whole [d, .int a, .int b] = .ok (.da (.bool (btw d a b))) := by
  unfold m__law_whole d__law_whole; simp only [refE, roS_da, roS_un, roS_ml, runP, runS, seqS, nextS_ap, asgS, parS, ifS, retS, retN, dropS, raiseS, neverS, contS_ap, breakS_ap, frzS, appS, extS, tgN, tgM, tgs, tgT, tgS, vE, cE, op2, op1, aN, aC, tB', andT, orT, notT, andV, orV, notV, ifE, tupE, lstE, caE, chE, callE, callS, isiE_ap, oN, oS, slE, anyI, rngI, zipI, forS, yesT, cgN, cgT, cgs, whileS, rawL, rawOf, rawL_nil, datL, datL_nil, Rv.dat, GD.toBool, toBool_bool, intOf, intOf_int, ofO, ofO_some, ofO_none, Re.ok_bind, Re.ex_bind, Re.no_bind, Re.pure_eq, addD_int, addD_tup, addD_lst, addD_str, subD_int, negD_int, ltD_int, leD_int, gtD_int, geD_int, isD_none, isD_bool, isNotD_none, isNotD_bool, isNoneD_none, isNoneD_bool, isNoneD_int, isNoneD_str, isNoneD_list, isNoneD_tuple, isNoneD_dict, lenD_lst, lenD_tup, absD_int, intD_int, intD_bool, tupleD_lst, tupleD_tup, listD_lst, listD_tup, itemsOf_lst, itemsOf_tup, zipD_lst, zipD_tup, maxD_int, minD_int, slD_tup, slD_lst, pow_10_18, itemsOf_tupI, isi_tuple, isi_int, isi_bool, isi_str, isi_list, isTup_none, isTup_bool, isTup_int, isTup_str, isTup_list, isTup_tuple, isTup_dict, isWB_none, isWB_bool, isWB_int, isWB_str, isWB_list, isWB_tuple, isWB_dict, isB_none, isB_bool, isB_int, isB_str, isB_list, isB_tuple, isB_dict, isStr_none, isStr_bool, isStr_int, isStr_str, isStr_list, isStr_tuple, isStr_dict, isLst_none, isLst_bool, isLst_int, isLst_str, isLst_list, isLst_tuple, isTupI, sumD_lst, lenD_tupI, sumD_tupI, lenD_drD, eqD_int, neD_int, ixD_tup, ixD_lst, at0, at1, at2, at3, List.length_cons, List.length_nil, List.map_cons, List.map_nil, List.cons_append, List.nil_append, List.replicate, List.getElem?_cons_zero, List.getElem?_cons_succ, List.getElem?_nil, List.set_cons_zero, List.set_cons_succ, Nat.reduceAdd, Nat.reduceSub, Nat.reduceLeDiff, Nat.reduceEqDiff, if_true, if_false, beq_self_eq_true, decide_true, eq_self, reduceCtorEq, Bool.not_true, Bool.not_false, Bool.true_and, Bool.and_true, Bool.false_and, Bool.and_false, Bool.or_true, Bool.true_or, Bool.or_false, Bool.false_or, Bool.false_eq_true, Option.map_some, Option.map_none, Option.bind_some, Option.bind_none]
  cases d
  case int x =>
    simp only [refE, roS_da, roS_un, roS_ml, runP, runS, seqS, nextS_ap, asgS, parS, ifS, retS, retN, dropS, raiseS, neverS, contS_ap, breakS_ap, frzS, appS, extS, tgN, tgM, tgs, tgT, tgS, vE, cE, op2, op1, aN, aC, tB', andT, orT, notT, andV, orV, notV, ifE, tupE, lstE, caE, chE, callE, callS, isiE_ap, oN, oS, slE, anyI, rngI, zipI, forS, yesT, cgN, cgT, cgs, whileS, rawL, rawOf, rawL_nil, datL, datL_nil, Rv.dat, GD.toBool, toBool_bool, intOf, intOf_int, ofO, ofO_some, ofO_none, Re.ok_bind, Re.ex_bind, Re.no_bind, Re.pure_eq, addD_int, addD_tup, addD_lst, addD_str, subD_int, negD_int, ltD_int, leD_int, gtD_int, geD_int, isD_none, isD_bool, isNotD_none, isNotD_bool, isNoneD_none, isNoneD_bool, isNoneD_int, isNoneD_str, isNoneD_list, isNoneD_tuple, isNoneD_dict, lenD_lst, lenD_tup, absD_int, intD_int, intD_bool, tupleD_lst, tupleD_tup, listD_lst, listD_tup, itemsOf_lst, itemsOf_tup, zipD_lst, zipD_tup, maxD_int, minD_int, slD_tup, slD_lst, pow_10_18, itemsOf_tupI, isi_tuple, isi_int, isi_bool, isi_str, isi_list, isTup_none, isTup_bool, isTup_int, isTup_str, isTup_list, isTup_tuple, isTup_dict, isWB_none, isWB_bool, isWB_int, isWB_str, isWB_list, isWB_tuple, isWB_dict, isB_none, isB_bool, isB_int, isB_str, isB_list, isB_tuple, isB_dict, isStr_none, isStr_bool, isStr_int, isStr_str, isStr_list, isStr_tuple, isStr_dict, isLst_none, isLst_bool, isLst_int, isLst_str, isLst_list, isLst_tuple, isTupI, sumD_lst, lenD_tupI, sumD_tupI, lenD_drD, eqD_int, neD_int, ixD_tup, ixD_lst, at0, at1, at2, at3, List.length_cons, List.length_nil, List.map_cons, List.map_nil, List.cons_append, List.nil_append, List.replicate, List.getElem?_cons_zero, List.getElem?_cons_succ, List.getElem?_nil, List.set_cons_zero, List.set_cons_succ, Nat.reduceAdd, Nat.reduceSub, Nat.reduceLeDiff, Nat.reduceEqDiff, if_true, if_false, beq_self_eq_true, decide_true, eq_self, reduceCtorEq, Bool.not_true, Bool.not_false, Bool.true_and, Bool.and_true, Bool.false_and, Bool.and_false, Bool.or_true, Bool.true_or, Bool.or_false, Bool.false_or, Bool.false_eq_true, Option.map_some, Option.map_none, Option.bind_some, Option.bind_none, btw]
    cases decide (a ≤ x) <;> rfl
  all_goals (simp only [refE, roS_da, roS_un, roS_ml, runP, runS, seqS, nextS_ap, asgS, parS, ifS, retS, retN, dropS, raiseS, neverS, contS_ap, breakS_ap, frzS, appS, extS, tgN, tgM, tgs, tgT, tgS, vE, cE, op2, op1, aN, aC, tB', andT, orT, notT, andV, orV, notV, ifE, tupE, lstE, caE, chE, callE, callS, isiE_ap, oN, oS, slE, anyI, rngI, zipI, forS, yesT, cgN, cgT, cgs, whileS, rawL, rawOf, rawL_nil, datL, datL_nil, Rv.dat, GD.toBool, toBool_bool, intOf, intOf_int, ofO, ofO_some, ofO_none, Re.ok_bind, Re.ex_bind, Re.no_bind, Re.pure_eq, addD_int, addD_tup, addD_lst, addD_str, subD_int, negD_int, ltD_int, leD_int, gtD_int, geD_int, isD_none, isD_bool, isNotD_none, isNotD_bool, isNoneD_none, isNoneD_bool, isNoneD_int, isNoneD_str, isNoneD_list, isNoneD_tuple, isNoneD_dict, lenD_lst, lenD_tup, absD_int, intD_int, intD_bool, tupleD_lst, tupleD_tup, listD_lst, listD_tup, itemsOf_lst, itemsOf_tup, zipD_lst, zipD_tup, maxD_int, minD_int, slD_tup, slD_lst, pow_10_18, itemsOf_tupI, isi_tuple, isi_int, isi_bool, isi_str, isi_list, isTup_none, isTup_bool, isTup_int, isTup_str, isTup_list, isTup_tuple, isTup_dict, isWB_none, isWB_bool, isWB_int, isWB_str, isWB_list, isWB_tuple, isWB_dict, isB_none, isB_bool, isB_int, isB_str, isB_list, isB_tuple, isB_dict, isStr_none, isStr_bool, isStr_int, isStr_str, isStr_list, isStr_tuple, isStr_dict, isLst_none, isLst_bool, isLst_int, isLst_str, isLst_list, isLst_tuple, isTupI, sumD_lst, lenD_tupI, sumD_tupI, lenD_drD, eqD_int, neD_int, ixD_tup, ixD_lst, at0, at1, at2, at3, List.length_cons, List.length_nil, List.map_cons, List.map_nil, List.cons_append, List.nil_append, List.replicate, List.getElem?_cons_zero, List.getElem?_cons_succ, List.getElem?_nil, List.set_cons_zero, List.set_cons_succ, Nat.reduceAdd, Nat.reduceSub, Nat.reduceLeDiff, Nat.reduceEqDiff, if_true, if_false, beq_self_eq_true, decide_true, eq_self, reduceCtorEq, Bool.not_true, Bool.not_false, Bool.true_and, Bool.and_true, Bool.false_and, Bool.and_false, Bool.or_true, Bool.true_or, Bool.or_false, Bool.false_or, Bool.false_eq_true, Option.map_some, Option.map_none, Option.bind_some, Option.bind_none, btw])
theorem lurn_loop (t : D) : ∀ (xs : List D) (s1 : Sl), ∃ s1', forD (tgN 1) (ifS (notT (tB' (callE m__law_whole (aC (vE 1) (aC (cE (.int 0)) (aC (cE (.int 20)) aN)))))) (retS (cE (.bool false))) nextS) xs [.da t, s1] = if xs.all (btw · 0 20) then .nx [.da t, s1'] else .rt (.da (.bool false)) [.da t, s1']
  | [], s1 => ⟨s1, rfl⟩
  | d :: xs, s1 => by
    unfold forD
    cases h : btw d 0 20
    · exact ⟨.da d, by simp only [refE, roS_da, roS_un, roS_ml, runP, runS, seqS, nextS_ap, asgS, parS, ifS, retS, retN, dropS, raiseS, neverS, contS_ap, breakS_ap, frzS, appS, extS, tgN, tgM, tgs, tgT, tgS, vE, cE, op2, op1, aN, aC, tB', andT, orT, notT, andV, orV, notV, ifE, tupE, lstE, caE, chE, callE, callS, isiE_ap, oN, oS, slE, anyI, rngI, zipI, forS, yesT, cgN, cgT, cgs, whileS, rawL, rawOf, rawL_nil, datL, datL_nil, Rv.dat, GD.toBool, toBool_bool, intOf, intOf_int, ofO, ofO_some, ofO_none, Re.ok_bind, Re.ex_bind, Re.no_bind, Re.pure_eq, addD_int, addD_tup, addD_lst, addD_str, subD_int, negD_int, ltD_int, leD_int, gtD_int, geD_int, isD_none, isD_bool, isNotD_none, isNotD_bool, isNoneD_none, isNoneD_bool, isNoneD_int, isNoneD_str, isNoneD_list, isNoneD_tuple, isNoneD_dict, lenD_lst, lenD_tup, absD_int, intD_int, intD_bool, tupleD_lst, tupleD_tup, listD_lst, listD_tup, itemsOf_lst, itemsOf_tup, zipD_lst, zipD_tup, maxD_int, minD_int, slD_tup, slD_lst, pow_10_18, itemsOf_tupI, isi_tuple, isi_int, isi_bool, isi_str, isi_list, isTup_none, isTup_bool, isTup_int, isTup_str, isTup_list, isTup_tuple, isTup_dict, isWB_none, isWB_bool, isWB_int, isWB_str, isWB_list, isWB_tuple, isWB_dict, isB_none, isB_bool, isB_int, isB_str, isB_list, isB_tuple, isB_dict, isStr_none, isStr_bool, isStr_int, isStr_str, isStr_list, isStr_tuple, isStr_dict, isLst_none, isLst_bool, isLst_int, isLst_str, isLst_list, isLst_tuple, isTupI, sumD_lst, lenD_tupI, sumD_tupI, lenD_drD, eqD_int, neD_int, ixD_tup, ixD_lst, at0, at1, at2, at3, List.length_cons, List.length_nil, List.map_cons, List.map_nil, List.cons_append, List.nil_append, List.replicate, List.getElem?_cons_zero, List.getElem?_cons_succ, List.getElem?_nil, List.set_cons_zero, List.set_cons_succ, Nat.reduceAdd, Nat.reduceSub, Nat.reduceLeDiff, Nat.reduceEqDiff, if_true, if_false, beq_self_eq_true, decide_true, eq_self, reduceCtorEq, Bool.not_true, Bool.not_false, Bool.true_and, Bool.and_true, Bool.false_and, Bool.and_false, Bool.or_true, Bool.true_or, Bool.or_false, Bool.false_or, Bool.false_eq_true, Option.map_some, Option.map_none, Option.bind_some, Option.bind_none, law_whole_ev, h, List.all_cons]⟩
    · obtain ⟨s', ih⟩ := lurn_loop t xs (.da d)
      exact ⟨s', by simp only [refE, roS_da, roS_un, roS_ml, runP, runS, seqS, nextS_ap, asgS, parS, ifS, retS, retN, dropS, raiseS, neverS, contS_ap, breakS_ap, frzS, appS, extS, tgN, tgM, tgs, tgT, tgS, vE, cE, op2, op1, aN, aC, tB', andT, orT, notT, andV, orV, notV, ifE, tupE, lstE, caE, chE, callE, callS, isiE_ap, oN, oS, slE, anyI, rngI, zipI, forS, yesT, cgN, cgT, cgs, whileS, rawL, rawOf, rawL_nil, datL, datL_nil, Rv.dat, GD.toBool, toBool_bool, intOf, intOf_int, ofO, ofO_some, ofO_none, Re.ok_bind, Re.ex_bind, Re.no_bind, Re.pure_eq, addD_int, addD_tup, addD_lst, addD_str, subD_int, negD_int, ltD_int, leD_int, gtD_int, geD_int, isD_none, isD_bool, isNotD_none, isNotD_bool, isNoneD_none, isNoneD_bool, isNoneD_int, isNoneD_str, isNoneD_list, isNoneD_tuple, isNoneD_dict, lenD_lst, lenD_tup, absD_int, intD_int, intD_bool, tupleD_lst, tupleD_tup, listD_lst, listD_tup, itemsOf_lst, itemsOf_tup, zipD_lst, zipD_tup, maxD_int, minD_int, slD_tup, slD_lst, pow_10_18, itemsOf_tupI, isi_tuple, isi_int, isi_bool, isi_str, isi_list, isTup_none, isTup_bool, isTup_int, isTup_str, isTup_list, isTup_tuple, isTup_dict, isWB_none, isWB_bool, isWB_int, isWB_str, isWB_list, isWB_tuple, isWB_dict, isB_none, isB_bool, isB_int, isB_str, isB_list, isB_tuple, isB_dict, isStr_none, isStr_bool, isStr_int, isStr_str, isStr_list, isStr_tuple, isStr_dict, isLst_none, isLst_bool, isLst_int, isLst_str, isLst_list, isLst_tuple, isTupI, sumD_lst, lenD_tupI, sumD_tupI, lenD_drD, eqD_int, neD_int, ixD_tup, ixD_lst, at0, at1, at2, at3, List.length_cons, List.length_nil, List.map_cons, List.map_nil, List.cons_append, List.nil_append, List.replicate, List.getElem?_cons_zero, List.getElem?_cons_succ, List.getElem?_nil, List.set_cons_zero, List.set_cons_succ, Nat.reduceAdd, Nat.reduceSub, Nat.reduceLeDiff, Nat.reduceEqDiff, if_true, if_false, beq_self_eq_true, decide_true, eq_self, reduceCtorEq, Bool.not_true, Bool.not_false, Bool.true_and, Bool.and_true, Bool.false_and, Bool.and_false, Bool.or_true, Bool.true_or, Bool.or_false, Bool.false_or, Bool.false_eq_true, Option.map_some, Option.map_none, Option.bind_some, Option.bind_none, law_whole_ev, h, List.all_cons]; exact ih⟩
theorem maxL_pos : ∀ {ns : List Int}, ns ≠ [] → (∀ x ∈ ns, 0 ≤ x) → (0 < maxL ns ↔ 0 < ns.sum)
  | [], h, _ => absurd rfl h
  | [x], _, _ => by simp [maxL]
  | x :: y :: r, _, h => by
    have h0 := h x (by simp)
    have ih := maxL_pos (ns := y :: r) (by simp) (fun z hz => h z (List.mem_cons_of_mem _ hz))
    have hs : 0 ≤ (y :: r).sum := by
      have : ∀ {vs : List Int}, (∀ x ∈ vs, 0 ≤ x) → 0 ≤ vs.sum := by
        intro vs
        induction vs with
        | nil => simp
        | cons a as ih => intro q; have := q a (by simp); have := ih (fun x hx => q x (by simp [hx])); simp only [List.sum_cons]; omega
      exact this (fun z hz => h z (List.mem_cons_of_mem _ hz))
    show 0 < (if x < maxL (y :: r) then maxL (y :: r) else x) ↔ 0 < x + (y :: r).sum
    split <;> omega
theorem law_is_urn_ev (d : D) : m__law_is_urn [d] = .ok (.da (.bool (isUrn d))) := by
  unfold m__law_is_urn d__law_is_urn
  cases d
  case tuple xs =>
    obtain ⟨s1, h⟩ := lurn_loop (.tuple xs) xs .un
    by_cases h1 : (1 : Int) ≤ xs.length
    · by_cases h2 : (xs.length : Int) ≤ 4
      · cases h3 : xs.all (btw · 0 20)
        · rw [h3] at h
          simp only [refE, roS_da, roS_un, roS_ml, runP, runS, seqS, nextS_ap, asgS, parS, ifS, retS, retN, dropS, raiseS, neverS, contS_ap, breakS_ap, frzS, appS, extS, tgN, tgM, tgs, tgT, tgS, vE, cE, op2, op1, aN, aC, tB', andT, orT, notT, andV, orV, notV, ifE, tupE, lstE, caE, chE, callE, callS, isiE_ap, oN, oS, slE, anyI, rngI, zipI, forS, yesT, cgN, cgT, cgs, whileS, rawL, rawOf, rawL_nil, datL, datL_nil, Rv.dat, GD.toBool, toBool_bool, intOf, intOf_int, ofO, ofO_some, ofO_none, Re.ok_bind, Re.ex_bind, Re.no_bind, Re.pure_eq, addD_int, addD_tup, addD_lst, addD_str, subD_int, negD_int, ltD_int, leD_int, gtD_int, geD_int, isD_none, isD_bool, isNotD_none, isNotD_bool, isNoneD_none, isNoneD_bool, isNoneD_int, isNoneD_str, isNoneD_list, isNoneD_tuple, isNoneD_dict, lenD_lst, lenD_tup, absD_int, intD_int, intD_bool, tupleD_lst, tupleD_tup, listD_lst, listD_tup, itemsOf_lst, itemsOf_tup, zipD_lst, zipD_tup, maxD_int, minD_int, slD_tup, slD_lst, pow_10_18, itemsOf_tupI, isi_tuple, isi_int, isi_bool, isi_str, isi_list, isTup_none, isTup_bool, isTup_int, isTup_str, isTup_list, isTup_tuple, isTup_dict, isWB_none, isWB_bool, isWB_int, isWB_str, isWB_list, isWB_tuple, isWB_dict, isB_none, isB_bool, isB_int, isB_str, isB_list, isB_tuple, isB_dict, isStr_none, isStr_bool, isStr_int, isStr_str, isStr_list, isStr_tuple, isStr_dict, isLst_none, isLst_bool, isLst_int, isLst_str, isLst_list, isLst_tuple, isTupI, sumD_lst, lenD_tupI, sumD_tupI, lenD_drD, eqD_int, neD_int, ixD_tup, ixD_lst, at0, at1, at2, at3, List.length_cons, List.length_nil, List.map_cons, List.map_nil, List.cons_append, List.nil_append, List.replicate, List.getElem?_cons_zero, List.getElem?_cons_succ, List.getElem?_nil, List.set_cons_zero, List.set_cons_succ, Nat.reduceAdd, Nat.reduceSub, Nat.reduceLeDiff, Nat.reduceEqDiff, if_true, if_false, beq_self_eq_true, decide_true, eq_self, reduceCtorEq, Bool.not_true, Bool.not_false, Bool.true_and, Bool.and_true, Bool.false_and, Bool.and_false, Bool.or_true, Bool.true_or, Bool.or_false, Bool.false_or, Bool.false_eq_true, Option.map_some, Option.map_none, Option.bind_some, Option.bind_none, h1, h2, isUrn, h, h3]
        · rw [h3] at h
          obtain ⟨h4, h5⟩ := intsOf_btw h3
          have hne : xs.map iv ≠ [] := by
            intro z
            have := congrArg List.length z
            simp at this
            rw [this] at h1
            simp at h1
          have e : maxD [.tuple xs] = some (.da (.int (maxL (xs.map iv)))) := by
            show (intsOf xs).bind _ = _
            rw [h4]
            show (if xs.map iv = [] then none else some _) = _
            rw [if_neg hne]
          have nn : ∀ x ∈ xs.map iv, 0 ≤ x := by
            intro x hx
            obtain ⟨y, hy, rfl⟩ := List.mem_map.mp hx
            have := List.all_eq_true.mp h3 y hy
            cases y <;> simp [btw, iv] at this ⊢
            omega
          have e2 : decide (0 < maxL (xs.map iv)) = decide (0 < (xs.map iv).sum) := decide_eq_decide.mpr (maxL_pos hne nn)
          simp only [refE, roS_da, roS_un, roS_ml, runP, runS, seqS, nextS_ap, asgS, parS, ifS, retS, retN, dropS, raiseS, neverS, contS_ap, breakS_ap, frzS, appS, extS, tgN, tgM, tgs, tgT, tgS, vE, cE, op2, op1, aN, aC, tB', andT, orT, notT, andV, orV, notV, ifE, tupE, lstE, caE, chE, callE, callS, isiE_ap, oN, oS, slE, anyI, rngI, zipI, forS, yesT, cgN, cgT, cgs, whileS, rawL, rawOf, rawL_nil, datL, datL_nil, Rv.dat, GD.toBool, toBool_bool, intOf, intOf_int, ofO, ofO_some, ofO_none, Re.ok_bind, Re.ex_bind, Re.no_bind, Re.pure_eq, addD_int, addD_tup, addD_lst, addD_str, subD_int, negD_int, ltD_int, leD_int, gtD_int, geD_int, isD_none, isD_bool, isNotD_none, isNotD_bool, isNoneD_none, isNoneD_bool, isNoneD_int, isNoneD_str, isNoneD_list, isNoneD_tuple, isNoneD_dict, lenD_lst, lenD_tup, absD_int, intD_int, intD_bool, tupleD_lst, tupleD_tup, listD_lst, listD_tup, itemsOf_lst, itemsOf_tup, zipD_lst, zipD_tup, maxD_int, minD_int, slD_tup, slD_lst, pow_10_18, itemsOf_tupI, isi_tuple, isi_int, isi_bool, isi_str, isi_list, isTup_none, isTup_bool, isTup_int, isTup_str, isTup_list, isTup_tuple, isTup_dict, isWB_none, isWB_bool, isWB_int, isWB_str, isWB_list, isWB_tuple, isWB_dict, isB_none, isB_bool, isB_int, isB_str, isB_list, isB_tuple, isB_dict, isStr_none, isStr_bool, isStr_int, isStr_str, isStr_list, isStr_tuple, isStr_dict, isLst_none, isLst_bool, isLst_int, isLst_str, isLst_list, isLst_tuple, isTupI, sumD_lst, lenD_tupI, sumD_tupI, lenD_drD, eqD_int, neD_int, ixD_tup, ixD_lst, at0, at1, at2, at3, List.length_cons, List.length_nil, List.map_cons, List.map_nil, List.cons_append, List.nil_append, List.replicate, List.getElem?_cons_zero, List.getElem?_cons_succ, List.getElem?_nil, List.set_cons_zero, List.set_cons_succ, Nat.reduceAdd, Nat.reduceSub, Nat.reduceLeDiff, Nat.reduceEqDiff, if_true, if_false, beq_self_eq_true, decide_true, eq_self, reduceCtorEq, Bool.not_true, Bool.not_false, Bool.true_and, Bool.and_true, Bool.false_and, Bool.and_false, Bool.or_true, Bool.true_or, Bool.or_false, Bool.false_or, Bool.false_eq_true, Option.map_some, Option.map_none, Option.bind_some, Option.bind_none, h1, h2, isUrn, h, h3, e, e2]
      · simp only [refE, roS_da, roS_un, roS_ml, runP, runS, seqS, nextS_ap, asgS, parS, ifS, retS, retN, dropS, raiseS, neverS, contS_ap, breakS_ap, frzS, appS, extS, tgN, tgM, tgs, tgT, tgS, vE, cE, op2, op1, aN, aC, tB', andT, orT, notT, andV, orV, notV, ifE, tupE, lstE, caE, chE, callE, callS, isiE_ap, oN, oS, slE, anyI, rngI, zipI, forS, yesT, cgN, cgT, cgs, whileS, rawL, rawOf, rawL_nil, datL, datL_nil, Rv.dat, GD.toBool, toBool_bool, intOf, intOf_int, ofO, ofO_some, ofO_none, Re.ok_bind, Re.ex_bind, Re.no_bind, Re.pure_eq, addD_int, addD_tup, addD_lst, addD_str, subD_int, negD_int, ltD_int, leD_int, gtD_int, geD_int, isD_none, isD_bool, isNotD_none, isNotD_bool, isNoneD_none, isNoneD_bool, isNoneD_int, isNoneD_str, isNoneD_list, isNoneD_tuple, isNoneD_dict, lenD_lst, lenD_tup, absD_int, intD_int, intD_bool, tupleD_lst, tupleD_tup, listD_lst, listD_tup, itemsOf_lst, itemsOf_tup, zipD_lst, zipD_tup, maxD_int, minD_int, slD_tup, slD_lst, pow_10_18, itemsOf_tupI, isi_tuple, isi_int, isi_bool, isi_str, isi_list, isTup_none, isTup_bool, isTup_int, isTup_str, isTup_list, isTup_tuple, isTup_dict, isWB_none, isWB_bool, isWB_int, isWB_str, isWB_list, isWB_tuple, isWB_dict, isB_none, isB_bool, isB_int, isB_str, isB_list, isB_tuple, isB_dict, isStr_none, isStr_bool, isStr_int, isStr_str, isStr_list, isStr_tuple, isStr_dict, isLst_none, isLst_bool, isLst_int, isLst_str, isLst_list, isLst_tuple, isTupI, sumD_lst, lenD_tupI, sumD_tupI, lenD_drD, eqD_int, neD_int, ixD_tup, ixD_lst, at0, at1, at2, at3, List.length_cons, List.length_nil, List.map_cons, List.map_nil, List.cons_append, List.nil_append, List.replicate, List.getElem?_cons_zero, List.getElem?_cons_succ, List.getElem?_nil, List.set_cons_zero, List.set_cons_succ, Nat.reduceAdd, Nat.reduceSub, Nat.reduceLeDiff, Nat.reduceEqDiff, if_true, if_false, beq_self_eq_true, decide_true, eq_self, reduceCtorEq, Bool.not_true, Bool.not_false, Bool.true_and, Bool.and_true, Bool.false_and, Bool.and_false, Bool.or_true, Bool.true_or, Bool.or_false, Bool.false_or, Bool.false_eq_true, Option.map_some, Option.map_none, Option.bind_some, Option.bind_none, h1, isUrn, decide_eq_false h2]
    · simp only [refE, roS_da, roS_un, roS_ml, runP, runS, seqS, nextS_ap, asgS, parS, ifS, retS, retN, dropS, raiseS, neverS, contS_ap, breakS_ap, frzS, appS, extS, tgN, tgM, tgs, tgT, tgS, vE, cE, op2, op1, aN, aC, tB', andT, orT, notT, andV, orV, notV, ifE, tupE, lstE, caE, chE, callE, callS, isiE_ap, oN, oS, slE, anyI, rngI, zipI, forS, yesT, cgN, cgT, cgs, whileS, rawL, rawOf, rawL_nil, datL, datL_nil, Rv.dat, GD.toBool, toBool_bool, intOf, intOf_int, ofO, ofO_some, ofO_none, Re.ok_bind, Re.ex_bind, Re.no_bind, Re.pure_eq, addD_int, addD_tup, addD_lst, addD_str, subD_int, negD_int, ltD_int, leD_int, gtD_int, geD_int, isD_none, isD_bool, isNotD_none, isNotD_bool, isNoneD_none, isNoneD_bool, isNoneD_int, isNoneD_str, isNoneD_list, isNoneD_tuple, isNoneD_dict, lenD_lst, lenD_tup, absD_int, intD_int, intD_bool, tupleD_lst, tupleD_tup, listD_lst, listD_tup, itemsOf_lst, itemsOf_tup, zipD_lst, zipD_tup, maxD_int, minD_int, slD_tup, slD_lst, pow_10_18, itemsOf_tupI, isi_tuple, isi_int, isi_bool, isi_str, isi_list, isTup_none, isTup_bool, isTup_int, isTup_str, isTup_list, isTup_tuple, isTup_dict, isWB_none, isWB_bool, isWB_int, isWB_str, isWB_list, isWB_tuple, isWB_dict, isB_none, isB_bool, isB_int, isB_str, isB_list, isB_tuple, isB_dict, isStr_none, isStr_bool, isStr_int, isStr_str, isStr_list, isStr_tuple, isStr_dict, isLst_none, isLst_bool, isLst_int, isLst_str, isLst_list, isLst_tuple, isTupI, sumD_lst, lenD_tupI, sumD_tupI, lenD_drD, eqD_int, neD_int, ixD_tup, ixD_lst, at0, at1, at2, at3, List.length_cons, List.length_nil, List.map_cons, List.map_nil, List.cons_append, List.nil_append, List.replicate, List.getElem?_cons_zero, List.getElem?_cons_succ, List.getElem?_nil, List.set_cons_zero, List.set_cons_succ, Nat.reduceAdd, Nat.reduceSub, Nat.reduceLeDiff, Nat.reduceEqDiff, if_true, if_false, beq_self_eq_true, decide_true, eq_self, reduceCtorEq, Bool.not_true, Bool.not_false, Bool.true_and, Bool.and_true, Bool.false_and, Bool.and_false, Bool.or_true, Bool.true_or, Bool.or_false, Bool.false_or, Bool.false_eq_true, Option.map_some, Option.map_none, Option.bind_some, Option.bind_none, isUrn, decide_eq_false h1]
  all_goals (simp only [refE, roS_da, roS_un, roS_ml, runP, runS, seqS, nextS_ap, asgS, parS, ifS, retS, retN, dropS, raiseS, neverS, contS_ap, breakS_ap, frzS, appS, extS, tgN, tgM, tgs, tgT, tgS, vE, cE, op2, op1, aN, aC, tB', andT, orT, notT, andV, orV, notV, ifE, tupE, lstE, caE, chE, callE, callS, isiE_ap, oN, oS, slE, anyI, rngI, zipI, forS, yesT, cgN, cgT, cgs, whileS, rawL, rawOf, rawL_nil, datL, datL_nil, Rv.dat, GD.toBool, toBool_bool, intOf, intOf_int, ofO, ofO_some, ofO_none, Re.ok_bind, Re.ex_bind, Re.no_bind, Re.pure_eq, addD_int, addD_tup, addD_lst, addD_str, subD_int, negD_int, ltD_int, leD_int, gtD_int, geD_int, isD_none, isD_bool, isNotD_none, isNotD_bool, isNoneD_none, isNoneD_bool, isNoneD_int, isNoneD_str, isNoneD_list, isNoneD_tuple, isNoneD_dict, lenD_lst, lenD_tup, absD_int, intD_int, intD_bool, tupleD_lst, tupleD_tup, listD_lst, listD_tup, itemsOf_lst, itemsOf_tup, zipD_lst, zipD_tup, maxD_int, minD_int, slD_tup, slD_lst, pow_10_18, itemsOf_tupI, isi_tuple, isi_int, isi_bool, isi_str, isi_list, isTup_none, isTup_bool, isTup_int, isTup_str, isTup_list, isTup_tuple, isTup_dict, isWB_none, isWB_bool, isWB_int, isWB_str, isWB_list, isWB_tuple, isWB_dict, isB_none, isB_bool, isB_int, isB_str, isB_list, isB_tuple, isB_dict, isStr_none, isStr_bool, isStr_int, isStr_str, isStr_list, isStr_tuple, isStr_dict, isLst_none, isLst_bool, isLst_int, isLst_str, isLst_list, isLst_tuple, isTupI, sumD_lst, lenD_tupI, sumD_tupI, lenD_drD, eqD_int, neD_int, ixD_tup, ixD_lst, at0, at1, at2, at3, List.length_cons, List.length_nil, List.map_cons, List.map_nil, List.cons_append, List.nil_append, List.replicate, List.getElem?_cons_zero, List.getElem?_cons_succ, List.getElem?_nil, List.set_cons_zero, List.set_cons_succ, Nat.reduceAdd, Nat.reduceSub, Nat.reduceLeDiff, Nat.reduceEqDiff, if_true, if_false, beq_self_eq_true, decide_true, eq_self, reduceCtorEq, Bool.not_true, Bool.not_false, Bool.true_and, Bool.and_true, Bool.false_and, Bool.and_false, Bool.or_true, Bool.true_or, Bool.or_false, Bool.false_or, Bool.false_eq_true, Option.map_some, Option.map_none, Option.bind_some, Option.bind_none, isUrn])
/-! ### things that are none -/
theorem bent_urn_ev {ds : List D} {xs : List D} (h : Val ds) (h4 : xs.length ≤ 4) : ∃ d ds', m__law_bent_urn ds [.tuple xs] = .ok (d, ds') ∧ Val ds' := by
  obtain ⟨v, d0, e0, hv0, h0⟩ := take_ev h (n := (xs.length : Int) + 1) (by omega) (by omega)
  obtain ⟨w, d1, e1, hw, h1⟩ := take_ev h0 (n := 10) (by decide) (by decide)
  obtain ⟨x, _, ex⟩ := ix_lt (xs := [.int 21, .int (-1), .bool true, .bool false, .none, .str "1", .tuple [.int 1], .int 100000000000000000000000000000, .int 20, .int 0]) (v := w) (by simp; omega)
  obtain ⟨y, d2, e2, hy, h2⟩ := take_ev h1 (n := 13) (by decide) (by decide)
  obtain ⟨j, hj, ez⟩ := ix_small (xs := [.int 0, .int 0, .int 0, .int 0, .int 1, .int 2, .int 3, .int 4, .int 5, .int 6, .int 7, .int 8, .int 9]) (b := 9) (v := y) rfl (by simp; omega)
  have v1 : ((v : Int) + 1) = ((v + 1 : Nat) : Int) := by omega
  have t1 : (xs.take v).length ≤ 4 := Nat.le_trans (List.length_take_le _ _) (by omega)
  have t2 : (xs.drop v).length ≤ 4 := by rw [List.length_drop]; omega
  have t3 : (xs.drop (v + 1)).length ≤ 4 := by rw [List.length_drop]; omega
  have mz : mulD (.tuple [.int 0]) (.int (xs.length : Int)) = some (.da (.tuple (List.replicate xs.length (.int 0)))) := mulD_tup1 _ (by omega)
  obtain ⟨d, _, ed⟩ := ix_lt (xs := [.tuple (xs.take v ++ [x] ++ xs.drop (v + 1)), .tuple (xs.take v ++ [x] ++ xs.drop v), .tuple (xs.take v ++ xs.drop (v + 1)), .list xs] ++ [.tuple (List.replicate xs.length (.int 0)), .none, .dict [], .list [x], .tuple [.tuple xs], .tuple (xs ++ xs ++ [.int 1])]) (v := j) (by simp; omega)
  refine ⟨d, d2, ?_, h2⟩
  simp only [List.cons_append, List.nil_append, List.append_assoc] at ed
  unfold m__law_bent_urn d__law_bent_urn
  simp (disch := ((try simp only [List.length_append, List.length_cons, List.length_nil, List.length_map, List.length_replicate, List.length_range]); omega)) only [refE, roS_da, roS_un, roS_ml, runP, runS, seqS, nextS_ap, asgS, parS, ifS, retS, retN, dropS, raiseS, neverS, contS_ap, breakS_ap, frzS, appS, extS, tgN, tgM, tgs, tgT, tgS, vE, cE, op2, op1, aN, aC, tB', andT, orT, notT, andV, orV, notV, ifE, tupE, lstE, caE, chE, callE, callS, isiE_ap, oN, oS, slE, anyI, rngI, zipI, forS, yesT, cgN, cgT, cgs, whileS, rawL, rawOf, rawL_nil, datL, datL_nil, Rv.dat, GD.toBool, toBool_bool, intOf, intOf_int, ofO, ofO_some, ofO_none, Re.ok_bind, Re.ex_bind, Re.no_bind, Re.pure_eq, addD_int, addD_tup_ok, addD_lst_ok, addD_str, subD_int, negD_int, ltD_int, leD_int, gtD_int, geD_int, isD_none, isD_bool, isNotD_none, isNotD_bool, isNoneD_none, isNoneD_bool, isNoneD_int, isNoneD_str, isNoneD_list, isNoneD_tuple, isNoneD_dict, lenD_lst, lenD_tup, absD_int, intD_int, intD_bool, tupleD_lst, tupleD_tup, listD_lst, listD_tup, itemsOf_lst, itemsOf_tup, zipD_lst, zipD_tup, maxD_int, minD_int, slD_tup, slD_lst, pow_10_18, itemsOf_tupI, isi_tuple, isi_int, isi_bool, isi_str, isi_list, isTup_none, isTup_bool, isTup_int, isTup_str, isTup_list, isTup_tuple, isTup_dict, isWB_none, isWB_bool, isWB_int, isWB_str, isWB_list, isWB_tuple, isWB_dict, isB_none, isB_bool, isB_int, isB_str, isB_list, isB_tuple, isB_dict, isStr_none, isStr_bool, isStr_int, isStr_str, isStr_list, isStr_tuple, isStr_dict, isLst_none, isLst_bool, isLst_int, isLst_str, isLst_list, isLst_tuple, isTupI, sumD_lst, lenD_tupI, sumD_tupI, lenD_drD, eqD_int, neD_int, ixD_tup, ixD_lst, at0, at1, at2, at3, List.length_cons, List.length_nil, List.map_cons, List.map_nil, List.cons_append, List.nil_append, List.replicate, List.getElem?_cons_zero, List.getElem?_cons_succ, List.getElem?_nil, List.set_cons_zero, List.set_cons_succ, Nat.reduceAdd, Nat.reduceSub, Nat.reduceLeDiff, Nat.reduceEqDiff, if_true, if_false, beq_self_eq_true, decide_true, eq_self, reduceCtorEq, Bool.not_true, Bool.not_false, Bool.true_and, Bool.and_true, Bool.false_and, Bool.and_false, Bool.or_true, Bool.true_or, Bool.or_false, Bool.false_or, Bool.false_eq_true, Option.map_some, Option.map_none, Option.bind_some, Option.bind_none, runS, e0, pow_10_29, e1, ex, v1, cutD_to, cutD_from, mz, e2, ez, List.append_assoc, ed]
/-! ### the same -/
theorem zip_self {α : Type} : ∀ xs : List α, xs.zip xs = xs.map fun x => (x, x)
  | [] => rfl
  | x :: xs => by rw [List.zip_cons_cons, zip_self xs, List.map_cons]
def gd : Nat → D → Prop
  | 0, _ => False
  | _ + 1, .int _ => True
  | _ + 1, .bool _ => True
  | _ + 1, .none => True
  | n + 1, .tuple xs => xs.length ≤ 1000000 ∧ ∀ x ∈ xs, gd n x
  | n + 1, .list xs => xs.length ≤ 1000000 ∧ ∀ x ∈ xs, gd n x
  | _ + 1, _ => False
theorem eqD_boolself (b : Bool) : eqD (.bool b) (.bool b) = some (.da (.bool true)) := by simp [eqD]
theorem neD_boolself (b : Bool) : neD (.bool b) (.bool b) = some (.da (.bool false)) := by simp [neD]
theorem eqD_intself (b : Int) : eqD (.int b) (.int b) = some (.da (.bool true)) := by simp [eqD]
theorem eqD_noneself : eqD .none .none = some (.da (.bool true)) := by simp [eqD]
theorem same_self : ∀ (n : Nat) (d : D), gd n d → m__law_same n [d, d] = .ok (.da (.bool true))
  | 0, d, h => by simp [gd] at h
  | n + 1, d, h => by
    have all_t : ∀ xs : List D, ((xs.map fun x => (x, x)).map fun _ : D × D => PyData.bool true) = xs.map fun _ => PyData.bool true := fun xs => by simp
    have L : ∀ (xs : List D) (d : D), xs.length ≤ 1000000 → (∀ x ∈ xs, gd n x) → (zipI (aC (vE 0) (aC (vE 1) aN)) [.da d, .da d, .un, .un] = .ok ((xs.map fun x => (x, x)).map (fun p => PyData.tuple [p.1, p.2]), [.da d, .da d, .un, .un])) →
        lcE (zipI (aC (vE 0) (aC (vE 1) aN))) (cgT [(cgN 2), (cgN 3)]) yesT (callE (m__law_same n) (aC (vE 2) (aC (vE 3) aN))) [2, 3] [.da d, .da d, .un, .un] = .ok (.fl ((xs.map fun x => (x, x)).map fun p => .bool ((fun _ => true) p)), [.da d, .da d, .un, .un]) := fun xs d hl ha hz => by
      refine lc_map2 (h := fun p => .bool ((fun _ => true) p)) (by decide) hz (by simpa using hl) ?_
      rintro p hp
      obtain ⟨x, hx, rfl⟩ := List.mem_map.mp hp
      exact ⟨.da (.bool true), by simp only [refE, roS_da, roS_un, roS_ml, runP, runS, seqS, nextS_ap, asgS, parS, ifS, retS, retN, dropS, raiseS, neverS, contS_ap, breakS_ap, frzS, appS, extS, tgN, tgM, tgs, tgT, tgS, vE, cE, op2, op1, aN, aC, tB', andT, orT, notT, andV, orV, notV, ifE, tupE, lstE, caE, chE, callE, callS, isiE_ap, oN, oS, slE, anyI, rngI, zipI, forS, yesT, cgN, cgT, cgs, whileS, rawL, rawOf, rawL_nil, datL, datL_nil, Rv.dat, GD.toBool, toBool_bool, intOf, intOf_int, ofO, ofO_some, ofO_none, Re.ok_bind, Re.ex_bind, Re.no_bind, Re.pure_eq, addD_int, addD_tup, addD_lst, addD_str, subD_int, negD_int, ltD_int, leD_int, gtD_int, geD_int, isD_none, isD_bool, isNotD_none, isNotD_bool, isNoneD_none, isNoneD_bool, isNoneD_int, isNoneD_str, isNoneD_list, isNoneD_tuple, isNoneD_dict, lenD_lst, lenD_tup, absD_int, intD_int, intD_bool, tupleD_lst, tupleD_tup, listD_lst, listD_tup, itemsOf_lst, itemsOf_tup, zipD_lst, zipD_tup, maxD_int, minD_int, slD_tup, slD_lst, pow_10_18, itemsOf_tupI, isi_tuple, isi_int, isi_bool, isi_str, isi_list, isTup_none, isTup_bool, isTup_int, isTup_str, isTup_list, isTup_tuple, isTup_dict, isWB_none, isWB_bool, isWB_int, isWB_str, isWB_list, isWB_tuple, isWB_dict, isB_none, isB_bool, isB_int, isB_str, isB_list, isB_tuple, isB_dict, isStr_none, isStr_bool, isStr_int, isStr_str, isStr_list, isStr_tuple, isStr_dict, isLst_none, isLst_bool, isLst_int, isLst_str, isLst_list, isLst_tuple, isTupI, sumD_lst, lenD_tupI, sumD_tupI, lenD_drD, eqD_int, neD_int, ixD_tup, ixD_lst, at0, at1, at2, at3, List.length_cons, List.length_nil, List.map_cons, List.map_nil, List.cons_append, List.nil_append, List.replicate, List.getElem?_cons_zero, List.getElem?_cons_succ, List.getElem?_nil, List.set_cons_zero, List.set_cons_succ, Nat.reduceAdd, Nat.reduceSub, Nat.reduceLeDiff, Nat.reduceEqDiff, if_true, if_false, beq_self_eq_true, decide_true, eq_self, reduceCtorEq, Bool.not_true, Bool.not_false, Bool.true_and, Bool.and_true, Bool.false_and, Bool.and_false, Bool.or_true, Bool.true_or, Bool.or_false, Bool.false_or, Bool.false_eq_true, Option.map_some, Option.map_none, Option.bind_some, Option.bind_none, same_self n x (ha x hx)], rfl⟩
    unfold m__law_same d__law_same
    match d, h with
    | .int i, _ => simp only [refE, roS_da, roS_un, roS_ml, runP, runS, seqS, nextS_ap, asgS, parS, ifS, retS, retN, dropS, raiseS, neverS, contS_ap, breakS_ap, frzS, appS, extS, tgN, tgM, tgs, tgT, tgS, vE, cE, op2, op1, aN, aC, tB', andT, orT, notT, andV, orV, notV, ifE, tupE, lstE, caE, chE, callE, callS, isiE_ap, oN, oS, slE, anyI, rngI, zipI, forS, yesT, cgN, cgT, cgs, whileS, rawL, rawOf, rawL_nil, datL, datL_nil, Rv.dat, GD.toBool, toBool_bool, intOf, intOf_int, ofO, ofO_some, ofO_none, Re.ok_bind, Re.ex_bind, Re.no_bind, Re.pure_eq, addD_int, addD_tup, addD_lst, addD_str, subD_int, negD_int, ltD_int, leD_int, gtD_int, geD_int, isD_none, isD_bool, isNotD_none, isNotD_bool, isNoneD_none, isNoneD_bool, isNoneD_int, isNoneD_str, isNoneD_list, isNoneD_tuple, isNoneD_dict, lenD_lst, lenD_tup, absD_int, intD_int, intD_bool, tupleD_lst, tupleD_tup, listD_lst, listD_tup, itemsOf_lst, itemsOf_tup, zipD_lst, zipD_tup, maxD_int, minD_int, slD_tup, slD_lst, pow_10_18, itemsOf_tupI, isi_tuple, isi_int, isi_bool, isi_str, isi_list, isTup_none, isTup_bool, isTup_int, isTup_str, isTup_list, isTup_tuple, isTup_dict, isWB_none, isWB_bool, isWB_int, isWB_str, isWB_list, isWB_tuple, isWB_dict, isB_none, isB_bool, isB_int, isB_str, isB_list, isB_tuple, isB_dict, isStr_none, isStr_bool, isStr_int, isStr_str, isStr_list, isStr_tuple, isStr_dict, isLst_none, isLst_bool, isLst_int, isLst_str, isLst_list, isLst_tuple, isTupI, sumD_lst, lenD_tupI, sumD_tupI, lenD_drD, eqD_int, neD_int, ixD_tup, ixD_lst, at0, at1, at2, at3, List.length_cons, List.length_nil, List.map_cons, List.map_nil, List.cons_append, List.nil_append, List.replicate, List.getElem?_cons_zero, List.getElem?_cons_succ, List.getElem?_nil, List.set_cons_zero, List.set_cons_succ, Nat.reduceAdd, Nat.reduceSub, Nat.reduceLeDiff, Nat.reduceEqDiff, if_true, if_false, beq_self_eq_true, decide_true, eq_self, reduceCtorEq, Bool.not_true, Bool.not_false, Bool.true_and, Bool.and_true, Bool.false_and, Bool.and_false, Bool.or_true, Bool.true_or, Bool.or_false, Bool.false_or, Bool.false_eq_true, Option.map_some, Option.map_none, Option.bind_some, Option.bind_none, isi2E, eqD_intself, eqD_boolself]
    | .bool b, _ => simp only [refE, roS_da, roS_un, roS_ml, runP, runS, seqS, nextS_ap, asgS, parS, ifS, retS, retN, dropS, raiseS, neverS, contS_ap, breakS_ap, frzS, appS, extS, tgN, tgM, tgs, tgT, tgS, vE, cE, op2, op1, aN, aC, tB', andT, orT, notT, andV, orV, notV, ifE, tupE, lstE, caE, chE, callE, callS, isiE_ap, oN, oS, slE, anyI, rngI, zipI, forS, yesT, cgN, cgT, cgs, whileS, rawL, rawOf, rawL_nil, datL, datL_nil, Rv.dat, GD.toBool, toBool_bool, intOf, intOf_int, ofO, ofO_some, ofO_none, Re.ok_bind, Re.ex_bind, Re.no_bind, Re.pure_eq, addD_int, addD_tup, addD_lst, addD_str, subD_int, negD_int, ltD_int, leD_int, gtD_int, geD_int, isD_none, isD_bool, isNotD_none, isNotD_bool, isNoneD_none, isNoneD_bool, isNoneD_int, isNoneD_str, isNoneD_list, isNoneD_tuple, isNoneD_dict, lenD_lst, lenD_tup, absD_int, intD_int, intD_bool, tupleD_lst, tupleD_tup, listD_lst, listD_tup, itemsOf_lst, itemsOf_tup, zipD_lst, zipD_tup, maxD_int, minD_int, slD_tup, slD_lst, pow_10_18, itemsOf_tupI, isi_tuple, isi_int, isi_bool, isi_str, isi_list, isTup_none, isTup_bool, isTup_int, isTup_str, isTup_list, isTup_tuple, isTup_dict, isWB_none, isWB_bool, isWB_int, isWB_str, isWB_list, isWB_tuple, isWB_dict, isB_none, isB_bool, isB_int, isB_str, isB_list, isB_tuple, isB_dict, isStr_none, isStr_bool, isStr_int, isStr_str, isStr_list, isStr_tuple, isStr_dict, isLst_none, isLst_bool, isLst_int, isLst_str, isLst_list, isLst_tuple, isTupI, sumD_lst, lenD_tupI, sumD_tupI, lenD_drD, eqD_int, neD_int, ixD_tup, ixD_lst, at0, at1, at2, at3, List.length_cons, List.length_nil, List.map_cons, List.map_nil, List.cons_append, List.nil_append, List.replicate, List.getElem?_cons_zero, List.getElem?_cons_succ, List.getElem?_nil, List.set_cons_zero, List.set_cons_succ, Nat.reduceAdd, Nat.reduceSub, Nat.reduceLeDiff, Nat.reduceEqDiff, if_true, if_false, beq_self_eq_true, decide_true, eq_self, reduceCtorEq, Bool.not_true, Bool.not_false, Bool.true_and, Bool.and_true, Bool.false_and, Bool.and_false, Bool.or_true, Bool.true_or, Bool.or_false, Bool.false_or, Bool.false_eq_true, Option.map_some, Option.map_none, Option.bind_some, Option.bind_none, isi2E, eqD_boolself]
    | .none, _ => simp only [refE, roS_da, roS_un, roS_ml, runP, runS, seqS, nextS_ap, asgS, parS, ifS, retS, retN, dropS, raiseS, neverS, contS_ap, breakS_ap, frzS, appS, extS, tgN, tgM, tgs, tgT, tgS, vE, cE, op2, op1, aN, aC, tB', andT, orT, notT, andV, orV, notV, ifE, tupE, lstE, caE, chE, callE, callS, isiE_ap, oN, oS, slE, anyI, rngI, zipI, forS, yesT, cgN, cgT, cgs, whileS, rawL, rawOf, rawL_nil, datL, datL_nil, Rv.dat, GD.toBool, toBool_bool, intOf, intOf_int, ofO, ofO_some, ofO_none, Re.ok_bind, Re.ex_bind, Re.no_bind, Re.pure_eq, addD_int, addD_tup, addD_lst, addD_str, subD_int, negD_int, ltD_int, leD_int, gtD_int, geD_int, isD_none, isD_bool, isNotD_none, isNotD_bool, isNoneD_none, isNoneD_bool, isNoneD_int, isNoneD_str, isNoneD_list, isNoneD_tuple, isNoneD_dict, lenD_lst, lenD_tup, absD_int, intD_int, intD_bool, tupleD_lst, tupleD_tup, listD_lst, listD_tup, itemsOf_lst, itemsOf_tup, zipD_lst, zipD_tup, maxD_int, minD_int, slD_tup, slD_lst, pow_10_18, itemsOf_tupI, isi_tuple, isi_int, isi_bool, isi_str, isi_list, isTup_none, isTup_bool, isTup_int, isTup_str, isTup_list, isTup_tuple, isTup_dict, isWB_none, isWB_bool, isWB_int, isWB_str, isWB_list, isWB_tuple, isWB_dict, isB_none, isB_bool, isB_int, isB_str, isB_list, isB_tuple, isB_dict, isStr_none, isStr_bool, isStr_int, isStr_str, isStr_list, isStr_tuple, isStr_dict, isLst_none, isLst_bool, isLst_int, isLst_str, isLst_list, isLst_tuple, isTupI, sumD_lst, lenD_tupI, sumD_tupI, lenD_drD, eqD_int, neD_int, ixD_tup, ixD_lst, at0, at1, at2, at3, List.length_cons, List.length_nil, List.map_cons, List.map_nil, List.cons_append, List.nil_append, List.replicate, List.getElem?_cons_zero, List.getElem?_cons_succ, List.getElem?_nil, List.set_cons_zero, List.set_cons_succ, Nat.reduceAdd, Nat.reduceSub, Nat.reduceLeDiff, Nat.reduceEqDiff, if_true, if_false, beq_self_eq_true, decide_true, eq_self, reduceCtorEq, Bool.not_true, Bool.not_false, Bool.true_and, Bool.and_true, Bool.false_and, Bool.and_false, Bool.or_true, Bool.true_or, Bool.or_false, Bool.false_or, Bool.false_eq_true, Option.map_some, Option.map_none, Option.bind_some, Option.bind_none, isi2E, eqD_noneself, eqD_boolself]
    | .tuple xs, ⟨h1, h2⟩ =>
      have l := L xs (.tuple xs) h1 h2 (by simp only [refE, roS_da, roS_un, roS_ml, runP, runS, seqS, nextS_ap, asgS, parS, ifS, retS, retN, dropS, raiseS, neverS, contS_ap, breakS_ap, frzS, appS, extS, tgN, tgM, tgs, tgT, tgS, vE, cE, op2, op1, aN, aC, tB', andT, orT, notT, andV, orV, notV, ifE, tupE, lstE, caE, chE, callE, callS, isiE_ap, oN, oS, slE, anyI, rngI, zipI, forS, yesT, cgN, cgT, cgs, whileS, rawL, rawOf, rawL_nil, datL, datL_nil, Rv.dat, GD.toBool, toBool_bool, intOf, intOf_int, ofO, ofO_some, ofO_none, Re.ok_bind, Re.ex_bind, Re.no_bind, Re.pure_eq, addD_int, addD_tup, addD_lst, addD_str, subD_int, negD_int, ltD_int, leD_int, gtD_int, geD_int, isD_none, isD_bool, isNotD_none, isNotD_bool, isNoneD_none, isNoneD_bool, isNoneD_int, isNoneD_str, isNoneD_list, isNoneD_tuple, isNoneD_dict, lenD_lst, lenD_tup, absD_int, intD_int, intD_bool, tupleD_lst, tupleD_tup, listD_lst, listD_tup, itemsOf_lst, itemsOf_tup, zipD_lst, zipD_tup, maxD_int, minD_int, slD_tup, slD_lst, pow_10_18, itemsOf_tupI, isi_tuple, isi_int, isi_bool, isi_str, isi_list, isTup_none, isTup_bool, isTup_int, isTup_str, isTup_list, isTup_tuple, isTup_dict, isWB_none, isWB_bool, isWB_int, isWB_str, isWB_list, isWB_tuple, isWB_dict, isB_none, isB_bool, isB_int, isB_str, isB_list, isB_tuple, isB_dict, isStr_none, isStr_bool, isStr_int, isStr_str, isStr_list, isStr_tuple, isStr_dict, isLst_none, isLst_bool, isLst_int, isLst_str, isLst_list, isLst_tuple, isTupI, sumD_lst, lenD_tupI, sumD_tupI, lenD_drD, eqD_int, neD_int, ixD_tup, ixD_lst, at0, at1, at2, at3, List.length_cons, List.length_nil, List.map_cons, List.map_nil, List.cons_append, List.nil_append, List.replicate, List.getElem?_cons_zero, List.getElem?_cons_succ, List.getElem?_nil, List.set_cons_zero, List.set_cons_succ, Nat.reduceAdd, Nat.reduceSub, Nat.reduceLeDiff, Nat.reduceEqDiff, if_true, if_false, beq_self_eq_true, decide_true, eq_self, reduceCtorEq, Bool.not_true, Bool.not_false, Bool.true_and, Bool.and_true, Bool.false_and, Bool.and_false, Bool.or_true, Bool.true_or, Bool.or_false, Bool.false_or, Bool.false_eq_true, Option.map_some, Option.map_none, Option.bind_some, Option.bind_none, zip_self])
      simp only [refE, roS_da, roS_un, roS_ml, runP, runS, seqS, nextS_ap, asgS, parS, ifS, retS, retN, dropS, raiseS, neverS, contS_ap, breakS_ap, frzS, appS, extS, tgN, tgM, tgs, tgT, tgS, vE, cE, op2, op1, aN, aC, tB', andT, orT, notT, andV, orV, notV, ifE, tupE, lstE, caE, chE, callE, callS, isiE_ap, oN, oS, slE, anyI, rngI, zipI, forS, yesT, cgN, cgT, cgs, whileS, rawL, rawOf, rawL_nil, datL, datL_nil, Rv.dat, GD.toBool, toBool_bool, intOf, intOf_int, ofO, ofO_some, ofO_none, Re.ok_bind, Re.ex_bind, Re.no_bind, Re.pure_eq, addD_int, addD_tup, addD_lst, addD_str, subD_int, negD_int, ltD_int, leD_int, gtD_int, geD_int, isD_none, isD_bool, isNotD_none, isNotD_bool, isNoneD_none, isNoneD_bool, isNoneD_int, isNoneD_str, isNoneD_list, isNoneD_tuple, isNoneD_dict, lenD_lst, lenD_tup, absD_int, intD_int, intD_bool, tupleD_lst, tupleD_tup, listD_lst, listD_tup, itemsOf_lst, itemsOf_tup, zipD_lst, zipD_tup, maxD_int, minD_int, slD_tup, slD_lst, pow_10_18, itemsOf_tupI, isi_tuple, isi_int, isi_bool, isi_str, isi_list, isTup_none, isTup_bool, isTup_int, isTup_str, isTup_list, isTup_tuple, isTup_dict, isWB_none, isWB_bool, isWB_int, isWB_str, isWB_list, isWB_tuple, isWB_dict, isB_none, isB_bool, isB_int, isB_str, isB_list, isB_tuple, isB_dict, isStr_none, isStr_bool, isStr_int, isStr_str, isStr_list, isStr_tuple, isStr_dict, isLst_none, isLst_bool, isLst_int, isLst_str, isLst_list, isLst_tuple, isTupI, sumD_lst, lenD_tupI, sumD_tupI, lenD_drD, eqD_int, neD_int, ixD_tup, ixD_lst, at0, at1, at2, at3, List.length_cons, List.length_nil, List.map_cons, List.map_nil, List.cons_append, List.nil_append, List.replicate, List.getElem?_cons_zero, List.getElem?_cons_succ, List.getElem?_nil, List.set_cons_zero, List.set_cons_succ, Nat.reduceAdd, Nat.reduceSub, Nat.reduceLeDiff, Nat.reduceEqDiff, if_true, if_false, beq_self_eq_true, decide_true, eq_self, reduceCtorEq, Bool.not_true, Bool.not_false, Bool.true_and, Bool.and_true, Bool.false_and, Bool.and_false, Bool.or_true, Bool.true_or, Bool.or_false, Bool.false_or, Bool.false_eq_true, Option.map_some, Option.map_none, Option.bind_some, Option.bind_none, isi2E, neD_boolself, l, allD_fn, eqD_intself]
      simp
    | .list xs, ⟨h1, h2⟩ =>
      have l := L xs (.list xs) h1 h2 (by simp only [refE, roS_da, roS_un, roS_ml, runP, runS, seqS, nextS_ap, asgS, parS, ifS, retS, retN, dropS, raiseS, neverS, contS_ap, breakS_ap, frzS, appS, extS, tgN, tgM, tgs, tgT, tgS, vE, cE, op2, op1, aN, aC, tB', andT, orT, notT, andV, orV, notV, ifE, tupE, lstE, caE, chE, callE, callS, isiE_ap, oN, oS, slE, anyI, rngI, zipI, forS, yesT, cgN, cgT, cgs, whileS, rawL, rawOf, rawL_nil, datL, datL_nil, Rv.dat, GD.toBool, toBool_bool, intOf, intOf_int, ofO, ofO_some, ofO_none, Re.ok_bind, Re.ex_bind, Re.no_bind, Re.pure_eq, addD_int, addD_tup, addD_lst, addD_str, subD_int, negD_int, ltD_int, leD_int, gtD_int, geD_int, isD_none, isD_bool, isNotD_none, isNotD_bool, isNoneD_none, isNoneD_bool, isNoneD_int, isNoneD_str, isNoneD_list, isNoneD_tuple, isNoneD_dict, lenD_lst, lenD_tup, absD_int, intD_int, intD_bool, tupleD_lst, tupleD_tup, listD_lst, listD_tup, itemsOf_lst, itemsOf_tup, zipD_lst, zipD_tup, maxD_int, minD_int, slD_tup, slD_lst, pow_10_18, itemsOf_tupI, isi_tuple, isi_int, isi_bool, isi_str, isi_list, isTup_none, isTup_bool, isTup_int, isTup_str, isTup_list, isTup_tuple, isTup_dict, isWB_none, isWB_bool, isWB_int, isWB_str, isWB_list, isWB_tuple, isWB_dict, isB_none, isB_bool, isB_int, isB_str, isB_list, isB_tuple, isB_dict, isStr_none, isStr_bool, isStr_int, isStr_str, isStr_list, isStr_tuple, isStr_dict, isLst_none, isLst_bool, isLst_int, isLst_str, isLst_list, isLst_tuple, isTupI, sumD_lst, lenD_tupI, sumD_tupI, lenD_drD, eqD_int, neD_int, ixD_tup, ixD_lst, at0, at1, at2, at3, List.length_cons, List.length_nil, List.map_cons, List.map_nil, List.cons_append, List.nil_append, List.replicate, List.getElem?_cons_zero, List.getElem?_cons_succ, List.getElem?_nil, List.set_cons_zero, List.set_cons_succ, Nat.reduceAdd, Nat.reduceSub, Nat.reduceLeDiff, Nat.reduceEqDiff, if_true, if_false, beq_self_eq_true, decide_true, eq_self, reduceCtorEq, Bool.not_true, Bool.not_false, Bool.true_and, Bool.and_true, Bool.false_and, Bool.and_false, Bool.or_true, Bool.true_or, Bool.or_false, Bool.false_or, Bool.false_eq_true, Option.map_some, Option.map_none, Option.bind_some, Option.bind_none, zip_self])
      simp only [refE, roS_da, roS_un, roS_ml, runP, runS, seqS, nextS_ap, asgS, parS, ifS, retS, retN, dropS, raiseS, neverS, contS_ap, breakS_ap, frzS, appS, extS, tgN, tgM, tgs, tgT, tgS, vE, cE, op2, op1, aN, aC, tB', andT, orT, notT, andV, orV, notV, ifE, tupE, lstE, caE, chE, callE, callS, isiE_ap, oN, oS, slE, anyI, rngI, zipI, forS, yesT, cgN, cgT, cgs, whileS, rawL, rawOf, rawL_nil, datL, datL_nil, Rv.dat, GD.toBool, toBool_bool, intOf, intOf_int, ofO, ofO_some, ofO_none, Re.ok_bind, Re.ex_bind, Re.no_bind, Re.pure_eq, addD_int, addD_tup, addD_lst, addD_str, subD_int, negD_int, ltD_int, leD_int, gtD_int, geD_int, isD_none, isD_bool, isNotD_none, isNotD_bool, isNoneD_none, isNoneD_bool, isNoneD_int, isNoneD_str, isNoneD_list, isNoneD_tuple, isNoneD_dict, lenD_lst, lenD_tup, absD_int, intD_int, intD_bool, tupleD_lst, tupleD_tup, listD_lst, listD_tup, itemsOf_lst, itemsOf_tup, zipD_lst, zipD_tup, maxD_int, minD_int, slD_tup, slD_lst, pow_10_18, itemsOf_tupI, isi_tuple, isi_int, isi_bool, isi_str, isi_list, isTup_none, isTup_bool, isTup_int, isTup_str, isTup_list, isTup_tuple, isTup_dict, isWB_none, isWB_bool, isWB_int, isWB_str, isWB_list, isWB_tuple, isWB_dict, isB_none, isB_bool, isB_int, isB_str, isB_list, isB_tuple, isB_dict, isStr_none, isStr_bool, isStr_int, isStr_str, isStr_list, isStr_tuple, isStr_dict, isLst_none, isLst_bool, isLst_int, isLst_str, isLst_list, isLst_tuple, isTupI, sumD_lst, lenD_tupI, sumD_tupI, lenD_drD, eqD_int, neD_int, ixD_tup, ixD_lst, at0, at1, at2, at3, List.length_cons, List.length_nil, List.map_cons, List.map_nil, List.cons_append, List.nil_append, List.replicate, List.getElem?_cons_zero, List.getElem?_cons_succ, List.getElem?_nil, List.set_cons_zero, List.set_cons_succ, Nat.reduceAdd, Nat.reduceSub, Nat.reduceLeDiff, Nat.reduceEqDiff, if_true, if_false, beq_self_eq_true, decide_true, eq_self, reduceCtorEq, Bool.not_true, Bool.not_false, Bool.true_and, Bool.and_true, Bool.false_and, Bool.and_false, Bool.or_true, Bool.true_or, Bool.or_false, Bool.false_or, Bool.false_eq_true, Option.map_some, Option.map_none, Option.bind_some, Option.bind_none, isi2E, neD_boolself, l, allD_fn, eqD_intself]
      simp
theorem gd_fr (n : Nat) (q : Rat) : gd (n + 2) (frD q) := ⟨by simp, by simp [gd]⟩

/-! ### what is no urn, by chance -/
theorem no_urn_loop : ∀ (ts : List D) (ds : List D) (s1 s2 : Sl), Val ds → ∃ ds' s1' s2', Val ds' ∧ (forD (tgN 1) (seqS (asgS (callS m__law_bent_urn (aC (vE 0) (aC (callS m__law_urn (aC (vE 0) (aC (op2 addD (cE (.int 1)) (callS m__law_take (aC (vE 0) (aC (cE (.int 4)) aN)))) aN))) aN))) (tgN 2)) (ifS (notT (tB' (callE m__law_is_urn (aC (vE 2) aN)))) (retS (vE 2)) nextS)) ts [.ml false ds, s1, s2] = .nx [.ml false ds', s1', s2'] ∨ ∃ d, isUrn d = false ∧ forD (tgN 1) (seqS (asgS (callS m__law_bent_urn (aC (vE 0) (aC (callS m__law_urn (aC (vE 0) (aC (op2 addD (cE (.int 1)) (callS m__law_take (aC (vE 0) (aC (cE (.int 4)) aN)))) aN))) aN))) (tgN 2)) (ifS (notT (tB' (callE m__law_is_urn (aC (vE 2) aN)))) (retS (vE 2)) nextS)) ts [.ml false ds, s1, s2] = .rt (.da d) [.ml false ds', s1', s2'])
  | [], ds, s1, s2, h => ⟨ds, s1, s2, h, .inl rfl⟩
  | t :: ts, ds, s1, s2, h => by
    obtain ⟨v, d1, e1, hv, h1⟩ := take_ev h (n := 4) (by decide) (by decide)
    obtain ⟨n, hn⟩ : ∃ n : Nat, (1 + (v : Int)) = n := ⟨v + 1, by omega⟩
    obtain ⟨u, d2, e2, hu, hl, h2⟩ := lurn_ev h1 (n := n) (by omega) (by omega)
    obtain ⟨x, d3, e3, h3⟩ := bent_urn_ev (xs := u.map .int) h2 (by simp; have := hu.l4; omega)
    have e3' : m__law_bent_urn d2 [tupI u] = .ok (x, d3) := e3
    unfold forD
    cases hx : isUrn x
    · exact ⟨d3, .da t, .da x, h3, .inr ⟨x, hx, by simp only [refE, roS_da, roS_un, roS_ml, runP, runS, seqS, nextS_ap, asgS, parS, ifS, retS, retN, dropS, raiseS, neverS, contS_ap, breakS_ap, frzS, appS, extS, tgN, tgM, tgs, tgT, tgS, vE, cE, op2, op1, aN, aC, tB', andT, orT, notT, andV, orV, notV, ifE, tupE, lstE, caE, chE, callE, callS, isiE_ap, oN, oS, slE, anyI, rngI, zipI, forS, yesT, cgN, cgT, cgs, whileS, rawL, rawOf, rawL_nil, datL, datL_nil, Rv.dat, GD.toBool, toBool_bool, intOf, intOf_int, ofO, ofO_some, ofO_none, Re.ok_bind, Re.ex_bind, Re.no_bind, Re.pure_eq, addD_int, addD_tup, addD_lst, addD_str, subD_int, negD_int, ltD_int, leD_int, gtD_int, geD_int, isD_none, isD_bool, isNotD_none, isNotD_bool, isNoneD_none, isNoneD_bool, isNoneD_int, isNoneD_str, isNoneD_list, isNoneD_tuple, isNoneD_dict, lenD_lst, lenD_tup, absD_int, intD_int, intD_bool, tupleD_lst, tupleD_tup, listD_lst, listD_tup, itemsOf_lst, itemsOf_tup, zipD_lst, zipD_tup, maxD_int, minD_int, slD_tup, slD_lst, pow_10_18, itemsOf_tupI, isi_tuple, isi_int, isi_bool, isi_str, isi_list, isTup_none, isTup_bool, isTup_int, isTup_str, isTup_list, isTup_tuple, isTup_dict, isWB_none, isWB_bool, isWB_int, isWB_str, isWB_list, isWB_tuple, isWB_dict, isB_none, isB_bool, isB_int, isB_str, isB_list, isB_tuple, isB_dict, isStr_none, isStr_bool, isStr_int, isStr_str, isStr_list, isStr_tuple, isStr_dict, isLst_none, isLst_bool, isLst_int, isLst_str, isLst_list, isLst_tuple, isTupI, sumD_lst, lenD_tupI, sumD_tupI, lenD_drD, eqD_int, neD_int, ixD_tup, ixD_lst, at0, at1, at2, at3, List.length_cons, List.length_nil, List.map_cons, List.map_nil, List.cons_append, List.nil_append, List.replicate, List.getElem?_cons_zero, List.getElem?_cons_succ, List.getElem?_nil, List.set_cons_zero, List.set_cons_succ, Nat.reduceAdd, Nat.reduceSub, Nat.reduceLeDiff, Nat.reduceEqDiff, if_true, if_false, beq_self_eq_true, decide_true, eq_self, reduceCtorEq, Bool.not_true, Bool.not_false, Bool.true_and, Bool.and_true, Bool.false_and, Bool.and_false, Bool.or_true, Bool.true_or, Bool.or_false, Bool.false_or, Bool.false_eq_true, Option.map_some, Option.map_none, Option.bind_some, Option.bind_none, e1, hn, e2, e3', law_is_urn_ev, hx]⟩⟩
    · obtain ⟨ds', s1', s2', h', r⟩ := no_urn_loop ts d3 (.da t) (.da x) h3
      refine ⟨ds', s1', s2', h', ?_⟩
      simp only [refE, roS_da, roS_un, roS_ml, runP, runS, seqS, nextS_ap, asgS, parS, ifS, retS, retN, dropS, raiseS, neverS, contS_ap, breakS_ap, frzS, appS, extS, tgN, tgM, tgs, tgT, tgS, vE, cE, op2, op1, aN, aC, tB', andT, orT, notT, andV, orV, notV, ifE, tupE, lstE, caE, chE, callE, callS, isiE_ap, oN, oS, slE, anyI, rngI, zipI, forS, yesT, cgN, cgT, cgs, whileS, rawL, rawOf, rawL_nil, datL, datL_nil, Rv.dat, GD.toBool, toBool_bool, intOf, intOf_int, ofO, ofO_some, ofO_none, Re.ok_bind, Re.ex_bind, Re.no_bind, Re.pure_eq, addD_int, addD_tup, addD_lst, addD_str, subD_int, negD_int, ltD_int, leD_int, gtD_int, geD_int, isD_none, isD_bool, isNotD_none, isNotD_bool, isNoneD_none, isNoneD_bool, isNoneD_int, isNoneD_str, isNoneD_list, isNoneD_tuple, isNoneD_dict, lenD_lst, lenD_tup, absD_int, intD_int, intD_bool, tupleD_lst, tupleD_tup, listD_lst, listD_tup, itemsOf_lst, itemsOf_tup, zipD_lst, zipD_tup, maxD_int, minD_int, slD_tup, slD_lst, pow_10_18, itemsOf_tupI, isi_tuple, isi_int, isi_bool, isi_str, isi_list, isTup_none, isTup_bool, isTup_int, isTup_str, isTup_list, isTup_tuple, isTup_dict, isWB_none, isWB_bool, isWB_int, isWB_str, isWB_list, isWB_tuple, isWB_dict, isB_none, isB_bool, isB_int, isB_str, isB_list, isB_tuple, isB_dict, isStr_none, isStr_bool, isStr_int, isStr_str, isStr_list, isStr_tuple, isStr_dict, isLst_none, isLst_bool, isLst_int, isLst_str, isLst_list, isLst_tuple, isTupI, sumD_lst, lenD_tupI, sumD_tupI, lenD_drD, eqD_int, neD_int, ixD_tup, ixD_lst, at0, at1, at2, at3, List.length_cons, List.length_nil, List.map_cons, List.map_nil, List.cons_append, List.nil_append, List.replicate, List.getElem?_cons_zero, List.getElem?_cons_succ, List.getElem?_nil, List.set_cons_zero, List.set_cons_succ, Nat.reduceAdd, Nat.reduceSub, Nat.reduceLeDiff, Nat.reduceEqDiff, if_true, if_false, beq_self_eq_true, decide_true, eq_self, reduceCtorEq, Bool.not_true, Bool.not_false, Bool.true_and, Bool.and_true, Bool.false_and, Bool.and_false, Bool.or_true, Bool.true_or, Bool.or_false, Bool.false_or, Bool.false_eq_true, Option.map_some, Option.map_none, Option.bind_some, Option.bind_none, e1, hn, e2, e3', law_is_urn_ev, hx]
      exact r
theorem no_urn_ev {ds : List D} (h : Val ds) : ∃ d ds', m__law_no_urn ds [] = .ok (d, ds') ∧ isUrn d = false ∧ Val ds' := by
  obtain ⟨ds', s1', s2', h', r⟩ := no_urn_loop [.int 0, .int 1, .int 2, .int 3, .int 4, .int 5, .int 6, .int 7] ds .un .un h
  have r8 : rngD [.da (.int 8)] = some [.int 0, .int 1, .int 2, .int 3, .int 4, .int 5, .int 6, .int 7] := rfl
  unfold m__law_no_urn d__law_no_urn
  rcases r with r | ⟨d, hd, r⟩
  · obtain ⟨v, d1, e1, hv, h1⟩ := take_ev h' (n := 4) (by decide) (by decide)
    obtain ⟨x, hx, ex⟩ := ix_lt (xs := [.none, .tuple [], .tuple [.int 0], .tuple [.int 1, .bool true]]) (v := v) (by simp; omega)
    refine ⟨x, d1, ?_, ?_, h1⟩
    · simp only [refE, roS_da, roS_un, roS_ml, runP, runS, seqS, nextS_ap, asgS, parS, ifS, retS, retN, dropS, raiseS, neverS, contS_ap, breakS_ap, frzS, appS, extS, tgN, tgM, tgs, tgT, tgS, vE, cE, op2, op1, aN, aC, tB', andT, orT, notT, andV, orV, notV, ifE, tupE, lstE, caE, chE, callE, callS, isiE_ap, oN, oS, slE, anyI, rngI, zipI, forS, yesT, cgN, cgT, cgs, whileS, rawL, rawOf, rawL_nil, datL, datL_nil, Rv.dat, GD.toBool, toBool_bool, intOf, intOf_int, ofO, ofO_some, ofO_none, Re.ok_bind, Re.ex_bind, Re.no_bind, Re.pure_eq, addD_int, addD_tup, addD_lst, addD_str, subD_int, negD_int, ltD_int, leD_int, gtD_int, geD_int, isD_none, isD_bool, isNotD_none, isNotD_bool, isNoneD_none, isNoneD_bool, isNoneD_int, isNoneD_str, isNoneD_list, isNoneD_tuple, isNoneD_dict, lenD_lst, lenD_tup, absD_int, intD_int, intD_bool, tupleD_lst, tupleD_tup, listD_lst, listD_tup, itemsOf_lst, itemsOf_tup, zipD_lst, zipD_tup, maxD_int, minD_int, slD_tup, slD_lst, pow_10_18, itemsOf_tupI, isi_tuple, isi_int, isi_bool, isi_str, isi_list, isTup_none, isTup_bool, isTup_int, isTup_str, isTup_list, isTup_tuple, isTup_dict, isWB_none, isWB_bool, isWB_int, isWB_str, isWB_list, isWB_tuple, isWB_dict, isB_none, isB_bool, isB_int, isB_str, isB_list, isB_tuple, isB_dict, isStr_none, isStr_bool, isStr_int, isStr_str, isStr_list, isStr_tuple, isStr_dict, isLst_none, isLst_bool, isLst_int, isLst_str, isLst_list, isLst_tuple, isTupI, sumD_lst, lenD_tupI, sumD_tupI, lenD_drD, eqD_int, neD_int, ixD_tup, ixD_lst, at0, at1, at2, at3, List.length_cons, List.length_nil, List.map_cons, List.map_nil, List.cons_append, List.nil_append, List.replicate, List.getElem?_cons_zero, List.getElem?_cons_succ, List.getElem?_nil, List.set_cons_zero, List.set_cons_succ, Nat.reduceAdd, Nat.reduceSub, Nat.reduceLeDiff, Nat.reduceEqDiff, if_true, if_false, beq_self_eq_true, decide_true, eq_self, reduceCtorEq, Bool.not_true, Bool.not_false, Bool.true_and, Bool.and_true, Bool.false_and, Bool.and_false, Bool.or_true, Bool.true_or, Bool.or_false, Bool.false_or, Bool.false_eq_true, Option.map_some, Option.map_none, Option.bind_some, Option.bind_none, r8, r, e1, ex]
    · have h : ([.none, .tuple [], .tuple [.int 0], .tuple [.int 1, .bool true]] : List D).all (fun d => !isUrn d) = true := rfl
      simpa using List.all_eq_true.mp h x hx
  · exact ⟨d, ds', by simp only [refE, roS_da, roS_un, roS_ml, runP, runS, seqS, nextS_ap, asgS, parS, ifS, retS, retN, dropS, raiseS, neverS, contS_ap, breakS_ap, frzS, appS, extS, tgN, tgM, tgs, tgT, tgS, vE, cE, op2, op1, aN, aC, tB', andT, orT, notT, andV, orV, notV, ifE, tupE, lstE, caE, chE, callE, callS, isiE_ap, oN, oS, slE, anyI, rngI, zipI, forS, yesT, cgN, cgT, cgs, whileS, rawL, rawOf, rawL_nil, datL, datL_nil, Rv.dat, GD.toBool, toBool_bool, intOf, intOf_int, ofO, ofO_some, ofO_none, Re.ok_bind, Re.ex_bind, Re.no_bind, Re.pure_eq, addD_int, addD_tup, addD_lst, addD_str, subD_int, negD_int, ltD_int, leD_int, gtD_int, geD_int, isD_none, isD_bool, isNotD_none, isNotD_bool, isNoneD_none, isNoneD_bool, isNoneD_int, isNoneD_str, isNoneD_list, isNoneD_tuple, isNoneD_dict, lenD_lst, lenD_tup, absD_int, intD_int, intD_bool, tupleD_lst, tupleD_tup, listD_lst, listD_tup, itemsOf_lst, itemsOf_tup, zipD_lst, zipD_tup, maxD_int, minD_int, slD_tup, slD_lst, pow_10_18, itemsOf_tupI, isi_tuple, isi_int, isi_bool, isi_str, isi_list, isTup_none, isTup_bool, isTup_int, isTup_str, isTup_list, isTup_tuple, isTup_dict, isWB_none, isWB_bool, isWB_int, isWB_str, isWB_list, isWB_tuple, isWB_dict, isB_none, isB_bool, isB_int, isB_str, isB_list, isB_tuple, isB_dict, isStr_none, isStr_bool, isStr_int, isStr_str, isStr_list, isStr_tuple, isStr_dict, isLst_none, isLst_bool, isLst_int, isLst_str, isLst_list, isLst_tuple, isTupI, sumD_lst, lenD_tupI, sumD_tupI, lenD_drD, eqD_int, neD_int, ixD_tup, ixD_lst, at0, at1, at2, at3, List.length_cons, List.length_nil, List.map_cons, List.map_nil, List.cons_append, List.nil_append, List.replicate, List.getElem?_cons_zero, List.getElem?_cons_succ, List.getElem?_nil, List.set_cons_zero, List.set_cons_succ, Nat.reduceAdd, Nat.reduceSub, Nat.reduceLeDiff, Nat.reduceEqDiff, if_true, if_false, beq_self_eq_true, decide_true, eq_self, reduceCtorEq, Bool.not_true, Bool.not_false, Bool.true_and, Bool.and_true, Bool.false_and, Bool.and_false, Bool.or_true, Bool.true_or, Bool.or_false, Bool.false_or, Bool.false_eq_true, Option.map_some, Option.map_none, Option.bind_some, Option.bind_none, r8, r], hd, h'⟩

end LawHere

namespace LawHere
open PySem GD
/-! ### the package: simple -/
theorem need_urn_bad {d : D} (h : isUrn d = false) : m_need_urn [d] = .ex "NoUrn" := by
  unfold m_need_urn d_need_urn; simp only [refE, roS_da, roS_un, roS_ml, runP, runS, seqS, nextS_ap, asgS, parS, ifS, retS, retN, dropS, raiseS, neverS, contS_ap, breakS_ap, frzS, appS, extS, tgN, tgM, tgs, tgT, tgS, vE, cE, op2, op1, aN, aC, tB', andT, orT, notT, andV, orV, notV, ifE, tupE, lstE, caE, chE, callE, callS, isiE_ap, oN, oS, slE, anyI, rngI, zipI, forS, yesT, cgN, cgT, cgs, whileS, rawL, rawOf, rawL_nil, datL, datL_nil, Rv.dat, GD.toBool, toBool_bool, intOf, intOf_int, ofO, ofO_some, ofO_none, Re.ok_bind, Re.ex_bind, Re.no_bind, Re.pure_eq, addD_int, addD_tup, addD_lst, addD_str, subD_int, negD_int, ltD_int, leD_int, gtD_int, geD_int, isD_none, isD_bool, isNotD_none, isNotD_bool, isNoneD_none, isNoneD_bool, isNoneD_int, isNoneD_str, isNoneD_list, isNoneD_tuple, isNoneD_dict, lenD_lst, lenD_tup, absD_int, intD_int, intD_bool, tupleD_lst, tupleD_tup, listD_lst, listD_tup, itemsOf_lst, itemsOf_tup, zipD_lst, zipD_tup, maxD_int, minD_int, slD_tup, slD_lst, pow_10_18, itemsOf_tupI, isi_tuple, isi_int, isi_bool, isi_str, isi_list, isTup_none, isTup_bool, isTup_int, isTup_str, isTup_list, isTup_tuple, isTup_dict, isWB_none, isWB_bool, isWB_int, isWB_str, isWB_list, isWB_tuple, isWB_dict, isB_none, isB_bool, isB_int, isB_str, isB_list, isB_tuple, isB_dict, isStr_none, isStr_bool, isStr_int, isStr_str, isStr_list, isStr_tuple, isStr_dict, isLst_none, isLst_bool, isLst_int, isLst_str, isLst_list, isLst_tuple, isTupI, sumD_lst, lenD_tupI, sumD_tupI, lenD_drD, eqD_int, neD_int, ixD_tup, ixD_lst, at0, at1, at2, at3, List.length_cons, List.length_nil, List.map_cons, List.map_nil, List.cons_append, List.nil_append, List.replicate, List.getElem?_cons_zero, List.getElem?_cons_succ, List.getElem?_nil, List.set_cons_zero, List.set_cons_succ, Nat.reduceAdd, Nat.reduceSub, Nat.reduceLeDiff, Nat.reduceEqDiff, if_true, if_false, beq_self_eq_true, decide_true, eq_self, reduceCtorEq, Bool.not_true, Bool.not_false, Bool.true_and, Bool.and_true, Bool.false_and, Bool.and_false, Bool.or_true, Bool.true_or, Bool.or_false, Bool.false_or, Bool.false_eq_true, Option.map_some, Option.map_none, Option.bind_some, Option.bind_none, is_urn_ev, h]
theorem need_number_bad {a b : Int} {d : D} (h : btw d a b = false) : m_need_number [d, .int a, .int b] = .ex "NoNumber" := by
  unfold m_need_number d_need_number; simp only [refE, roS_da, roS_un, roS_ml, runP, runS, seqS, nextS_ap, asgS, parS, ifS, retS, retN, dropS, raiseS, neverS, contS_ap, breakS_ap, frzS, appS, extS, tgN, tgM, tgs, tgT, tgS, vE, cE, op2, op1, aN, aC, tB', andT, orT, notT, andV, orV, notV, ifE, tupE, lstE, caE, chE, callE, callS, isiE_ap, oN, oS, slE, anyI, rngI, zipI, forS, yesT, cgN, cgT, cgs, whileS, rawL, rawOf, rawL_nil, datL, datL_nil, Rv.dat, GD.toBool, toBool_bool, intOf, intOf_int, ofO, ofO_some, ofO_none, Re.ok_bind, Re.ex_bind, Re.no_bind, Re.pure_eq, addD_int, addD_tup, addD_lst, addD_str, subD_int, negD_int, ltD_int, leD_int, gtD_int, geD_int, isD_none, isD_bool, isNotD_none, isNotD_bool, isNoneD_none, isNoneD_bool, isNoneD_int, isNoneD_str, isNoneD_list, isNoneD_tuple, isNoneD_dict, lenD_lst, lenD_tup, absD_int, intD_int, intD_bool, tupleD_lst, tupleD_tup, listD_lst, listD_tup, itemsOf_lst, itemsOf_tup, zipD_lst, zipD_tup, maxD_int, minD_int, slD_tup, slD_lst, pow_10_18, itemsOf_tupI, isi_tuple, isi_int, isi_bool, isi_str, isi_list, isTup_none, isTup_bool, isTup_int, isTup_str, isTup_list, isTup_tuple, isTup_dict, isWB_none, isWB_bool, isWB_int, isWB_str, isWB_list, isWB_tuple, isWB_dict, isB_none, isB_bool, isB_int, isB_str, isB_list, isB_tuple, isB_dict, isStr_none, isStr_bool, isStr_int, isStr_str, isStr_list, isStr_tuple, isStr_dict, isLst_none, isLst_bool, isLst_int, isLst_str, isLst_list, isLst_tuple, isTupI, sumD_lst, lenD_tupI, sumD_tupI, lenD_drD, eqD_int, neD_int, ixD_tup, ixD_lst, at0, at1, at2, at3, List.length_cons, List.length_nil, List.map_cons, List.map_nil, List.cons_append, List.nil_append, List.replicate, List.getElem?_cons_zero, List.getElem?_cons_succ, List.getElem?_nil, List.set_cons_zero, List.set_cons_succ, Nat.reduceAdd, Nat.reduceSub, Nat.reduceLeDiff, Nat.reduceEqDiff, if_true, if_false, beq_self_eq_true, decide_true, eq_self, reduceCtorEq, Bool.not_true, Bool.not_false, Bool.true_and, Bool.and_true, Bool.false_and, Bool.and_false, Bool.or_true, Bool.true_or, Bool.or_false, Bool.false_or, Bool.false_eq_true, Option.map_some, Option.map_none, Option.bind_some, Option.bind_none, is_between_ev, h]
theorem need_counts_ev {u : List Int} (hl : u.length ≤ 4) {d : D} : m_need_counts [tupI u, d] = if isCnt u.length d = true then .ok (.da .none) else .ex "NoCounts" := by
  unfold m_need_counts d_need_counts
  cases d
  case tuple xs =>
    by_cases h1 : xs.length = u.length
    · have h0 : xs.length ≤ 1000000 := by omega
      · have L := lc_map (it := anyI (vE 1)) (j := 2) (te := callE m_is_between (aC (vE 2) (aC (cE (.int 0)) (aC (cE (.int 40)) aN)))) (h := fun d => .bool (btw d 0 40)) (g := [.da (tupI u), .da (.tuple xs), .un]) (g1 := [.da (tupI u), .da (.tuple xs), .un]) (ds := xs) rfl h0
          (fun d _ => ⟨.da (.bool (btw d 0 40)), by simp only [refE, roS_da, roS_un, roS_ml, runP, runS, seqS, nextS_ap, asgS, parS, ifS, retS, retN, dropS, raiseS, neverS, contS_ap, breakS_ap, frzS, appS, extS, tgN, tgM, tgs, tgT, tgS, vE, cE, op2, op1, aN, aC, tB', andT, orT, notT, andV, orV, notV, ifE, tupE, lstE, caE, chE, callE, callS, isiE_ap, oN, oS, slE, anyI, rngI, zipI, forS, yesT, cgN, cgT, cgs, whileS, rawL, rawOf, rawL_nil, datL, datL_nil, Rv.dat, GD.toBool, toBool_bool, intOf, intOf_int, ofO, ofO_some, ofO_none, Re.ok_bind, Re.ex_bind, Re.no_bind, Re.pure_eq, addD_int, addD_tup, addD_lst, addD_str, subD_int, negD_int, ltD_int, leD_int, gtD_int, geD_int, isD_none, isD_bool, isNotD_none, isNotD_bool, isNoneD_none, isNoneD_bool, isNoneD_int, isNoneD_str, isNoneD_list, isNoneD_tuple, isNoneD_dict, lenD_lst, lenD_tup, absD_int, intD_int, intD_bool, tupleD_lst, tupleD_tup, listD_lst, listD_tup, itemsOf_lst, itemsOf_tup, zipD_lst, zipD_tup, maxD_int, minD_int, slD_tup, slD_lst, pow_10_18, itemsOf_tupI, isi_tuple, isi_int, isi_bool, isi_str, isi_list, isTup_none, isTup_bool, isTup_int, isTup_str, isTup_list, isTup_tuple, isTup_dict, isWB_none, isWB_bool, isWB_int, isWB_str, isWB_list, isWB_tuple, isWB_dict, isB_none, isB_bool, isB_int, isB_str, isB_list, isB_tuple, isB_dict, isStr_none, isStr_bool, isStr_int, isStr_str, isStr_list, isStr_tuple, isStr_dict, isLst_none, isLst_bool, isLst_int, isLst_str, isLst_list, isLst_tuple, isTupI, sumD_lst, lenD_tupI, sumD_tupI, lenD_drD, eqD_int, neD_int, ixD_tup, ixD_lst, at0, at1, at2, at3, List.length_cons, List.length_nil, List.map_cons, List.map_nil, List.cons_append, List.nil_append, List.replicate, List.getElem?_cons_zero, List.getElem?_cons_succ, List.getElem?_nil, List.set_cons_zero, List.set_cons_succ, Nat.reduceAdd, Nat.reduceSub, Nat.reduceLeDiff, Nat.reduceEqDiff, if_true, if_false, beq_self_eq_true, decide_true, eq_self, reduceCtorEq, Bool.not_true, Bool.not_false, Bool.true_and, Bool.and_true, Bool.false_and, Bool.and_false, Bool.or_true, Bool.true_or, Bool.or_false, Bool.false_or, Bool.false_eq_true, Option.map_some, Option.map_none, Option.bind_some, Option.bind_none, is_between_ev], rfl⟩)
        have e : (!((xs.length : Int) == (u.length : Int))) = false := by simp [h1]
        cases h3 : xs.all (btw · 0 40)
        · simp only [refE, roS_da, roS_un, roS_ml, runP, runS, seqS, nextS_ap, asgS, parS, ifS, retS, retN, dropS, raiseS, neverS, contS_ap, breakS_ap, frzS, appS, extS, tgN, tgM, tgs, tgT, tgS, vE, cE, op2, op1, aN, aC, tB', andT, orT, notT, andV, orV, notV, ifE, tupE, lstE, caE, chE, callE, callS, isiE_ap, oN, oS, slE, anyI, rngI, zipI, forS, yesT, cgN, cgT, cgs, whileS, rawL, rawOf, rawL_nil, datL, datL_nil, Rv.dat, GD.toBool, toBool_bool, intOf, intOf_int, ofO, ofO_some, ofO_none, Re.ok_bind, Re.ex_bind, Re.no_bind, Re.pure_eq, addD_int, addD_tup, addD_lst, addD_str, subD_int, negD_int, ltD_int, leD_int, gtD_int, geD_int, isD_none, isD_bool, isNotD_none, isNotD_bool, isNoneD_none, isNoneD_bool, isNoneD_int, isNoneD_str, isNoneD_list, isNoneD_tuple, isNoneD_dict, lenD_lst, lenD_tup, absD_int, intD_int, intD_bool, tupleD_lst, tupleD_tup, listD_lst, listD_tup, itemsOf_lst, itemsOf_tup, zipD_lst, zipD_tup, maxD_int, minD_int, slD_tup, slD_lst, pow_10_18, itemsOf_tupI, isi_tuple, isi_int, isi_bool, isi_str, isi_list, isTup_none, isTup_bool, isTup_int, isTup_str, isTup_list, isTup_tuple, isTup_dict, isWB_none, isWB_bool, isWB_int, isWB_str, isWB_list, isWB_tuple, isWB_dict, isB_none, isB_bool, isB_int, isB_str, isB_list, isB_tuple, isB_dict, isStr_none, isStr_bool, isStr_int, isStr_str, isStr_list, isStr_tuple, isStr_dict, isLst_none, isLst_bool, isLst_int, isLst_str, isLst_list, isLst_tuple, isTupI, sumD_lst, lenD_tupI, sumD_tupI, lenD_drD, eqD_int, neD_int, ixD_tup, ixD_lst, at0, at1, at2, at3, List.length_cons, List.length_nil, List.map_cons, List.map_nil, List.cons_append, List.nil_append, List.replicate, List.getElem?_cons_zero, List.getElem?_cons_succ, List.getElem?_nil, List.set_cons_zero, List.set_cons_succ, Nat.reduceAdd, Nat.reduceSub, Nat.reduceLeDiff, Nat.reduceEqDiff, if_true, if_false, beq_self_eq_true, decide_true, eq_self, reduceCtorEq, Bool.not_true, Bool.not_false, Bool.true_and, Bool.and_true, Bool.false_and, Bool.and_false, Bool.or_true, Bool.true_or, Bool.or_false, Bool.false_or, Bool.false_eq_true, Option.map_some, Option.map_none, Option.bind_some, Option.bind_none, lenD_tupI, e, L, allD_fn, h3, isCnt, decide_eq_true h1]
        · obtain ⟨h4, h5⟩ := intsOf_btw h3
          have e2 : sumD [.tuple xs] = some (.da (.int (xs.map iv).sum)) := by show (intsOf xs).map _ = _; rw [h4]; rfl
          simp only [refE, roS_da, roS_un, roS_ml, runP, runS, seqS, nextS_ap, asgS, parS, ifS, retS, retN, dropS, raiseS, neverS, contS_ap, breakS_ap, frzS, appS, extS, tgN, tgM, tgs, tgT, tgS, vE, cE, op2, op1, aN, aC, tB', andT, orT, notT, andV, orV, notV, ifE, tupE, lstE, caE, chE, callE, callS, isiE_ap, oN, oS, slE, anyI, rngI, zipI, forS, yesT, cgN, cgT, cgs, whileS, rawL, rawOf, rawL_nil, datL, datL_nil, Rv.dat, GD.toBool, toBool_bool, intOf, intOf_int, ofO, ofO_some, ofO_none, Re.ok_bind, Re.ex_bind, Re.no_bind, Re.pure_eq, addD_int, addD_tup, addD_lst, addD_str, subD_int, negD_int, ltD_int, leD_int, gtD_int, geD_int, isD_none, isD_bool, isNotD_none, isNotD_bool, isNoneD_none, isNoneD_bool, isNoneD_int, isNoneD_str, isNoneD_list, isNoneD_tuple, isNoneD_dict, lenD_lst, lenD_tup, absD_int, intD_int, intD_bool, tupleD_lst, tupleD_tup, listD_lst, listD_tup, itemsOf_lst, itemsOf_tup, zipD_lst, zipD_tup, maxD_int, minD_int, slD_tup, slD_lst, pow_10_18, itemsOf_tupI, isi_tuple, isi_int, isi_bool, isi_str, isi_list, isTup_none, isTup_bool, isTup_int, isTup_str, isTup_list, isTup_tuple, isTup_dict, isWB_none, isWB_bool, isWB_int, isWB_str, isWB_list, isWB_tuple, isWB_dict, isB_none, isB_bool, isB_int, isB_str, isB_list, isB_tuple, isB_dict, isStr_none, isStr_bool, isStr_int, isStr_str, isStr_list, isStr_tuple, isStr_dict, isLst_none, isLst_bool, isLst_int, isLst_str, isLst_list, isLst_tuple, isTupI, sumD_lst, lenD_tupI, sumD_tupI, lenD_drD, eqD_int, neD_int, ixD_tup, ixD_lst, at0, at1, at2, at3, List.length_cons, List.length_nil, List.map_cons, List.map_nil, List.cons_append, List.nil_append, List.replicate, List.getElem?_cons_zero, List.getElem?_cons_succ, List.getElem?_nil, List.set_cons_zero, List.set_cons_succ, Nat.reduceAdd, Nat.reduceSub, Nat.reduceLeDiff, Nat.reduceEqDiff, if_true, if_false, beq_self_eq_true, decide_true, eq_self, reduceCtorEq, Bool.not_true, Bool.not_false, Bool.true_and, Bool.and_true, Bool.false_and, Bool.and_false, Bool.or_true, Bool.true_or, Bool.or_false, Bool.false_or, Bool.false_eq_true, Option.map_some, Option.map_none, Option.bind_some, Option.bind_none, lenD_tupI, e, L, allD_fn, h3, isCnt, decide_eq_true h1, e2]
          by_cases h6 : (xs.map iv).sum ≤ 40
          · simp only [refE, roS_da, roS_un, roS_ml, runP, runS, seqS, nextS_ap, asgS, parS, ifS, retS, retN, dropS, raiseS, neverS, contS_ap, breakS_ap, frzS, appS, extS, tgN, tgM, tgs, tgT, tgS, vE, cE, op2, op1, aN, aC, tB', andT, orT, notT, andV, orV, notV, ifE, tupE, lstE, caE, chE, callE, callS, isiE_ap, oN, oS, slE, anyI, rngI, zipI, forS, yesT, cgN, cgT, cgs, whileS, rawL, rawOf, rawL_nil, datL, datL_nil, Rv.dat, GD.toBool, toBool_bool, intOf, intOf_int, ofO, ofO_some, ofO_none, Re.ok_bind, Re.ex_bind, Re.no_bind, Re.pure_eq, addD_int, addD_tup, addD_lst, addD_str, subD_int, negD_int, ltD_int, leD_int, gtD_int, geD_int, isD_none, isD_bool, isNotD_none, isNotD_bool, isNoneD_none, isNoneD_bool, isNoneD_int, isNoneD_str, isNoneD_list, isNoneD_tuple, isNoneD_dict, lenD_lst, lenD_tup, absD_int, intD_int, intD_bool, tupleD_lst, tupleD_tup, listD_lst, listD_tup, itemsOf_lst, itemsOf_tup, zipD_lst, zipD_tup, maxD_int, minD_int, slD_tup, slD_lst, pow_10_18, itemsOf_tupI, isi_tuple, isi_int, isi_bool, isi_str, isi_list, isTup_none, isTup_bool, isTup_int, isTup_str, isTup_list, isTup_tuple, isTup_dict, isWB_none, isWB_bool, isWB_int, isWB_str, isWB_list, isWB_tuple, isWB_dict, isB_none, isB_bool, isB_int, isB_str, isB_list, isB_tuple, isB_dict, isStr_none, isStr_bool, isStr_int, isStr_str, isStr_list, isStr_tuple, isStr_dict, isLst_none, isLst_bool, isLst_int, isLst_str, isLst_list, isLst_tuple, isTupI, sumD_lst, lenD_tupI, sumD_tupI, lenD_drD, eqD_int, neD_int, ixD_tup, ixD_lst, at0, at1, at2, at3, List.length_cons, List.length_nil, List.map_cons, List.map_nil, List.cons_append, List.nil_append, List.replicate, List.getElem?_cons_zero, List.getElem?_cons_succ, List.getElem?_nil, List.set_cons_zero, List.set_cons_succ, Nat.reduceAdd, Nat.reduceSub, Nat.reduceLeDiff, Nat.reduceEqDiff, if_true, if_false, beq_self_eq_true, decide_true, eq_self, reduceCtorEq, Bool.not_true, Bool.not_false, Bool.true_and, Bool.and_true, Bool.false_and, Bool.and_false, Bool.or_true, Bool.true_or, Bool.or_false, Bool.false_or, Bool.false_eq_true, Option.map_some, Option.map_none, Option.bind_some, Option.bind_none, decide_eq_true h6, decide_eq_false (show ¬ (40 : Int) < (xs.map iv).sum by omega)]
          · simp only [refE, roS_da, roS_un, roS_ml, runP, runS, seqS, nextS_ap, asgS, parS, ifS, retS, retN, dropS, raiseS, neverS, contS_ap, breakS_ap, frzS, appS, extS, tgN, tgM, tgs, tgT, tgS, vE, cE, op2, op1, aN, aC, tB', andT, orT, notT, andV, orV, notV, ifE, tupE, lstE, caE, chE, callE, callS, isiE_ap, oN, oS, slE, anyI, rngI, zipI, forS, yesT, cgN, cgT, cgs, whileS, rawL, rawOf, rawL_nil, datL, datL_nil, Rv.dat, GD.toBool, toBool_bool, intOf, intOf_int, ofO, ofO_some, ofO_none, Re.ok_bind, Re.ex_bind, Re.no_bind, Re.pure_eq, addD_int, addD_tup, addD_lst, addD_str, subD_int, negD_int, ltD_int, leD_int, gtD_int, geD_int, isD_none, isD_bool, isNotD_none, isNotD_bool, isNoneD_none, isNoneD_bool, isNoneD_int, isNoneD_str, isNoneD_list, isNoneD_tuple, isNoneD_dict, lenD_lst, lenD_tup, absD_int, intD_int, intD_bool, tupleD_lst, tupleD_tup, listD_lst, listD_tup, itemsOf_lst, itemsOf_tup, zipD_lst, zipD_tup, maxD_int, minD_int, slD_tup, slD_lst, pow_10_18, itemsOf_tupI, isi_tuple, isi_int, isi_bool, isi_str, isi_list, isTup_none, isTup_bool, isTup_int, isTup_str, isTup_list, isTup_tuple, isTup_dict, isWB_none, isWB_bool, isWB_int, isWB_str, isWB_list, isWB_tuple, isWB_dict, isB_none, isB_bool, isB_int, isB_str, isB_list, isB_tuple, isB_dict, isStr_none, isStr_bool, isStr_int, isStr_str, isStr_list, isStr_tuple, isStr_dict, isLst_none, isLst_bool, isLst_int, isLst_str, isLst_list, isLst_tuple, isTupI, sumD_lst, lenD_tupI, sumD_tupI, lenD_drD, eqD_int, neD_int, ixD_tup, ixD_lst, at0, at1, at2, at3, List.length_cons, List.length_nil, List.map_cons, List.map_nil, List.cons_append, List.nil_append, List.replicate, List.getElem?_cons_zero, List.getElem?_cons_succ, List.getElem?_nil, List.set_cons_zero, List.set_cons_succ, Nat.reduceAdd, Nat.reduceSub, Nat.reduceLeDiff, Nat.reduceEqDiff, if_true, if_false, beq_self_eq_true, decide_true, eq_self, reduceCtorEq, Bool.not_true, Bool.not_false, Bool.true_and, Bool.and_true, Bool.false_and, Bool.and_false, Bool.or_true, Bool.true_or, Bool.or_false, Bool.false_or, Bool.false_eq_true, Option.map_some, Option.map_none, Option.bind_some, Option.bind_none, decide_eq_false h6, decide_eq_true (show (40 : Int) < (xs.map iv).sum by omega)]
    · have e : (!((xs.length : Int) == (u.length : Int))) = true := by simp; omega
      simp only [refE, roS_da, roS_un, roS_ml, runP, runS, seqS, nextS_ap, asgS, parS, ifS, retS, retN, dropS, raiseS, neverS, contS_ap, breakS_ap, frzS, appS, extS, tgN, tgM, tgs, tgT, tgS, vE, cE, op2, op1, aN, aC, tB', andT, orT, notT, andV, orV, notV, ifE, tupE, lstE, caE, chE, callE, callS, isiE_ap, oN, oS, slE, anyI, rngI, zipI, forS, yesT, cgN, cgT, cgs, whileS, rawL, rawOf, rawL_nil, datL, datL_nil, Rv.dat, GD.toBool, toBool_bool, intOf, intOf_int, ofO, ofO_some, ofO_none, Re.ok_bind, Re.ex_bind, Re.no_bind, Re.pure_eq, addD_int, addD_tup, addD_lst, addD_str, subD_int, negD_int, ltD_int, leD_int, gtD_int, geD_int, isD_none, isD_bool, isNotD_none, isNotD_bool, isNoneD_none, isNoneD_bool, isNoneD_int, isNoneD_str, isNoneD_list, isNoneD_tuple, isNoneD_dict, lenD_lst, lenD_tup, absD_int, intD_int, intD_bool, tupleD_lst, tupleD_tup, listD_lst, listD_tup, itemsOf_lst, itemsOf_tup, zipD_lst, zipD_tup, maxD_int, minD_int, slD_tup, slD_lst, pow_10_18, itemsOf_tupI, isi_tuple, isi_int, isi_bool, isi_str, isi_list, isTup_none, isTup_bool, isTup_int, isTup_str, isTup_list, isTup_tuple, isTup_dict, isWB_none, isWB_bool, isWB_int, isWB_str, isWB_list, isWB_tuple, isWB_dict, isB_none, isB_bool, isB_int, isB_str, isB_list, isB_tuple, isB_dict, isStr_none, isStr_bool, isStr_int, isStr_str, isStr_list, isStr_tuple, isStr_dict, isLst_none, isLst_bool, isLst_int, isLst_str, isLst_list, isLst_tuple, isTupI, sumD_lst, lenD_tupI, sumD_tupI, lenD_drD, eqD_int, neD_int, ixD_tup, ixD_lst, at0, at1, at2, at3, List.length_cons, List.length_nil, List.map_cons, List.map_nil, List.cons_append, List.nil_append, List.replicate, List.getElem?_cons_zero, List.getElem?_cons_succ, List.getElem?_nil, List.set_cons_zero, List.set_cons_succ, Nat.reduceAdd, Nat.reduceSub, Nat.reduceLeDiff, Nat.reduceEqDiff, if_true, if_false, beq_self_eq_true, decide_true, eq_self, reduceCtorEq, Bool.not_true, Bool.not_false, Bool.true_and, Bool.and_true, Bool.false_and, Bool.and_false, Bool.or_true, Bool.true_or, Bool.or_false, Bool.false_or, Bool.false_eq_true, Option.map_some, Option.map_none, Option.bind_some, Option.bind_none, lenD_tupI, e, isCnt, decide_eq_false h1]
  all_goals (simp only [refE, roS_da, roS_un, roS_ml, runP, runS, seqS, nextS_ap, asgS, parS, ifS, retS, retN, dropS, raiseS, neverS, contS_ap, breakS_ap, frzS, appS, extS, tgN, tgM, tgs, tgT, tgS, vE, cE, op2, op1, aN, aC, tB', andT, orT, notT, andV, orV, notV, ifE, tupE, lstE, caE, chE, callE, callS, isiE_ap, oN, oS, slE, anyI, rngI, zipI, forS, yesT, cgN, cgT, cgs, whileS, rawL, rawOf, rawL_nil, datL, datL_nil, Rv.dat, GD.toBool, toBool_bool, intOf, intOf_int, ofO, ofO_some, ofO_none, Re.ok_bind, Re.ex_bind, Re.no_bind, Re.pure_eq, addD_int, addD_tup, addD_lst, addD_str, subD_int, negD_int, ltD_int, leD_int, gtD_int, geD_int, isD_none, isD_bool, isNotD_none, isNotD_bool, isNoneD_none, isNoneD_bool, isNoneD_int, isNoneD_str, isNoneD_list, isNoneD_tuple, isNoneD_dict, lenD_lst, lenD_tup, absD_int, intD_int, intD_bool, tupleD_lst, tupleD_tup, listD_lst, listD_tup, itemsOf_lst, itemsOf_tup, zipD_lst, zipD_tup, maxD_int, minD_int, slD_tup, slD_lst, pow_10_18, itemsOf_tupI, isi_tuple, isi_int, isi_bool, isi_str, isi_list, isTup_none, isTup_bool, isTup_int, isTup_str, isTup_list, isTup_tuple, isTup_dict, isWB_none, isWB_bool, isWB_int, isWB_str, isWB_list, isWB_tuple, isWB_dict, isB_none, isB_bool, isB_int, isB_str, isB_list, isB_tuple, isB_dict, isStr_none, isStr_bool, isStr_int, isStr_str, isStr_list, isStr_tuple, isStr_dict, isLst_none, isLst_bool, isLst_int, isLst_str, isLst_list, isLst_tuple, isTupI, sumD_lst, lenD_tupI, sumD_tupI, lenD_drD, eqD_int, neD_int, ixD_tup, ixD_lst, at0, at1, at2, at3, List.length_cons, List.length_nil, List.map_cons, List.map_nil, List.cons_append, List.nil_append, List.replicate, List.getElem?_cons_zero, List.getElem?_cons_succ, List.getElem?_nil, List.set_cons_zero, List.set_cons_succ, Nat.reduceAdd, Nat.reduceSub, Nat.reduceLeDiff, Nat.reduceEqDiff, if_true, if_false, beq_self_eq_true, decide_true, eq_self, reduceCtorEq, Bool.not_true, Bool.not_false, Bool.true_and, Bool.and_true, Bool.false_and, Bool.and_false, Bool.or_true, Bool.true_or, Bool.or_false, Bool.false_or, Bool.false_eq_true, Option.map_some, Option.map_none, Option.bind_some, Option.bind_none, isCnt])
theorem rising_loop {a s : Int} (ha : 0 ≤ a) (ha2 : a ≤ 1000) (hs : 0 ≤ s) (hs2 : s ≤ 100) (d2 : Sl) : ∀ (m j : Nat) (s4 : Sl), j + m ≤ 100 → ∃ s4', forD (tgN 4) (asgS (op2 mulD (vE 3) (op2 addD (vE 0) (op2 mulD (vE 1) (vE 4)))) (tgN 3)) ((List.range' j m).map fun i : Nat => .int i) [.da (.int a), .da (.int s), d2, .da (.int (rp a s j)), s4] = .nx [.da (.int a), .da (.int s), d2, .da (.int (rp a s (j + m))), s4']
  | 0, j, s4, _ => ⟨s4, rfl⟩
  | m + 1, j, s4, h => by
    have st := rp_step ha ha2 hs hs2 (n := j) (by omega)
    have m1 : mulD (.int s) (.int (j : Int)) = some (.da (.int (s * j))) := mulD_sm (by omega) (by omega)
    have m2 : mulD (.int (rp a s j)) (.int (a + s * j)) = some (.da (.int (rp a s (j + 1)))) := mulD_int (bigI_of (rp_lt ha ha2 hs hs2 j (by omega)) (by omega) (by omega)) (bigI_small (by omega) (by omega))
    obtain ⟨s4', ih⟩ := rising_loop ha ha2 hs hs2 d2 m (j + 1) (.da (.int j)) (by omega)
    refine ⟨s4', ?_⟩
    rw [List.range'_succ, List.map_cons]
    unfold forD
    simp only [refE, roS_da, roS_un, roS_ml, runP, runS, seqS, nextS_ap, asgS, parS, ifS, retS, retN, dropS, raiseS, neverS, contS_ap, breakS_ap, frzS, appS, extS, tgN, tgM, tgs, tgT, tgS, vE, cE, op2, op1, aN, aC, tB', andT, orT, notT, andV, orV, notV, ifE, tupE, lstE, caE, chE, callE, callS, isiE_ap, oN, oS, slE, anyI, rngI, zipI, forS, yesT, cgN, cgT, cgs, whileS, rawL, rawOf, rawL_nil, datL, datL_nil, Rv.dat, GD.toBool, toBool_bool, intOf, intOf_int, ofO, ofO_some, ofO_none, Re.ok_bind, Re.ex_bind, Re.no_bind, Re.pure_eq, addD_int, addD_tup, addD_lst, addD_str, subD_int, negD_int, ltD_int, leD_int, gtD_int, geD_int, isD_none, isD_bool, isNotD_none, isNotD_bool, isNoneD_none, isNoneD_bool, isNoneD_int, isNoneD_str, isNoneD_list, isNoneD_tuple, isNoneD_dict, lenD_lst, lenD_tup, absD_int, intD_int, intD_bool, tupleD_lst, tupleD_tup, listD_lst, listD_tup, itemsOf_lst, itemsOf_tup, zipD_lst, zipD_tup, maxD_int, minD_int, slD_tup, slD_lst, pow_10_18, itemsOf_tupI, isi_tuple, isi_int, isi_bool, isi_str, isi_list, isTup_none, isTup_bool, isTup_int, isTup_str, isTup_list, isTup_tuple, isTup_dict, isWB_none, isWB_bool, isWB_int, isWB_str, isWB_list, isWB_tuple, isWB_dict, isB_none, isB_bool, isB_int, isB_str, isB_list, isB_tuple, isB_dict, isStr_none, isStr_bool, isStr_int, isStr_str, isStr_list, isStr_tuple, isStr_dict, isLst_none, isLst_bool, isLst_int, isLst_str, isLst_list, isLst_tuple, isTupI, sumD_lst, lenD_tupI, sumD_tupI, lenD_drD, eqD_int, neD_int, ixD_tup, ixD_lst, at0, at1, at2, at3, List.length_cons, List.length_nil, List.map_cons, List.map_nil, List.cons_append, List.nil_append, List.replicate, List.getElem?_cons_zero, List.getElem?_cons_succ, List.getElem?_nil, List.set_cons_zero, List.set_cons_succ, Nat.reduceAdd, Nat.reduceSub, Nat.reduceLeDiff, Nat.reduceEqDiff, if_true, if_false, beq_self_eq_true, decide_true, eq_self, reduceCtorEq, Bool.not_true, Bool.not_false, Bool.true_and, Bool.and_true, Bool.false_and, Bool.and_false, Bool.or_true, Bool.true_or, Bool.or_false, Bool.false_or, Bool.false_eq_true, Option.map_some, Option.map_none, Option.bind_some, Option.bind_none, m1, m2]
    rw [show j + (m + 1) = j + 1 + m by omega]
    exact ih
theorem rising_ev {a s : Int} {n : Nat} (ha : 0 ≤ a) (ha2 : a ≤ 1000) (hs : 0 ≤ s) (hs2 : s ≤ 100) (hn : n ≤ 100) : m_rising_product [.int a, .int s, .int n] = .ok (.da (.int (rp a s n))) := by
  obtain ⟨s4', h⟩ := rising_loop ha ha2 hs hs2 (.da (.int n)) n 0 .un (by omega)
  rw [← List.range_eq_range', Nat.zero_add] at h
  have h' : rp a s 0 = 1 := rfl
  rw [h'] at h
  unfold m_rising_product d_rising_product
  simp only [refE, roS_da, roS_un, roS_ml, runP, runS, seqS, nextS_ap, asgS, parS, ifS, retS, retN, dropS, raiseS, neverS, contS_ap, breakS_ap, frzS, appS, extS, tgN, tgM, tgs, tgT, tgS, vE, cE, op2, op1, aN, aC, tB', andT, orT, notT, andV, orV, notV, ifE, tupE, lstE, caE, chE, callE, callS, isiE_ap, oN, oS, slE, anyI, rngI, zipI, forS, yesT, cgN, cgT, cgs, whileS, rawL, rawOf, rawL_nil, datL, datL_nil, Rv.dat, GD.toBool, toBool_bool, intOf, intOf_int, ofO, ofO_some, ofO_none, Re.ok_bind, Re.ex_bind, Re.no_bind, Re.pure_eq, addD_int, addD_tup, addD_lst, addD_str, subD_int, negD_int, ltD_int, leD_int, gtD_int, geD_int, isD_none, isD_bool, isNotD_none, isNotD_bool, isNoneD_none, isNoneD_bool, isNoneD_int, isNoneD_str, isNoneD_list, isNoneD_tuple, isNoneD_dict, lenD_lst, lenD_tup, absD_int, intD_int, intD_bool, tupleD_lst, tupleD_tup, listD_lst, listD_tup, itemsOf_lst, itemsOf_tup, zipD_lst, zipD_tup, maxD_int, minD_int, slD_tup, slD_lst, pow_10_18, itemsOf_tupI, isi_tuple, isi_int, isi_bool, isi_str, isi_list, isTup_none, isTup_bool, isTup_int, isTup_str, isTup_list, isTup_tuple, isTup_dict, isWB_none, isWB_bool, isWB_int, isWB_str, isWB_list, isWB_tuple, isWB_dict, isB_none, isB_bool, isB_int, isB_str, isB_list, isB_tuple, isB_dict, isStr_none, isStr_bool, isStr_int, isStr_str, isStr_list, isStr_tuple, isStr_dict, isLst_none, isLst_bool, isLst_int, isLst_str, isLst_list, isLst_tuple, isTupI, sumD_lst, lenD_tupI, sumD_tupI, lenD_drD, eqD_int, neD_int, ixD_tup, ixD_lst, at0, at1, at2, at3, List.length_cons, List.length_nil, List.map_cons, List.map_nil, List.cons_append, List.nil_append, List.replicate, List.getElem?_cons_zero, List.getElem?_cons_succ, List.getElem?_nil, List.set_cons_zero, List.set_cons_succ, Nat.reduceAdd, Nat.reduceSub, Nat.reduceLeDiff, Nat.reduceEqDiff, if_true, if_false, beq_self_eq_true, decide_true, eq_self, reduceCtorEq, Bool.not_true, Bool.not_false, Bool.true_and, Bool.and_true, Bool.false_and, Bool.and_false, Bool.or_true, Bool.true_or, Bool.or_false, Bool.false_or, Bool.false_eq_true, Option.map_some, Option.map_none, Option.bind_some, Option.bind_none, rng_nat (show n ≤ 1000000 by omega), h]
theorem orders_loop (d0 : Sl) : ∀ (cs : List Nat) (x : Int) (s2 : Sl), (∀ c ∈ cs, c ≤ 40) → fcts cs ∣ x → ∃ s2', forD (tgN 2) (asgS (op2 fdivD (vE 1) (callE m_rising_product (aC (cE (.int 1)) (aC (cE (.int 1)) (aC (vE 2) aN))))) (tgN 1)) (cs.map fun c : Nat => .int (c : Int)) [d0, .da (.int x), s2] = .nx [d0, .da (.int (x / fcts cs)), s2']
  | [], x, s2, _, _ => ⟨s2, by unfold forD fcts; simp⟩
  | c :: cs, x, s2, h, hd => by
    have hc := h c (by simp)
    have r := rising_ev (a := 1) (s := 1) (n := c) (by decide) (by decide) (by decide) (by decide) (by omega)
    have lt := rp_lt (a := 1) (s := 1) (by decide) (by decide) (by decide) (by decide) c (by omega)
    have f : fdivD (.int x) (.int (rp 1 1 c)) = some (.da (.int (x / rp 1 1 c))) := fdivD_int (fct_pos c) (by have := log2_lt' lt (by omega); omega)
    have d1 : fct c ∣ x := Int.dvd_trans (Int.dvd_mul_right _ _) hd
    obtain ⟨s2', ih⟩ := orders_loop d0 cs (x / fct c) (.da (.int c)) (fun k hk => h k (by simp [hk])) (by
      obtain ⟨y, rfl⟩ := hd
      refine ⟨y, ?_⟩
      show fct c * fcts cs * y / fct c = _
      rw [Int.mul_assoc, Int.mul_ediv_cancel_left _ (by have := fct_pos c; omega)])
    refine ⟨s2', ?_⟩
    rw [List.map_cons]
    unfold forD
    simp only [refE, roS_da, roS_un, roS_ml, runP, runS, seqS, nextS_ap, asgS, parS, ifS, retS, retN, dropS, raiseS, neverS, contS_ap, breakS_ap, frzS, appS, extS, tgN, tgM, tgs, tgT, tgS, vE, cE, op2, op1, aN, aC, tB', andT, orT, notT, andV, orV, notV, ifE, tupE, lstE, caE, chE, callE, callS, isiE_ap, oN, oS, slE, anyI, rngI, zipI, forS, yesT, cgN, cgT, cgs, whileS, rawL, rawOf, rawL_nil, datL, datL_nil, Rv.dat, GD.toBool, toBool_bool, intOf, intOf_int, ofO, ofO_some, ofO_none, Re.ok_bind, Re.ex_bind, Re.no_bind, Re.pure_eq, addD_int, addD_tup, addD_lst, addD_str, subD_int, negD_int, ltD_int, leD_int, gtD_int, geD_int, isD_none, isD_bool, isNotD_none, isNotD_bool, isNoneD_none, isNoneD_bool, isNoneD_int, isNoneD_str, isNoneD_list, isNoneD_tuple, isNoneD_dict, lenD_lst, lenD_tup, absD_int, intD_int, intD_bool, tupleD_lst, tupleD_tup, listD_lst, listD_tup, itemsOf_lst, itemsOf_tup, zipD_lst, zipD_tup, maxD_int, minD_int, slD_tup, slD_lst, pow_10_18, itemsOf_tupI, isi_tuple, isi_int, isi_bool, isi_str, isi_list, isTup_none, isTup_bool, isTup_int, isTup_str, isTup_list, isTup_tuple, isTup_dict, isWB_none, isWB_bool, isWB_int, isWB_str, isWB_list, isWB_tuple, isWB_dict, isB_none, isB_bool, isB_int, isB_str, isB_list, isB_tuple, isB_dict, isStr_none, isStr_bool, isStr_int, isStr_str, isStr_list, isStr_tuple, isStr_dict, isLst_none, isLst_bool, isLst_int, isLst_str, isLst_list, isLst_tuple, isTupI, sumD_lst, lenD_tupI, sumD_tupI, lenD_drD, eqD_int, neD_int, ixD_tup, ixD_lst, at0, at1, at2, at3, List.length_cons, List.length_nil, List.map_cons, List.map_nil, List.cons_append, List.nil_append, List.replicate, List.getElem?_cons_zero, List.getElem?_cons_succ, List.getElem?_nil, List.set_cons_zero, List.set_cons_succ, Nat.reduceAdd, Nat.reduceSub, Nat.reduceLeDiff, Nat.reduceEqDiff, if_true, if_false, beq_self_eq_true, decide_true, eq_self, reduceCtorEq, Bool.not_true, Bool.not_false, Bool.true_and, Bool.and_true, Bool.false_and, Bool.and_false, Bool.or_true, Bool.true_or, Bool.or_false, Bool.false_or, Bool.false_eq_true, Option.map_some, Option.map_none, Option.bind_some, Option.bind_none, r, f]
    show forD _ _ _ [d0, .da (.int (x / fct c)), .da (.int c)] = _
    rw [ih, show fcts (c :: cs) = fct c * fcts cs from rfl, Int.ediv_ediv_of_nonneg (by have := fct_pos c; omega)]
theorem orders_ev {n : Nat} {cs : List Nat} (h : Cnt n cs) : m_orders_of [cnD cs] = .ok (.da (.int (ordN cs))) := by
  have hs := h.sum
  obtain ⟨s2', L⟩ := orders_loop (.da (cnD cs)) cs (fct cs.sum) .un (fun c hc => by have := mem_le_sum hc; omega) (fcts_dvd cs)
  have r := rising_ev (a := 1) (s := 1) (n := cs.sum) (by decide) (by decide) (by decide) (by decide) (by omega)
  have e : sumD [cnD cs] = some (.da (.int (cs.sum : Nat))) := by rw [← sum_cast]; exact sumD_tupI _
  have i : itemsOf (cnD cs) = some (cs.map fun c : Nat => .int (c : Int)) := by show some ((cs.map fun c : Nat => (c : Int)).map PyData.int) = _; rw [List.map_map]; rfl
  have L' : forD (tgN 2) (asgS (op2 fdivD (vE 1) (callE m_rising_product (aC (cE (.int 1)) (aC (cE (.int 1)) (aC (vE 2) aN))))) (tgN 1)) (cs.map fun c : Nat => .int (c : Int)) [.da (cnD cs), .da (.int (rp 1 1 cs.sum)), .un] = _ := L
  unfold m_orders_of d_orders_of
  simp only [refE, roS_da, roS_un, roS_ml, runP, runS, seqS, nextS_ap, asgS, parS, ifS, retS, retN, dropS, raiseS, neverS, contS_ap, breakS_ap, frzS, appS, extS, tgN, tgM, tgs, tgT, tgS, vE, cE, op2, op1, aN, aC, tB', andT, orT, notT, andV, orV, notV, ifE, tupE, lstE, caE, chE, callE, callS, isiE_ap, oN, oS, slE, anyI, rngI, zipI, forS, yesT, cgN, cgT, cgs, whileS, rawL, rawOf, rawL_nil, datL, datL_nil, Rv.dat, GD.toBool, toBool_bool, intOf, intOf_int, ofO, ofO_some, ofO_none, Re.ok_bind, Re.ex_bind, Re.no_bind, Re.pure_eq, addD_int, addD_tup, addD_lst, addD_str, subD_int, negD_int, ltD_int, leD_int, gtD_int, geD_int, isD_none, isD_bool, isNotD_none, isNotD_bool, isNoneD_none, isNoneD_bool, isNoneD_int, isNoneD_str, isNoneD_list, isNoneD_tuple, isNoneD_dict, lenD_lst, lenD_tup, absD_int, intD_int, intD_bool, tupleD_lst, tupleD_tup, listD_lst, listD_tup, itemsOf_lst, itemsOf_tup, zipD_lst, zipD_tup, maxD_int, minD_int, slD_tup, slD_lst, pow_10_18, itemsOf_tupI, isi_tuple, isi_int, isi_bool, isi_str, isi_list, isTup_none, isTup_bool, isTup_int, isTup_str, isTup_list, isTup_tuple, isTup_dict, isWB_none, isWB_bool, isWB_int, isWB_str, isWB_list, isWB_tuple, isWB_dict, isB_none, isB_bool, isB_int, isB_str, isB_list, isB_tuple, isB_dict, isStr_none, isStr_bool, isStr_int, isStr_str, isStr_list, isStr_tuple, isStr_dict, isLst_none, isLst_bool, isLst_int, isLst_str, isLst_list, isLst_tuple, isTupI, sumD_lst, lenD_tupI, sumD_tupI, lenD_drD, eqD_int, neD_int, ixD_tup, ixD_lst, at0, at1, at2, at3, List.length_cons, List.length_nil, List.map_cons, List.map_nil, List.cons_append, List.nil_append, List.replicate, List.getElem?_cons_zero, List.getElem?_cons_succ, List.getElem?_nil, List.set_cons_zero, List.set_cons_succ, Nat.reduceAdd, Nat.reduceSub, Nat.reduceLeDiff, Nat.reduceEqDiff, if_true, if_false, beq_self_eq_true, decide_true, eq_self, reduceCtorEq, Bool.not_true, Bool.not_false, Bool.true_and, Bool.and_true, Bool.false_and, Bool.and_false, Bool.or_true, Bool.true_or, Bool.or_false, Bool.false_or, Bool.false_eq_true, Option.map_some, Option.map_none, Option.bind_some, Option.bind_none, e, r, i, L']
  rfl
theorem cnt_loop {m : Int} (hm : 0 ≤ m) (hm2 : m ≤ 5) (d0 d2 : Sl) : ∀ (us : List Int) (cs : List Nat) (x : Int) (k : Nat) (s4 s5 : Sl), (∀ x ∈ us, 0 ≤ x ∧ x ≤ 20) → (∀ c ∈ cs, c ≤ 40) → us.length = cs.length → x.natAbs < 2 ^ k → 0 < k → k + 600 * us.length ≤ 4000 → ∃ s4' s5',
    forD (tgT [tgN 4, tgN 5]) (asgS (op2 mulD (vE 3) (callE m_rising_product (aC (vE 4) (aC (vE 1) (aC (vE 5) aN))))) (tgN 3)) (((us.map PyData.int).zip (cs.map fun c : Nat => .int (c : Int))).map fun p => .tuple [p.1, p.2]) [d0, .da (.int m), d2, .da (.int x), s4, s5] = .nx [d0, .da (.int m), d2, .da (.int (x * rps m us cs)), s4', s5']
  | [], [], x, k, s4, s5, _, _, _, _, _, _ => ⟨s4, s5, by show SR.nx _ = _; simp [rps]⟩
  | u :: us, c :: cs, x, k, s4, s5, h1, h2, hl, hx, hk, hb => by
    have hu := h1 u (by simp)
    have hc := h2 c (by simp)
    have r := rising_ev (a := u) (s := m) (n := c) hu.1 (by omega) hm (by omega) (by omega)
    have lt := rp_lt (a := u) (s := m) hu.1 (by omega) hm (by omega) c (by omega)
    have M : mulD (.int x) (.int (rp u m c)) = some (.da (.int (x * rp u m c))) := mulD_int (bigI_of hx (by simp at hb; omega) hk) (bigI_of lt (by omega) (by omega))
    obtain ⟨s4', s5', ih⟩ := cnt_loop hm hm2 d0 d2 us cs (x * rp u m c) (k + (14 * c + 1)) (.da (.int u)) (.da (.int c)) (fun x hx => h1 x (by simp [hx])) (fun x hx => h2 x (by simp [hx])) (by simpa using hl) (mul_lt_powI hx lt) (by omega) (by simp at hb; omega)
    refine ⟨s4', s5', ?_⟩
    rw [List.map_cons, List.map_cons, List.zip_cons_cons, List.map_cons]
    unfold forD
    simp only [refE, roS_da, roS_un, roS_ml, runP, runS, seqS, nextS_ap, asgS, parS, ifS, retS, retN, dropS, raiseS, neverS, contS_ap, breakS_ap, frzS, appS, extS, tgN, tgM, tgs, tgT, tgS, vE, cE, op2, op1, aN, aC, tB', andT, orT, notT, andV, orV, notV, ifE, tupE, lstE, caE, chE, callE, callS, isiE_ap, oN, oS, slE, anyI, rngI, zipI, forS, yesT, cgN, cgT, cgs, whileS, rawL, rawOf, rawL_nil, datL, datL_nil, Rv.dat, GD.toBool, toBool_bool, intOf, intOf_int, ofO, ofO_some, ofO_none, Re.ok_bind, Re.ex_bind, Re.no_bind, Re.pure_eq, addD_int, addD_tup, addD_lst, addD_str, subD_int, negD_int, ltD_int, leD_int, gtD_int, geD_int, isD_none, isD_bool, isNotD_none, isNotD_bool, isNoneD_none, isNoneD_bool, isNoneD_int, isNoneD_str, isNoneD_list, isNoneD_tuple, isNoneD_dict, lenD_lst, lenD_tup, absD_int, intD_int, intD_bool, tupleD_lst, tupleD_tup, listD_lst, listD_tup, itemsOf_lst, itemsOf_tup, zipD_lst, zipD_tup, maxD_int, minD_int, slD_tup, slD_lst, pow_10_18, itemsOf_tupI, isi_tuple, isi_int, isi_bool, isi_str, isi_list, isTup_none, isTup_bool, isTup_int, isTup_str, isTup_list, isTup_tuple, isTup_dict, isWB_none, isWB_bool, isWB_int, isWB_str, isWB_list, isWB_tuple, isWB_dict, isB_none, isB_bool, isB_int, isB_str, isB_list, isB_tuple, isB_dict, isStr_none, isStr_bool, isStr_int, isStr_str, isStr_list, isStr_tuple, isStr_dict, isLst_none, isLst_bool, isLst_int, isLst_str, isLst_list, isLst_tuple, isTupI, sumD_lst, lenD_tupI, sumD_tupI, lenD_drD, eqD_int, neD_int, ixD_tup, ixD_lst, at0, at1, at2, at3, List.length_cons, List.length_nil, List.map_cons, List.map_nil, List.cons_append, List.nil_append, List.replicate, List.getElem?_cons_zero, List.getElem?_cons_succ, List.getElem?_nil, List.set_cons_zero, List.set_cons_succ, Nat.reduceAdd, Nat.reduceSub, Nat.reduceLeDiff, Nat.reduceEqDiff, if_true, if_false, beq_self_eq_true, decide_true, eq_self, reduceCtorEq, Bool.not_true, Bool.not_false, Bool.true_and, Bool.and_true, Bool.false_and, Bool.and_false, Bool.or_true, Bool.true_or, Bool.or_false, Bool.false_or, Bool.false_eq_true, Option.map_some, Option.map_none, Option.bind_some, Option.bind_none, r, M]
    rw [ih, Int.mul_assoc]
    rfl
theorem ordN_lt {n : Nat} {cs : List Nat} (h : Cnt n cs) : (ordN cs).natAbs < 2 ^ 600 := by
  have h1 := rp_lt (a := 1) (s := 1) (by decide) (by decide) (by decide) (by decide) cs.sum (by have := h.sum; omega)
  have h2 := ordN_mul cs
  have h3 := fcts_pos cs
  have h4 : (ordN cs).natAbs ≤ (fct cs.sum).natAbs := by
    rw [← h2, Int.natAbs_mul]
    exact Nat.le_mul_of_pos_right _ (by omega)
  have h5 : 2 ^ (14 * cs.sum + 1) ≤ 2 ^ 600 := Nat.pow_le_pow_right (by decide) (by have := h.sum; omega)
  exact Nat.lt_of_le_of_lt h4 (Nat.lt_of_lt_of_le h1 h5)
theorem cntby_ev {u : List Int} {m : Int} {cs : List Nat} (hu : Urn 20 u) (hm : 0 ≤ m) (hm2 : m ≤ 5) (h : Cnt u.length cs) : m_chance_by [tupI u, .int m, cnD cs] = .ok (.da (frD (cntQ u m cs))) := by
  have hs := h.sum
  have hl := h.len
  have hl4 := hu.l4
  have hsum := sum_le hu.all
  have hpos := hu.pos
  obtain ⟨s4', s5', L⟩ := cnt_loop hm hm2 (.da (tupI u)) (.da (cnD cs)) u cs (ordN cs) 600 .un .un hu.all (fun c hc => by have := mem_le_sum hc; omega) h.len.symm (ordN_lt h) (by decide) (by omega)
  have r := rising_ev (a := u.sum) (s := m) (n := cs.sum) (by omega) (by omega) hm (by omega) (by omega)
  have lt := rp_lt (a := u.sum) (s := m) (by omega) (by omega) hm (by omega) cs.sum (by omega)
  have e : sumD [cnD cs] = some (.da (.int (cs.sum : Nat))) := by rw [← sum_cast]; exact sumD_tupI _
  have z : zipD [tupI u, cnD cs] = some (((u.map PyData.int).zip (cs.map fun c : Nat => .int (c : Int))).map fun p => .tuple [p.1, p.2]) := by
    show some (((u.map PyData.int).zip ((cs.map fun c : Nat => (c : Int)).map PyData.int)).map _) = _
    rw [List.map_map]; rfl
  have p := rp_pos (a := u.sum) (s := m) hpos hm cs.sum
  have f := fraction_ev (ordN cs * rps m u cs) (b := rp u.sum m cs.sum) p (by
    have h9 : 2 ^ (14 * cs.sum + 1) ≤ 2 ^ 8000 := Nat.pow_le_pow_right (by decide) (by omega)
    have : ((rp u.sum m cs.sum).natAbs : Int) < ((2 ^ 8000 : Nat) : Int) := by exact_mod_cast Nat.lt_of_lt_of_le lt h9
    rw [Int.natAbs_of_nonneg (by omega)] at this
    exact_mod_cast this)
  unfold m_chance_by d_chance_by
  simp only [refE, roS_da, roS_un, roS_ml, runP, runS, seqS, nextS_ap, asgS, parS, ifS, retS, retN, dropS, raiseS, neverS, contS_ap, breakS_ap, frzS, appS, extS, tgN, tgM, tgs, tgT, tgS, vE, cE, op2, op1, aN, aC, tB', andT, orT, notT, andV, orV, notV, ifE, tupE, lstE, caE, chE, callE, callS, isiE_ap, oN, oS, slE, anyI, rngI, zipI, forS, yesT, cgN, cgT, cgs, whileS, rawL, rawOf, rawL_nil, datL, datL_nil, Rv.dat, GD.toBool, toBool_bool, intOf, intOf_int, ofO, ofO_some, ofO_none, Re.ok_bind, Re.ex_bind, Re.no_bind, Re.pure_eq, addD_int, addD_tup, addD_lst, addD_str, subD_int, negD_int, ltD_int, leD_int, gtD_int, geD_int, isD_none, isD_bool, isNotD_none, isNotD_bool, isNoneD_none, isNoneD_bool, isNoneD_int, isNoneD_str, isNoneD_list, isNoneD_tuple, isNoneD_dict, lenD_lst, lenD_tup, absD_int, intD_int, intD_bool, tupleD_lst, tupleD_tup, listD_lst, listD_tup, itemsOf_lst, itemsOf_tup, zipD_lst, zipD_tup, maxD_int, minD_int, slD_tup, slD_lst, pow_10_18, itemsOf_tupI, isi_tuple, isi_int, isi_bool, isi_str, isi_list, isTup_none, isTup_bool, isTup_int, isTup_str, isTup_list, isTup_tuple, isTup_dict, isWB_none, isWB_bool, isWB_int, isWB_str, isWB_list, isWB_tuple, isWB_dict, isB_none, isB_bool, isB_int, isB_str, isB_list, isB_tuple, isB_dict, isStr_none, isStr_bool, isStr_int, isStr_str, isStr_list, isStr_tuple, isStr_dict, isLst_none, isLst_bool, isLst_int, isLst_str, isLst_list, isLst_tuple, isTupI, sumD_lst, lenD_tupI, sumD_tupI, lenD_drD, eqD_int, neD_int, ixD_tup, ixD_lst, at0, at1, at2, at3, List.length_cons, List.length_nil, List.map_cons, List.map_nil, List.cons_append, List.nil_append, List.replicate, List.getElem?_cons_zero, List.getElem?_cons_succ, List.getElem?_nil, List.set_cons_zero, List.set_cons_succ, Nat.reduceAdd, Nat.reduceSub, Nat.reduceLeDiff, Nat.reduceEqDiff, if_true, if_false, beq_self_eq_true, decide_true, eq_self, reduceCtorEq, Bool.not_true, Bool.not_false, Bool.true_and, Bool.and_true, Bool.false_and, Bool.and_false, Bool.or_true, Bool.true_or, Bool.or_false, Bool.false_or, Bool.false_eq_true, Option.map_some, Option.map_none, Option.bind_some, Option.bind_none, orders_ev h, z, L, sumD_tupI, e, r, f]
  rfl
theorem counts_chance_ev {u : List Int} {m : Int} {cs : List Nat} (hu : Urn 20 u) (hm : 0 ≤ m) (hm2 : m ≤ 5) (h : Cnt u.length cs) : m_counts_chance [tupI u, .int m, cnD cs] = .ok (.da (frD (cntQ u m cs))) := by
  unfold m_counts_chance d_counts_chance
  simp only [refE, roS_da, roS_un, roS_ml, runP, runS, seqS, nextS_ap, asgS, parS, ifS, retS, retN, dropS, raiseS, neverS, contS_ap, breakS_ap, frzS, appS, extS, tgN, tgM, tgs, tgT, tgS, vE, cE, op2, op1, aN, aC, tB', andT, orT, notT, andV, orV, notV, ifE, tupE, lstE, caE, chE, callE, callS, isiE_ap, oN, oS, slE, anyI, rngI, zipI, forS, yesT, cgN, cgT, cgs, whileS, rawL, rawOf, rawL_nil, datL, datL_nil, Rv.dat, GD.toBool, toBool_bool, intOf, intOf_int, ofO, ofO_some, ofO_none, Re.ok_bind, Re.ex_bind, Re.no_bind, Re.pure_eq, addD_int, addD_tup, addD_lst, addD_str, subD_int, negD_int, ltD_int, leD_int, gtD_int, geD_int, isD_none, isD_bool, isNotD_none, isNotD_bool, isNoneD_none, isNoneD_bool, isNoneD_int, isNoneD_str, isNoneD_list, isNoneD_tuple, isNoneD_dict, lenD_lst, lenD_tup, absD_int, intD_int, intD_bool, tupleD_lst, tupleD_tup, listD_lst, listD_tup, itemsOf_lst, itemsOf_tup, zipD_lst, zipD_tup, maxD_int, minD_int, slD_tup, slD_lst, pow_10_18, itemsOf_tupI, isi_tuple, isi_int, isi_bool, isi_str, isi_list, isTup_none, isTup_bool, isTup_int, isTup_str, isTup_list, isTup_tuple, isTup_dict, isWB_none, isWB_bool, isWB_int, isWB_str, isWB_list, isWB_tuple, isWB_dict, isB_none, isB_bool, isB_int, isB_str, isB_list, isB_tuple, isB_dict, isStr_none, isStr_bool, isStr_int, isStr_str, isStr_list, isStr_tuple, isStr_dict, isLst_none, isLst_bool, isLst_int, isLst_str, isLst_list, isLst_tuple, isTupI, sumD_lst, lenD_tupI, sumD_tupI, lenD_drD, eqD_int, neD_int, ixD_tup, ixD_lst, at0, at1, at2, at3, List.length_cons, List.length_nil, List.map_cons, List.map_nil, List.cons_append, List.nil_append, List.replicate, List.getElem?_cons_zero, List.getElem?_cons_succ, List.getElem?_nil, List.set_cons_zero, List.set_cons_succ, Nat.reduceAdd, Nat.reduceSub, Nat.reduceLeDiff, Nat.reduceEqDiff, if_true, if_false, beq_self_eq_true, decide_true, eq_self, reduceCtorEq, Bool.not_true, Bool.not_false, Bool.true_and, Bool.and_true, Bool.false_and, Bool.and_false, Bool.or_true, Bool.true_or, Bool.or_false, Bool.false_or, Bool.false_eq_true, Option.map_some, Option.map_none, Option.bind_some, Option.bind_none, need_urn_ok (isUrn_of hu (by decide)), need_number_ok (d := .int m) (a := 0) (b := 5) (by simp [btw]; omega), need_counts_ev hu.l4, isCnt_of h, cntby_ev hu hm hm2 h]
theorem counts_bad_urn {d m c : D} (h : isUrn d = false) : m_counts_chance [d, m, c] = .ex "NoUrn" := by
  unfold m_counts_chance d_counts_chance
  simp only [refE, roS_da, roS_un, roS_ml, runP, runS, seqS, nextS_ap, asgS, parS, ifS, retS, retN, dropS, raiseS, neverS, contS_ap, breakS_ap, frzS, appS, extS, tgN, tgM, tgs, tgT, tgS, vE, cE, op2, op1, aN, aC, tB', andT, orT, notT, andV, orV, notV, ifE, tupE, lstE, caE, chE, callE, callS, isiE_ap, oN, oS, slE, anyI, rngI, zipI, forS, yesT, cgN, cgT, cgs, whileS, rawL, rawOf, rawL_nil, datL, datL_nil, Rv.dat, GD.toBool, toBool_bool, intOf, intOf_int, ofO, ofO_some, ofO_none, Re.ok_bind, Re.ex_bind, Re.no_bind, Re.pure_eq, addD_int, addD_tup, addD_lst, addD_str, subD_int, negD_int, ltD_int, leD_int, gtD_int, geD_int, isD_none, isD_bool, isNotD_none, isNotD_bool, isNoneD_none, isNoneD_bool, isNoneD_int, isNoneD_str, isNoneD_list, isNoneD_tuple, isNoneD_dict, lenD_lst, lenD_tup, absD_int, intD_int, intD_bool, tupleD_lst, tupleD_tup, listD_lst, listD_tup, itemsOf_lst, itemsOf_tup, zipD_lst, zipD_tup, maxD_int, minD_int, slD_tup, slD_lst, pow_10_18, itemsOf_tupI, isi_tuple, isi_int, isi_bool, isi_str, isi_list, isTup_none, isTup_bool, isTup_int, isTup_str, isTup_list, isTup_tuple, isTup_dict, isWB_none, isWB_bool, isWB_int, isWB_str, isWB_list, isWB_tuple, isWB_dict, isB_none, isB_bool, isB_int, isB_str, isB_list, isB_tuple, isB_dict, isStr_none, isStr_bool, isStr_int, isStr_str, isStr_list, isStr_tuple, isStr_dict, isLst_none, isLst_bool, isLst_int, isLst_str, isLst_list, isLst_tuple, isTupI, sumD_lst, lenD_tupI, sumD_tupI, lenD_drD, eqD_int, neD_int, ixD_tup, ixD_lst, at0, at1, at2, at3, List.length_cons, List.length_nil, List.map_cons, List.map_nil, List.cons_append, List.nil_append, List.replicate, List.getElem?_cons_zero, List.getElem?_cons_succ, List.getElem?_nil, List.set_cons_zero, List.set_cons_succ, Nat.reduceAdd, Nat.reduceSub, Nat.reduceLeDiff, Nat.reduceEqDiff, if_true, if_false, beq_self_eq_true, decide_true, eq_self, reduceCtorEq, Bool.not_true, Bool.not_false, Bool.true_and, Bool.and_true, Bool.false_and, Bool.and_false, Bool.or_true, Bool.true_or, Bool.or_false, Bool.false_or, Bool.false_eq_true, Option.map_some, Option.map_none, Option.bind_some, Option.bind_none, need_urn_bad h]
theorem counts_bad_more {d m c : D} (h : isUrn d = true) (hm : btw m 0 5 = false) : m_counts_chance [d, m, c] = .ex "NoNumber" := by
  unfold m_counts_chance d_counts_chance
  simp only [refE, roS_da, roS_un, roS_ml, runP, runS, seqS, nextS_ap, asgS, parS, ifS, retS, retN, dropS, raiseS, neverS, contS_ap, breakS_ap, frzS, appS, extS, tgN, tgM, tgs, tgT, tgS, vE, cE, op2, op1, aN, aC, tB', andT, orT, notT, andV, orV, notV, ifE, tupE, lstE, caE, chE, callE, callS, isiE_ap, oN, oS, slE, anyI, rngI, zipI, forS, yesT, cgN, cgT, cgs, whileS, rawL, rawOf, rawL_nil, datL, datL_nil, Rv.dat, GD.toBool, toBool_bool, intOf, intOf_int, ofO, ofO_some, ofO_none, Re.ok_bind, Re.ex_bind, Re.no_bind, Re.pure_eq, addD_int, addD_tup, addD_lst, addD_str, subD_int, negD_int, ltD_int, leD_int, gtD_int, geD_int, isD_none, isD_bool, isNotD_none, isNotD_bool, isNoneD_none, isNoneD_bool, isNoneD_int, isNoneD_str, isNoneD_list, isNoneD_tuple, isNoneD_dict, lenD_lst, lenD_tup, absD_int, intD_int, intD_bool, tupleD_lst, tupleD_tup, listD_lst, listD_tup, itemsOf_lst, itemsOf_tup, zipD_lst, zipD_tup, maxD_int, minD_int, slD_tup, slD_lst, pow_10_18, itemsOf_tupI, isi_tuple, isi_int, isi_bool, isi_str, isi_list, isTup_none, isTup_bool, isTup_int, isTup_str, isTup_list, isTup_tuple, isTup_dict, isWB_none, isWB_bool, isWB_int, isWB_str, isWB_list, isWB_tuple, isWB_dict, isB_none, isB_bool, isB_int, isB_str, isB_list, isB_tuple, isB_dict, isStr_none, isStr_bool, isStr_int, isStr_str, isStr_list, isStr_tuple, isStr_dict, isLst_none, isLst_bool, isLst_int, isLst_str, isLst_list, isLst_tuple, isTupI, sumD_lst, lenD_tupI, sumD_tupI, lenD_drD, eqD_int, neD_int, ixD_tup, ixD_lst, at0, at1, at2, at3, List.length_cons, List.length_nil, List.map_cons, List.map_nil, List.cons_append, List.nil_append, List.replicate, List.getElem?_cons_zero, List.getElem?_cons_succ, List.getElem?_nil, List.set_cons_zero, List.set_cons_succ, Nat.reduceAdd, Nat.reduceSub, Nat.reduceLeDiff, Nat.reduceEqDiff, if_true, if_false, beq_self_eq_true, decide_true, eq_self, reduceCtorEq, Bool.not_true, Bool.not_false, Bool.true_and, Bool.and_true, Bool.false_and, Bool.and_false, Bool.or_true, Bool.true_or, Bool.or_false, Bool.false_or, Bool.false_eq_true, Option.map_some, Option.map_none, Option.bind_some, Option.bind_none, need_urn_ok h, need_number_bad hm]
theorem counts_bad_counts {u : List Int} {m c : D} (h : Urn 20 u) (hm : btw m 0 5 = true) (hc : isCnt u.length c = false) : m_counts_chance [tupI u, m, c] = .ex "NoCounts" := by
  unfold m_counts_chance d_counts_chance
  simp only [refE, roS_da, roS_un, roS_ml, runP, runS, seqS, nextS_ap, asgS, parS, ifS, retS, retN, dropS, raiseS, neverS, contS_ap, breakS_ap, frzS, appS, extS, tgN, tgM, tgs, tgT, tgS, vE, cE, op2, op1, aN, aC, tB', andT, orT, notT, andV, orV, notV, ifE, tupE, lstE, caE, chE, callE, callS, isiE_ap, oN, oS, slE, anyI, rngI, zipI, forS, yesT, cgN, cgT, cgs, whileS, rawL, rawOf, rawL_nil, datL, datL_nil, Rv.dat, GD.toBool, toBool_bool, intOf, intOf_int, ofO, ofO_some, ofO_none, Re.ok_bind, Re.ex_bind, Re.no_bind, Re.pure_eq, addD_int, addD_tup, addD_lst, addD_str, subD_int, negD_int, ltD_int, leD_int, gtD_int, geD_int, isD_none, isD_bool, isNotD_none, isNotD_bool, isNoneD_none, isNoneD_bool, isNoneD_int, isNoneD_str, isNoneD_list, isNoneD_tuple, isNoneD_dict, lenD_lst, lenD_tup, absD_int, intD_int, intD_bool, tupleD_lst, tupleD_tup, listD_lst, listD_tup, itemsOf_lst, itemsOf_tup, zipD_lst, zipD_tup, maxD_int, minD_int, slD_tup, slD_lst, pow_10_18, itemsOf_tupI, isi_tuple, isi_int, isi_bool, isi_str, isi_list, isTup_none, isTup_bool, isTup_int, isTup_str, isTup_list, isTup_tuple, isTup_dict, isWB_none, isWB_bool, isWB_int, isWB_str, isWB_list, isWB_tuple, isWB_dict, isB_none, isB_bool, isB_int, isB_str, isB_list, isB_tuple, isB_dict, isStr_none, isStr_bool, isStr_int, isStr_str, isStr_list, isStr_tuple, isStr_dict, isLst_none, isLst_bool, isLst_int, isLst_str, isLst_list, isLst_tuple, isTupI, sumD_lst, lenD_tupI, sumD_tupI, lenD_drD, eqD_int, neD_int, ixD_tup, ixD_lst, at0, at1, at2, at3, List.length_cons, List.length_nil, List.map_cons, List.map_nil, List.cons_append, List.nil_append, List.replicate, List.getElem?_cons_zero, List.getElem?_cons_succ, List.getElem?_nil, List.set_cons_zero, List.set_cons_succ, Nat.reduceAdd, Nat.reduceSub, Nat.reduceLeDiff, Nat.reduceEqDiff, if_true, if_false, beq_self_eq_true, decide_true, eq_self, reduceCtorEq, Bool.not_true, Bool.not_false, Bool.true_and, Bool.and_true, Bool.false_and, Bool.and_false, Bool.or_true, Bool.true_or, Bool.or_false, Bool.false_or, Bool.false_eq_true, Option.map_some, Option.map_none, Option.bind_some, Option.bind_none, need_urn_ok (isUrn_of h (by decide)), need_number_ok hm, need_counts_ev h.l4, hc]

/-! ### counts by chance; what is due -/
theorem lcounts_loop {n : Nat} (hn : n ≤ 4) : ∀ (m j : Nat) (ds : List D) (sp : Nat) (cs : List Nat) (s4 s5 s6 : Sl), Val ds → j + m = n → cs.length = j → cs.sum + sp ≤ 40 → ∃ (ds' : List D) (sp' : Nat) (cs' : List Nat) (s4' s5' : Sl), Val ds' ∧ cs'.length = n ∧ cs'.sum + sp' ≤ 40 ∧
    forD (tgN 4) (seqS (asgS (callS m__law_take (aC (vE 0) (aC (op2 addD (vE 2) (cE (.int 1))) aN))) (tgN 5)) (seqS (appS (vE 3) (vE 5)) (asgS (op2 subD (vE 2) (vE 5)) (tgN 2)))) ((List.range' j m).map fun i : Nat => .int i) [.ml false ds, .da (.int n), .da (.int (sp : Int)), .ml true (cs.map fun c : Nat => .int (c : Int)), s4, s5, s6] = .nx [.ml false ds', .da (.int n), .da (.int (sp' : Nat)), .ml true (cs'.map fun c : Nat => .int (c : Int)), s4', s5', s6]
  | 0, j, ds, sp, cs, s4, s5, s6, h, hj, hc, hs => ⟨ds, sp, cs, s4, s5, h, by omega, hs, rfl⟩
  | m + 1, j, ds, sp, cs, s4, s5, s6, h, hj, hc, hs => by
    obtain ⟨v, d1, e1, hv, h1⟩ := take_ev h (n := (sp : Int) + 1) (by omega) (by omega)
    obtain ⟨ds', sp', cs', s4', s5', a, b, c, ih⟩ := lcounts_loop hn m (j + 1) d1 (sp - v) (cs ++ [v]) (.da (.int j)) (.da (.int v)) s6 h1 (by omega) (by simp [hc]) (by simp; omega)
    refine ⟨ds', sp', cs', s4', s5', a, b, c, ?_⟩
    have z : (sp : Int) - (v : Int) = ((sp - v : Nat) : Int) := by omega
    have z2 : (cs.map fun c : Nat => PyData.int (c : Int)).length < 1000000 := by simp; omega
    rw [List.range'_succ, List.map_cons]
    unfold forD
    simp only [refE, roS_da, roS_un, roS_ml, runP, runS, seqS, nextS_ap, asgS, parS, ifS, retS, retN, dropS, raiseS, neverS, contS_ap, breakS_ap, frzS, appS, extS, tgN, tgM, tgs, tgT, tgS, vE, cE, op2, op1, aN, aC, tB', andT, orT, notT, andV, orV, notV, ifE, tupE, lstE, caE, chE, callE, callS, isiE_ap, oN, oS, slE, anyI, rngI, zipI, forS, yesT, cgN, cgT, cgs, whileS, rawL, rawOf, rawL_nil, datL, datL_nil, Rv.dat, GD.toBool, toBool_bool, intOf, intOf_int, ofO, ofO_some, ofO_none, Re.ok_bind, Re.ex_bind, Re.no_bind, Re.pure_eq, addD_int, addD_tup, addD_lst, addD_str, subD_int, negD_int, ltD_int, leD_int, gtD_int, geD_int, isD_none, isD_bool, isNotD_none, isNotD_bool, isNoneD_none, isNoneD_bool, isNoneD_int, isNoneD_str, isNoneD_list, isNoneD_tuple, isNoneD_dict, lenD_lst, lenD_tup, absD_int, intD_int, intD_bool, tupleD_lst, tupleD_tup, listD_lst, listD_tup, itemsOf_lst, itemsOf_tup, zipD_lst, zipD_tup, maxD_int, minD_int, slD_tup, slD_lst, pow_10_18, itemsOf_tupI, isi_tuple, isi_int, isi_bool, isi_str, isi_list, isTup_none, isTup_bool, isTup_int, isTup_str, isTup_list, isTup_tuple, isTup_dict, isWB_none, isWB_bool, isWB_int, isWB_str, isWB_list, isWB_tuple, isWB_dict, isB_none, isB_bool, isB_int, isB_str, isB_list, isB_tuple, isB_dict, isStr_none, isStr_bool, isStr_int, isStr_str, isStr_list, isStr_tuple, isStr_dict, isLst_none, isLst_bool, isLst_int, isLst_str, isLst_list, isLst_tuple, isTupI, sumD_lst, lenD_tupI, sumD_tupI, lenD_drD, eqD_int, neD_int, ixD_tup, ixD_lst, at0, at1, at2, at3, List.length_cons, List.length_nil, List.map_cons, List.map_nil, List.cons_append, List.nil_append, List.replicate, List.getElem?_cons_zero, List.getElem?_cons_succ, List.getElem?_nil, List.set_cons_zero, List.set_cons_succ, Nat.reduceAdd, Nat.reduceSub, Nat.reduceLeDiff, Nat.reduceEqDiff, if_true, if_false, beq_self_eq_true, decide_true, eq_self, reduceCtorEq, Bool.not_true, Bool.not_false, Bool.true_and, Bool.and_true, Bool.false_and, Bool.and_false, Bool.or_true, Bool.true_or, Bool.or_false, Bool.false_or, Bool.false_eq_true, Option.map_some, Option.map_none, Option.bind_some, Option.bind_none, e1, if_pos z2, z]
    rw [List.map_append] at ih
    exact ih
theorem sum_rot (cs : List Nat) (k : Nat) : (cs.drop k ++ cs.take k).sum = cs.sum := by
  conv => rhs; rw [← List.take_append_drop k cs]
  rw [List.sum_append, List.sum_append, Nat.add_comm]
theorem lcounts_ev {ds : List D} {n : Nat} (h : Val ds) (h1 : 1 ≤ n) (h4 : n ≤ 4) : ∃ cs ds', m__law_counts ds [.int n] = .ok (cnD cs, ds') ∧ Cnt n cs ∧ Val ds' := by
  obtain ⟨v, d1, e1, hv, hd1⟩ := take_ev h (n := 3) (by decide) (by decide)
  obtain ⟨j, _, hj, ej⟩ := ix_btw (xs := [.int 6, .int 12, .int 40]) (a := 0) (b := 40) (v := v) (by decide) (by simp [btw]) (by simp; omega)
  obtain ⟨d2, sp', cs, s4, s5, hd2, hl, hs, L⟩ := lcounts_loop (n := n) h4 n 0 d1 j [] .un .un .un hd1 (by omega) rfl (by simp; omega)
  rw [← List.range_eq_range'] at L
  obtain ⟨k, d3, e3, hk, hd3⟩ := take_ev hd2 (n := n) (by omega) (by omega)
  refine ⟨cs.drop k ++ cs.take k, d3, ?_, ⟨by simp; omega, by rw [sum_rot]; omega⟩, hd3⟩
  have L' : forD (tgN 4) (seqS (asgS (callS m__law_take (aC (vE 0) (aC (op2 addD (vE 2) (cE (.int 1))) aN))) (tgN 5)) (seqS (appS (vE 3) (vE 5)) (asgS (op2 subD (vE 2) (vE 5)) (tgN 2)))) ((List.range n).map fun i : Nat => .int i) [.ml false d1, .da (.int n), .da (.int (j : Int)), .ml true [], .un, .un, .un] = _ := L
  unfold m__law_counts d__law_counts
  have z2 : ((cs.map fun c : Nat => PyData.int (c : Int)).drop k).length + ((cs.map fun c : Nat => PyData.int (c : Int)).take k).length ≤ 1000000 := by simp; omega
  simp only [refE, roS_da, roS_un, roS_ml, runP, runS, seqS, nextS_ap, asgS, parS, ifS, retS, retN, dropS, raiseS, neverS, contS_ap, breakS_ap, frzS, appS, extS, tgN, tgM, tgs, tgT, tgS, vE, cE, op2, op1, aN, aC, tB', andT, orT, notT, andV, orV, notV, ifE, tupE, lstE, caE, chE, callE, callS, isiE_ap, oN, oS, slE, anyI, rngI, zipI, forS, yesT, cgN, cgT, cgs, whileS, rawL, rawOf, rawL_nil, datL, datL_nil, Rv.dat, GD.toBool, toBool_bool, intOf, intOf_int, ofO, ofO_some, ofO_none, Re.ok_bind, Re.ex_bind, Re.no_bind, Re.pure_eq, addD_int, addD_tup, addD_lst, addD_str, subD_int, negD_int, ltD_int, leD_int, gtD_int, geD_int, isD_none, isD_bool, isNotD_none, isNotD_bool, isNoneD_none, isNoneD_bool, isNoneD_int, isNoneD_str, isNoneD_list, isNoneD_tuple, isNoneD_dict, lenD_lst, lenD_tup, absD_int, intD_int, intD_bool, tupleD_lst, tupleD_tup, listD_lst, listD_tup, itemsOf_lst, itemsOf_tup, zipD_lst, zipD_tup, maxD_int, minD_int, slD_tup, slD_lst, pow_10_18, itemsOf_tupI, isi_tuple, isi_int, isi_bool, isi_str, isi_list, isTup_none, isTup_bool, isTup_int, isTup_str, isTup_list, isTup_tuple, isTup_dict, isWB_none, isWB_bool, isWB_int, isWB_str, isWB_list, isWB_tuple, isWB_dict, isB_none, isB_bool, isB_int, isB_str, isB_list, isB_tuple, isB_dict, isStr_none, isStr_bool, isStr_int, isStr_str, isStr_list, isStr_tuple, isStr_dict, isLst_none, isLst_bool, isLst_int, isLst_str, isLst_list, isLst_tuple, isTupI, sumD_lst, lenD_tupI, sumD_tupI, lenD_drD, eqD_int, neD_int, ixD_tup, ixD_lst, at0, at1, at2, at3, List.length_cons, List.length_nil, List.map_cons, List.map_nil, List.cons_append, List.nil_append, List.replicate, List.getElem?_cons_zero, List.getElem?_cons_succ, List.getElem?_nil, List.set_cons_zero, List.set_cons_succ, Nat.reduceAdd, Nat.reduceSub, Nat.reduceLeDiff, Nat.reduceEqDiff, if_true, if_false, beq_self_eq_true, decide_true, eq_self, reduceCtorEq, Bool.not_true, Bool.not_false, Bool.true_and, Bool.and_true, Bool.false_and, Bool.and_false, Bool.or_true, Bool.true_or, Bool.or_false, Bool.false_or, Bool.false_eq_true, Option.map_some, Option.map_none, Option.bind_some, Option.bind_none, e1, ej, rng_nat (show n ≤ 1000000 by omega), L', e3, cutD_from, cutD_to, addD_lst_ok z2]
  simp [cnD, tupI, List.map_drop, List.map_take]
  rfl
/-! ### counts that are none -/
theorem isCnt_put {n : Nat} {cs : List Nat} {a : Nat} {x : D} (h : Cnt n cs) (ha : a < n) (hx : btw x 0 40 = false ∨ x = .int (41 - ((cs.sum : Nat) : Int) + ((cs.getD a 0 : Nat) : Int))) : isCnt n (.tuple (((cs.map fun c : Nat => PyData.int (c : Int)).take a) ++ x :: ((cs.map fun c : Nat => PyData.int (c : Int)).drop (a + 1)))) = false := by
  unfold isCnt
  dsimp only
  rw [List.all_append, List.all_cons]
  rcases hx with hx | hx
  · simp [hx]
  · have e := put_sum (cs := cs) (a := a) (by have := h.len; omega)
    have e2 : (((((cs.map fun c : Nat => PyData.int (c : Int)).take a) ++ x :: ((cs.map fun c : Nat => PyData.int (c : Int)).drop (a + 1))).map iv).sum) = 41 := by
      rw [List.map_append, List.map_cons, List.sum_append, List.sum_cons, ← List.map_take, ← List.map_drop, List.map_map, List.map_map]
      have f : ∀ l : List Nat, (l.map (iv ∘ fun c : Nat => PyData.int (c : Int))).sum = (l.sum : Nat) := fun l => sum_cast l
      rw [f, f, hx]
      show (_ : Int) + (41 - _ + _ + _) = 41
      omega
    rw [e2]
    simp
theorem bent_counts_ev {ds : List D} {cs : List Nat} {n : Nat} (h : Val ds) (hc : Cnt n cs) (h1 : 1 ≤ n) (h4 : n ≤ 4) : ∃ d ds', m__law_bent_counts ds [cnD cs] = .ok (d, ds') ∧ isCnt n d = false ∧ Val ds' := by
  have hl := hc.len
  have ll : lenD [cnD cs] = some (.da (.int (n : Nat))) := by rw [← hl]; exact (lenD_tupI _).trans (by rw [List.length_map])
  have es : sumD [cnD cs] = some (.da (.int (cs.sum : Nat))) := by rw [← sum_cast]; exact sumD_tupI _
  obtain ⟨a, d0, e0, ha, h0⟩ := take_ev h (n := (n : Int)) (by omega) (by omega)
  have ea : ixD (cnD cs) (.int (a : Int)) = some (.da (.int ((cs.getD a 0 : Nat) : Int))) := ixD_tupI (by rw [List.getElem?_map, List.getElem?_eq_getElem (show a < cs.length by omega)]; simp [List.getD, List.getElem?_eq_getElem (show a < cs.length by omega)])
  obtain ⟨w, d1, e1, hw, hd1⟩ := take_ev h0 (n := 9) (by decide) (by decide)
  obtain ⟨x, hx, ex⟩ := ix_lt (xs := [.int (-1), .int 41, .bool true, .none, .str "1", .tuple [.int 1], .int 100000000000000000000000000000, .list [.int 0], .int (41 - ((cs.sum : Nat) : Int) + ((cs.getD a 0 : Nat) : Int))]) (v := w) (by simp; omega)
  have hx2 : btw x 0 40 = false ∨ x = .int (41 - ((cs.sum : Nat) : Int) + ((cs.getD a 0 : Nat) : Int)) := by
    simp only [List.mem_cons, List.not_mem_nil, or_false] at hx
    rcases hx with rfl | rfl | rfl | rfl | rfl | rfl | rfl | rfl | rfl
    all_goals first | exact .inr rfl | exact .inl rfl
  have hp := isCnt_put hc (a := a) (by omega) hx2
  have t0 : cnD cs = .tuple (cs.map fun c : Nat => .int (c : Int)) := by show PyData.tuple ((cs.map fun c : Nat => (c : Int)).map PyData.int) = _; rw [List.map_map]; rfl
  have lx : (cs.map fun c : Nat => PyData.int (c : Int)).length = n := by simp [hl]
  rw [t0] at ea ll es ⊢
  generalize cs.map (fun c : Nat => PyData.int (c : Int)) = xs at lx hp ea ll es ⊢
  obtain ⟨y, d2, e2, hy, h2⟩ := take_ev hd1 (n := 10) (by decide) (by decide)
  obtain ⟨j, hj, ez⟩ := ix_small (xs := [.int 0, .int 0, .int 0, .int 0, .int 1, .int 2, .int 3, .int 4, .int 5, .int 6]) (b := 6) (v := y) rfl (by simp; omega)
  have v1 : ((a : Int) + 1) = ((a + 1 : Nat) : Int) := by omega
  have t1 : (xs.take a).length ≤ 4 := Nat.le_trans (List.length_take_le _ _) (by omega)
  have t3 : (xs.drop (a + 1)).length ≤ 4 := by rw [List.length_drop]; omega
  obtain ⟨d, hd, ed⟩ := ix_lt (xs := [.tuple (xs.take a ++ [x] ++ xs.drop (a + 1)), .tuple (xs ++ [.int 0]), .tuple (xs.take (xs.length - 1)), .list xs, .none, .dict [], .list [x]]) (v := j) (by simp; omega)
  have hbad : isCnt n d = false := by
    simp only [List.mem_cons, List.not_mem_nil, or_false] at hd
    rcases hd with rfl | rfl | rfl | rfl | rfl | rfl | rfl
    · simpa using hp
    · simp [isCnt, lx]
    · have : ¬ (xs.take (xs.length - 1)).length = n := by rw [List.length_take]; omega
      unfold isCnt
      dsimp only
      rw [decide_eq_false this]
      rfl
    all_goals rfl
  refine ⟨d, d2, ?_, hbad, h2⟩
  simp only [List.cons_append, List.nil_append, List.append_assoc] at ed
  unfold m__law_bent_counts d__law_bent_counts
  simp (disch := ((try simp only [List.length_append, List.length_cons, List.length_nil, List.length_map, List.length_replicate, List.length_range]); omega)) only [refE, roS_da, roS_un, roS_ml, runP, runS, seqS, nextS_ap, asgS, parS, ifS, retS, retN, dropS, raiseS, neverS, contS_ap, breakS_ap, frzS, appS, extS, tgN, tgM, tgs, tgT, tgS, vE, cE, op2, op1, aN, aC, tB', andT, orT, notT, andV, orV, notV, ifE, tupE, lstE, caE, chE, callE, callS, isiE_ap, oN, oS, slE, anyI, rngI, zipI, forS, yesT, cgN, cgT, cgs, whileS, rawL, rawOf, rawL_nil, datL, datL_nil, Rv.dat, GD.toBool, toBool_bool, intOf, intOf_int, ofO, ofO_some, ofO_none, Re.ok_bind, Re.ex_bind, Re.no_bind, Re.pure_eq, addD_int, addD_tup_ok, addD_lst_ok, addD_str, subD_int, negD_int, ltD_int, leD_int, gtD_int, geD_int, isD_none, isD_bool, isNotD_none, isNotD_bool, isNoneD_none, isNoneD_bool, isNoneD_int, isNoneD_str, isNoneD_list, isNoneD_tuple, isNoneD_dict, lenD_lst, lenD_tup, absD_int, intD_int, intD_bool, tupleD_lst, tupleD_tup, listD_lst, listD_tup, itemsOf_lst, itemsOf_tup, zipD_lst, zipD_tup, maxD_int, minD_int, slD_tup, slD_lst, pow_10_18, itemsOf_tupI, isi_tuple, isi_int, isi_bool, isi_str, isi_list, isTup_none, isTup_bool, isTup_int, isTup_str, isTup_list, isTup_tuple, isTup_dict, isWB_none, isWB_bool, isWB_int, isWB_str, isWB_list, isWB_tuple, isWB_dict, isB_none, isB_bool, isB_int, isB_str, isB_list, isB_tuple, isB_dict, isStr_none, isStr_bool, isStr_int, isStr_str, isStr_list, isStr_tuple, isStr_dict, isLst_none, isLst_bool, isLst_int, isLst_str, isLst_list, isLst_tuple, isTupI, sumD_lst, lenD_tupI, sumD_tupI, lenD_drD, eqD_int, neD_int, ixD_tup, ixD_lst, at0, at1, at2, at3, List.length_cons, List.length_nil, List.map_cons, List.map_nil, List.cons_append, List.nil_append, List.replicate, List.getElem?_cons_zero, List.getElem?_cons_succ, List.getElem?_nil, List.set_cons_zero, List.set_cons_succ, Nat.reduceAdd, Nat.reduceSub, Nat.reduceLeDiff, Nat.reduceEqDiff, if_true, if_false, beq_self_eq_true, decide_true, eq_self, reduceCtorEq, Bool.not_true, Bool.not_false, Bool.true_and, Bool.and_true, Bool.false_and, Bool.and_false, Bool.or_true, Bool.true_or, Bool.or_false, Bool.false_or, Bool.false_eq_true, Option.map_some, Option.map_none, Option.bind_some, Option.bind_none, runS, ll, e0, pow_10_29, es, ea, e1, ex, v1, cutD_to, cutD_from, cutD_m1, e2, ez, List.append_assoc, ed]

end LawHere

namespace LawHere
open PySem GD
/-! ### k52 -/
theorem cnD_t (cs : List Nat) : cnD cs = .tuple (cs.map fun c : Nat => .int (c : Int)) := by show PyData.tuple ((cs.map fun c : Nat => (c : Int)).map PyData.int) = _; rw [List.map_map]; rfl
theorem backD_cn (cs : List Nat) : backD (cnD cs) = some (.da (cnD cs.reverse)) := by
  rw [cnD_t, cnD_t, List.map_reverse]; rfl
theorem zeroC {n : Nat} (h : n ≤ 1000) : mulD (.tuple [.int 0]) (.int (n : Int)) = some (.da (cnD (List.replicate n 0))) := by
  rw [mulD_tup1 _ h, cnD_t, List.map_replicate]; rfl
def nxQ (u : List Int) (m : Int) (cs : List Nat) (p : Int × Nat) : Rat := ((p.1 + m * (p.2 : Int) : Int) : Rat) / ((u.sum + m * (cs.sum : Nat) : Int) : Rat)
def nxD (u : List Int) (m : Int) (cs : List Nat) : D := if blk u cs = true then .none else .tuple ((u.zip cs).map fun p => frD (nxQ u m cs p))
theorem nx_size {u : List Int} {m : Int} {cs : List Nat} (hu : Urn 20 u) (hm : 0 ≤ m) (hm2 : m ≤ 5) (h : Cnt u.length cs) : 0 ≤ m * (cs.sum : Nat) ∧ m * (cs.sum : Nat) ≤ 200 ∧ 0 < u.sum + m * (cs.sum : Nat) ∧ u.sum + m * (cs.sum : Nat) ≤ 1000 ∧ ∀ c : Nat, c ≤ 40 → 0 ≤ m * (c : Int) ∧ m * (c : Int) ≤ 200 := by
  have hs := h.sum
  have k : ∀ c : Nat, c ≤ 40 → 0 ≤ m * (c : Int) ∧ m * (c : Int) ≤ 200 := fun c hc => ⟨Int.mul_nonneg hm (by omega), Int.mul_le_mul hm2 (show (c : Int) ≤ 40 by omega) (by omega) (by omega)⟩
  have := k cs.sum hs
  have := hu.pos
  have := sum_le hu.all
  have := hu.l4
  exact ⟨by omega, by omega, by omega, by omega, k⟩
theorem sumD_cn (cs : List Nat) : sumD [cnD cs] = some (.da (.int (cs.sum : Nat))) := by rw [← sum_cast]; exact sumD_tupI _
theorem next_ev {u : List Int} {m : Int} {cs : List Nat} (hu : Urn 20 u) (hm : 0 ≤ m) (hm2 : m ≤ 5) (h : Cnt u.length cs) : m_next_shares [tupI u, .int m, cnD cs] = .ok (.da (nxD u m cs)) := by
  have c1 := counts_chance_ev hu hm hm2 h
  have z := cntQ_zero (m := m) (cs := cs) hu hm h.len.symm
  have hs := h.sum
  obtain ⟨a1, a2, a3, a4, k⟩ := nx_size hu hm hm2 h
  have M : mulD (.int m) (.int ((cs.sum : Nat) : Int)) = some (.da (.int (m * (cs.sum : Nat)))) := mulD_sm (by omega) (by omega)
  unfold m_next_shares d_next_shares nxD
  by_cases hb : blk u cs = true
  · simp only [refE, roS_da, roS_un, roS_ml, runP, runS, seqS, nextS_ap, asgS, parS, ifS, retS, retN, dropS, raiseS, neverS, contS_ap, breakS_ap, frzS, appS, extS, tgN, tgM, tgs, tgT, tgS, vE, cE, op2, op1, aN, aC, tB', andT, orT, notT, andV, orV, notV, ifE, tupE, lstE, caE, chE, callE, callS, isiE_ap, oN, oS, slE, anyI, rngI, zipI, forS, yesT, cgN, cgT, cgs, whileS, rawL, rawOf, rawL_nil, datL, datL_nil, Rv.dat, GD.toBool, toBool_bool, intOf, intOf_int, ofO, ofO_some, ofO_none, Re.ok_bind, Re.ex_bind, Re.no_bind, Re.pure_eq, addD_int, addD_tup, addD_lst, addD_str, subD_int, negD_int, ltD_int, leD_int, gtD_int, geD_int, isD_none, isD_bool, isNotD_none, isNotD_bool, isNoneD_none, isNoneD_bool, isNoneD_int, isNoneD_str, isNoneD_list, isNoneD_tuple, isNoneD_dict, lenD_lst, lenD_tup, absD_int, intD_int, intD_bool, tupleD_lst, tupleD_tup, listD_lst, listD_tup, itemsOf_lst, itemsOf_tup, zipD_lst, zipD_tup, maxD_int, minD_int, slD_tup, slD_lst, pow_10_18, itemsOf_tupI, isi_tuple, isi_int, isi_bool, isi_str, isi_list, isTup_none, isTup_bool, isTup_int, isTup_str, isTup_list, isTup_tuple, isTup_dict, isWB_none, isWB_bool, isWB_int, isWB_str, isWB_list, isWB_tuple, isWB_dict, isB_none, isB_bool, isB_int, isB_str, isB_list, isB_tuple, isB_dict, isStr_none, isStr_bool, isStr_int, isStr_str, isStr_list, isStr_tuple, isStr_dict, isLst_none, isLst_bool, isLst_int, isLst_str, isLst_list, isLst_tuple, isTupI, sumD_lst, lenD_tupI, sumD_tupI, lenD_drD, eqD_int, neD_int, ixD_tup, ixD_lst, at0, at1, at2, at3, List.length_cons, List.length_nil, List.map_cons, List.map_nil, List.cons_append, List.nil_append, List.replicate, List.getElem?_cons_zero, List.getElem?_cons_succ, List.getElem?_nil, List.set_cons_zero, List.set_cons_succ, Nat.reduceAdd, Nat.reduceSub, Nat.reduceLeDiff, Nat.reduceEqDiff, if_true, if_false, beq_self_eq_true, decide_true, eq_self, reduceCtorEq, Bool.not_true, Bool.not_false, Bool.true_and, Bool.and_true, Bool.false_and, Bool.and_false, Bool.or_true, Bool.true_or, Bool.or_false, Bool.false_or, Bool.false_eq_true, Option.map_some, Option.map_none, Option.bind_some, Option.bind_none, c1, eqD_fr0, decide_eq_true (z.mpr hb), if_pos hb]
  · have hz : ¬ cntQ u m cs = 0 := fun e => hb (z.mp e)
    have zz : zipI (aC (vE 0) (aC (vE 2) aN)) [.da (tupI u), .da (.int m), .da (cnD cs), .da (.int (u.sum + m * (cs.sum : Nat))), .un, .un] = .ok (((u.zip cs).map fun p => (PyData.int p.1, PyData.int (p.2 : Int))).map fun p => .tuple [p.1, p.2], [.da (tupI u), .da (.int m), .da (cnD cs), .da (.int (u.sum + m * (cs.sum : Nat))), .un, .un]) := by
      have : zipD [tupI u, cnD cs] = some (((u.zip cs).map fun p => (PyData.int p.1, PyData.int (p.2 : Int))).map fun p => .tuple [p.1, p.2]) := by
        rw [cnD_t]
        show some (((u.map PyData.int).zip (cs.map fun c : Nat => PyData.int (c : Int))).map _) = _
        rw [List.zip_map]
        rfl
      simp only [refE, roS_da, roS_un, roS_ml, runP, runS, seqS, nextS_ap, asgS, parS, ifS, retS, retN, dropS, raiseS, neverS, contS_ap, breakS_ap, frzS, appS, extS, tgN, tgM, tgs, tgT, tgS, vE, cE, op2, op1, aN, aC, tB', andT, orT, notT, andV, orV, notV, ifE, tupE, lstE, caE, chE, callE, callS, isiE_ap, oN, oS, slE, anyI, rngI, zipI, forS, yesT, cgN, cgT, cgs, whileS, rawL, rawOf, rawL_nil, datL, datL_nil, Rv.dat, GD.toBool, toBool_bool, intOf, intOf_int, ofO, ofO_some, ofO_none, Re.ok_bind, Re.ex_bind, Re.no_bind, Re.pure_eq, addD_int, addD_tup, addD_lst, addD_str, subD_int, negD_int, ltD_int, leD_int, gtD_int, geD_int, isD_none, isD_bool, isNotD_none, isNotD_bool, isNoneD_none, isNoneD_bool, isNoneD_int, isNoneD_str, isNoneD_list, isNoneD_tuple, isNoneD_dict, lenD_lst, lenD_tup, absD_int, intD_int, intD_bool, tupleD_lst, tupleD_tup, listD_lst, listD_tup, itemsOf_lst, itemsOf_tup, zipD_lst, zipD_tup, maxD_int, minD_int, slD_tup, slD_lst, pow_10_18, itemsOf_tupI, isi_tuple, isi_int, isi_bool, isi_str, isi_list, isTup_none, isTup_bool, isTup_int, isTup_str, isTup_list, isTup_tuple, isTup_dict, isWB_none, isWB_bool, isWB_int, isWB_str, isWB_list, isWB_tuple, isWB_dict, isB_none, isB_bool, isB_int, isB_str, isB_list, isB_tuple, isB_dict, isStr_none, isStr_bool, isStr_int, isStr_str, isStr_list, isStr_tuple, isStr_dict, isLst_none, isLst_bool, isLst_int, isLst_str, isLst_list, isLst_tuple, isTupI, sumD_lst, lenD_tupI, sumD_tupI, lenD_drD, eqD_int, neD_int, ixD_tup, ixD_lst, at0, at1, at2, at3, List.length_cons, List.length_nil, List.map_cons, List.map_nil, List.cons_append, List.nil_append, List.replicate, List.getElem?_cons_zero, List.getElem?_cons_succ, List.getElem?_nil, List.set_cons_zero, List.set_cons_succ, Nat.reduceAdd, Nat.reduceSub, Nat.reduceLeDiff, Nat.reduceEqDiff, if_true, if_false, beq_self_eq_true, decide_true, eq_self, reduceCtorEq, Bool.not_true, Bool.not_false, Bool.true_and, Bool.and_true, Bool.false_and, Bool.and_false, Bool.or_true, Bool.true_or, Bool.or_false, Bool.false_or, Bool.false_eq_true, Option.map_some, Option.map_none, Option.bind_some, Option.bind_none, this]
    have hl := h.len
    have hl4 := hu.l4
    have L := lc_map2 (i := 4) (j := 5) (te := callE m_fraction (aC (op2 addD (vE 4) (op2 mulD (vE 1) (vE 5))) (aC (vE 3) aN))) (h := fun p => frD (nxQ u m cs (match p with | (.int a, .int b) => (a, b.toNat) | _ => (0, 0)))) (by decide) zz (by simp; omega) (by
      rintro p hp
      obtain ⟨q, hq, rfl⟩ := List.mem_map.mp hp
      obtain ⟨x, c⟩ := q
      have hx := hu.all x (List.of_mem_zip hq).1
      have hc40 : c ≤ 40 := by have := mem_le_sum (List.of_mem_zip hq).2; omega
      have hc := k c hc40
      have M2 : mulD (.int m) (.int ((c : Nat) : Int)) = some (.da (.int (m * (c : Nat)))) := mulD_sm (by omega) (by omega)
      have f := fraction_sm (x + m * (c : Int)) a3 (by omega)
      exact ⟨.da (frD (nxQ u m cs (x, c))), by simp only [refE, roS_da, roS_un, roS_ml, runP, runS, seqS, nextS_ap, asgS, parS, ifS, retS, retN, dropS, raiseS, neverS, contS_ap, breakS_ap, frzS, appS, extS, tgN, tgM, tgs, tgT, tgS, vE, cE, op2, op1, aN, aC, tB', andT, orT, notT, andV, orV, notV, ifE, tupE, lstE, caE, chE, callE, callS, isiE_ap, oN, oS, slE, anyI, rngI, zipI, forS, yesT, cgN, cgT, cgs, whileS, rawL, rawOf, rawL_nil, datL, datL_nil, Rv.dat, GD.toBool, toBool_bool, intOf, intOf_int, ofO, ofO_some, ofO_none, Re.ok_bind, Re.ex_bind, Re.no_bind, Re.pure_eq, addD_int, addD_tup, addD_lst, addD_str, subD_int, negD_int, ltD_int, leD_int, gtD_int, geD_int, isD_none, isD_bool, isNotD_none, isNotD_bool, isNoneD_none, isNoneD_bool, isNoneD_int, isNoneD_str, isNoneD_list, isNoneD_tuple, isNoneD_dict, lenD_lst, lenD_tup, absD_int, intD_int, intD_bool, tupleD_lst, tupleD_tup, listD_lst, listD_tup, itemsOf_lst, itemsOf_tup, zipD_lst, zipD_tup, maxD_int, minD_int, slD_tup, slD_lst, pow_10_18, itemsOf_tupI, isi_tuple, isi_int, isi_bool, isi_str, isi_list, isTup_none, isTup_bool, isTup_int, isTup_str, isTup_list, isTup_tuple, isTup_dict, isWB_none, isWB_bool, isWB_int, isWB_str, isWB_list, isWB_tuple, isWB_dict, isB_none, isB_bool, isB_int, isB_str, isB_list, isB_tuple, isB_dict, isStr_none, isStr_bool, isStr_int, isStr_str, isStr_list, isStr_tuple, isStr_dict, isLst_none, isLst_bool, isLst_int, isLst_str, isLst_list, isLst_tuple, isTupI, sumD_lst, lenD_tupI, sumD_tupI, lenD_drD, eqD_int, neD_int, ixD_tup, ixD_lst, at0, at1, at2, at3, List.length_cons, List.length_nil, List.map_cons, List.map_nil, List.cons_append, List.nil_append, List.replicate, List.getElem?_cons_zero, List.getElem?_cons_succ, List.getElem?_nil, List.set_cons_zero, List.set_cons_succ, Nat.reduceAdd, Nat.reduceSub, Nat.reduceLeDiff, Nat.reduceEqDiff, if_true, if_false, beq_self_eq_true, decide_true, eq_self, reduceCtorEq, Bool.not_true, Bool.not_false, Bool.true_and, Bool.and_true, Bool.false_and, Bool.and_false, Bool.or_true, Bool.true_or, Bool.or_false, Bool.false_or, Bool.false_eq_true, Option.map_some, Option.map_none, Option.bind_some, Option.bind_none, M2, f]; rfl, rfl⟩)
    simp only [refE, roS_da, roS_un, roS_ml, runP, runS, seqS, nextS_ap, asgS, parS, ifS, retS, retN, dropS, raiseS, neverS, contS_ap, breakS_ap, frzS, appS, extS, tgN, tgM, tgs, tgT, tgS, vE, cE, op2, op1, aN, aC, tB', andT, orT, notT, andV, orV, notV, ifE, tupE, lstE, caE, chE, callE, callS, isiE_ap, oN, oS, slE, anyI, rngI, zipI, forS, yesT, cgN, cgT, cgs, whileS, rawL, rawOf, rawL_nil, datL, datL_nil, Rv.dat, GD.toBool, toBool_bool, intOf, intOf_int, ofO, ofO_some, ofO_none, Re.ok_bind, Re.ex_bind, Re.no_bind, Re.pure_eq, addD_int, addD_tup, addD_lst, addD_str, subD_int, negD_int, ltD_int, leD_int, gtD_int, geD_int, isD_none, isD_bool, isNotD_none, isNotD_bool, isNoneD_none, isNoneD_bool, isNoneD_int, isNoneD_str, isNoneD_list, isNoneD_tuple, isNoneD_dict, lenD_lst, lenD_tup, absD_int, intD_int, intD_bool, tupleD_lst, tupleD_tup, listD_lst, listD_tup, itemsOf_lst, itemsOf_tup, zipD_lst, zipD_tup, maxD_int, minD_int, slD_tup, slD_lst, pow_10_18, itemsOf_tupI, isi_tuple, isi_int, isi_bool, isi_str, isi_list, isTup_none, isTup_bool, isTup_int, isTup_str, isTup_list, isTup_tuple, isTup_dict, isWB_none, isWB_bool, isWB_int, isWB_str, isWB_list, isWB_tuple, isWB_dict, isB_none, isB_bool, isB_int, isB_str, isB_list, isB_tuple, isB_dict, isStr_none, isStr_bool, isStr_int, isStr_str, isStr_list, isStr_tuple, isStr_dict, isLst_none, isLst_bool, isLst_int, isLst_str, isLst_list, isLst_tuple, isTupI, sumD_lst, lenD_tupI, sumD_tupI, lenD_drD, eqD_int, neD_int, ixD_tup, ixD_lst, at0, at1, at2, at3, List.length_cons, List.length_nil, List.map_cons, List.map_nil, List.cons_append, List.nil_append, List.replicate, List.getElem?_cons_zero, List.getElem?_cons_succ, List.getElem?_nil, List.set_cons_zero, List.set_cons_succ, Nat.reduceAdd, Nat.reduceSub, Nat.reduceLeDiff, Nat.reduceEqDiff, if_true, if_false, beq_self_eq_true, decide_true, eq_self, reduceCtorEq, Bool.not_true, Bool.not_false, Bool.true_and, Bool.and_true, Bool.false_and, Bool.and_false, Bool.or_true, Bool.true_or, Bool.or_false, Bool.false_or, Bool.false_eq_true, Option.map_some, Option.map_none, Option.bind_some, Option.bind_none, c1, eqD_fr0, decide_eq_false hz, if_neg hb, sumD_tupI, sumD_cn, M, L]
    rw [List.map_map]
    rfl
theorem due_ev {u : List Int} {m : Int} {cs : List Nat} (hu : Urn 20 u) (hm : 0 ≤ m) (hm2 : m ≤ 5) (h : Cnt u.length cs) : m__law_due [tupI u, .int m, cnD cs] = .ok (.da (nxD u m cs)) := by
  obtain ⟨a1, a2, a3, a4, k⟩ := nx_size hu hm hm2 h
  have hl := h.len
  have hl4 := hu.l4
  have hs := h.sum
  have M : mulD (.int m) (.int ((cs.sum : Nat) : Int)) = some (.da (.int (m * (cs.sum : Nat)))) := mulD_sm (by omega) (by omega)
  have rg : ∀ s3 s4 : Sl, rngI (aC (caE lenD (aC (vE 0) aN)) aN) [.da (tupI u), .da (.int m), .da (cnD cs), s3, s4] = .ok ((List.range u.length).map fun i : Nat => .int (i : Int), [.da (tupI u), .da (.int m), .da (cnD cs), s3, s4]) := fun s3 s4 => by simp only [refE, roS_da, roS_un, roS_ml, runP, runS, seqS, nextS_ap, asgS, parS, ifS, retS, retN, dropS, raiseS, neverS, contS_ap, breakS_ap, frzS, appS, extS, tgN, tgM, tgs, tgT, tgS, vE, cE, op2, op1, aN, aC, tB', andT, orT, notT, andV, orV, notV, ifE, tupE, lstE, caE, chE, callE, callS, isiE_ap, oN, oS, slE, anyI, rngI, zipI, forS, yesT, cgN, cgT, cgs, whileS, rawL, rawOf, rawL_nil, datL, datL_nil, Rv.dat, GD.toBool, toBool_bool, intOf, intOf_int, ofO, ofO_some, ofO_none, Re.ok_bind, Re.ex_bind, Re.no_bind, Re.pure_eq, addD_int, addD_tup, addD_lst, addD_str, subD_int, negD_int, ltD_int, leD_int, gtD_int, geD_int, isD_none, isD_bool, isNotD_none, isNotD_bool, isNoneD_none, isNoneD_bool, isNoneD_int, isNoneD_str, isNoneD_list, isNoneD_tuple, isNoneD_dict, lenD_lst, lenD_tup, absD_int, intD_int, intD_bool, tupleD_lst, tupleD_tup, listD_lst, listD_tup, itemsOf_lst, itemsOf_tup, zipD_lst, zipD_tup, maxD_int, minD_int, slD_tup, slD_lst, pow_10_18, itemsOf_tupI, isi_tuple, isi_int, isi_bool, isi_str, isi_list, isTup_none, isTup_bool, isTup_int, isTup_str, isTup_list, isTup_tuple, isTup_dict, isWB_none, isWB_bool, isWB_int, isWB_str, isWB_list, isWB_tuple, isWB_dict, isB_none, isB_bool, isB_int, isB_str, isB_list, isB_tuple, isB_dict, isStr_none, isStr_bool, isStr_int, isStr_str, isStr_list, isStr_tuple, isStr_dict, isLst_none, isLst_bool, isLst_int, isLst_str, isLst_list, isLst_tuple, isTupI, sumD_lst, lenD_tupI, sumD_tupI, lenD_drD, eqD_int, neD_int, ixD_tup, ixD_lst, at0, at1, at2, at3, List.length_cons, List.length_nil, List.map_cons, List.map_nil, List.cons_append, List.nil_append, List.replicate, List.getElem?_cons_zero, List.getElem?_cons_succ, List.getElem?_nil, List.set_cons_zero, List.set_cons_succ, Nat.reduceAdd, Nat.reduceSub, Nat.reduceLeDiff, Nat.reduceEqDiff, if_true, if_false, beq_self_eq_true, decide_true, eq_self, reduceCtorEq, Bool.not_true, Bool.not_false, Bool.true_and, Bool.and_true, Bool.false_and, Bool.and_false, Bool.or_true, Bool.true_or, Bool.or_false, Bool.false_or, Bool.false_eq_true, Option.map_some, Option.map_none, Option.bind_some, Option.bind_none, lenD_tupI, rng_nat (show u.length ≤ 1000000 by omega)]
  have cx : ∀ k, k < u.length → ixD (cnD cs) (.int (k : Int)) = some (.da (.int ((cs.getD k 0 : Nat) : Int))) := fun k hk => ixD_tupI (by rw [List.getElem?_map, List.getElem?_eq_getElem (show k < cs.length by omega)]; simp [List.getD, List.getElem?_eq_getElem (show k < cs.length by omega)])
  have L1 := lc_filt (e := fun k : Nat => PyData.int (k : Int)) (tt := andT (tB' (op2 eqD (op2 ixD (vE 0) (vE 4)) (cE (.int 0)))) (tB' (op2 gtD (op2 ixD (vE 2) (vE 4)) (cE (.int 0))))) (te := vE 4) (j := 4) (fun k : Nat => u.getD k 0 == 0 && decide (0 < cs.getD k 0)) (fun k : Nat => PyData.int (k : Int)) (rg .un .un) (by simp; omega) (by
      intro k hk
      have hk := List.mem_range.mp hk
      simp only [refE, roS_da, roS_un, roS_ml, runP, runS, seqS, nextS_ap, asgS, parS, ifS, retS, retN, dropS, raiseS, neverS, contS_ap, breakS_ap, frzS, appS, extS, tgN, tgM, tgs, tgT, tgS, vE, cE, op2, op1, aN, aC, tB', andT, orT, notT, andV, orV, notV, ifE, tupE, lstE, caE, chE, callE, callS, isiE_ap, oN, oS, slE, anyI, rngI, zipI, forS, yesT, cgN, cgT, cgs, whileS, rawL, rawOf, rawL_nil, datL, datL_nil, Rv.dat, GD.toBool, toBool_bool, intOf, intOf_int, ofO, ofO_some, ofO_none, Re.ok_bind, Re.ex_bind, Re.no_bind, Re.pure_eq, addD_int, addD_tup, addD_lst, addD_str, subD_int, negD_int, ltD_int, leD_int, gtD_int, geD_int, isD_none, isD_bool, isNotD_none, isNotD_bool, isNoneD_none, isNoneD_bool, isNoneD_int, isNoneD_str, isNoneD_list, isNoneD_tuple, isNoneD_dict, lenD_lst, lenD_tup, absD_int, intD_int, intD_bool, tupleD_lst, tupleD_tup, listD_lst, listD_tup, itemsOf_lst, itemsOf_tup, zipD_lst, zipD_tup, maxD_int, minD_int, slD_tup, slD_lst, pow_10_18, itemsOf_tupI, isi_tuple, isi_int, isi_bool, isi_str, isi_list, isTup_none, isTup_bool, isTup_int, isTup_str, isTup_list, isTup_tuple, isTup_dict, isWB_none, isWB_bool, isWB_int, isWB_str, isWB_list, isWB_tuple, isWB_dict, isB_none, isB_bool, isB_int, isB_str, isB_list, isB_tuple, isB_dict, isStr_none, isStr_bool, isStr_int, isStr_str, isStr_list, isStr_tuple, isStr_dict, isLst_none, isLst_bool, isLst_int, isLst_str, isLst_list, isLst_tuple, isTupI, sumD_lst, lenD_tupI, sumD_tupI, lenD_drD, eqD_int, neD_int, ixD_tup, ixD_lst, at0, at1, at2, at3, List.length_cons, List.length_nil, List.map_cons, List.map_nil, List.cons_append, List.nil_append, List.replicate, List.getElem?_cons_zero, List.getElem?_cons_succ, List.getElem?_nil, List.set_cons_zero, List.set_cons_succ, Nat.reduceAdd, Nat.reduceSub, Nat.reduceLeDiff, Nat.reduceEqDiff, if_true, if_false, beq_self_eq_true, decide_true, eq_self, reduceCtorEq, Bool.not_true, Bool.not_false, Bool.true_and, Bool.and_true, Bool.false_and, Bool.and_false, Bool.or_true, Bool.true_or, Bool.or_false, Bool.false_or, Bool.false_eq_true, Option.map_some, Option.map_none, Option.bind_some, Option.bind_none, ixD_tupI (getD_some hk), cx k hk]
      cases h1 : (u.getD k 0 == (0 : Int))
      · simp only [refE, roS_da, roS_un, roS_ml, runP, runS, seqS, nextS_ap, asgS, parS, ifS, retS, retN, dropS, raiseS, neverS, contS_ap, breakS_ap, frzS, appS, extS, tgN, tgM, tgs, tgT, tgS, vE, cE, op2, op1, aN, aC, tB', andT, orT, notT, andV, orV, notV, ifE, tupE, lstE, caE, chE, callE, callS, isiE_ap, oN, oS, slE, anyI, rngI, zipI, forS, yesT, cgN, cgT, cgs, whileS, rawL, rawOf, rawL_nil, datL, datL_nil, Rv.dat, GD.toBool, toBool_bool, intOf, intOf_int, ofO, ofO_some, ofO_none, Re.ok_bind, Re.ex_bind, Re.no_bind, Re.pure_eq, addD_int, addD_tup, addD_lst, addD_str, subD_int, negD_int, ltD_int, leD_int, gtD_int, geD_int, isD_none, isD_bool, isNotD_none, isNotD_bool, isNoneD_none, isNoneD_bool, isNoneD_int, isNoneD_str, isNoneD_list, isNoneD_tuple, isNoneD_dict, lenD_lst, lenD_tup, absD_int, intD_int, intD_bool, tupleD_lst, tupleD_tup, listD_lst, listD_tup, itemsOf_lst, itemsOf_tup, zipD_lst, zipD_tup, maxD_int, minD_int, slD_tup, slD_lst, pow_10_18, itemsOf_tupI, isi_tuple, isi_int, isi_bool, isi_str, isi_list, isTup_none, isTup_bool, isTup_int, isTup_str, isTup_list, isTup_tuple, isTup_dict, isWB_none, isWB_bool, isWB_int, isWB_str, isWB_list, isWB_tuple, isWB_dict, isB_none, isB_bool, isB_int, isB_str, isB_list, isB_tuple, isB_dict, isStr_none, isStr_bool, isStr_int, isStr_str, isStr_list, isStr_tuple, isStr_dict, isLst_none, isLst_bool, isLst_int, isLst_str, isLst_list, isLst_tuple, isTupI, sumD_lst, lenD_tupI, sumD_tupI, lenD_drD, eqD_int, neD_int, ixD_tup, ixD_lst, at0, at1, at2, at3, List.length_cons, List.length_nil, List.map_cons, List.map_nil, List.cons_append, List.nil_append, List.replicate, List.getElem?_cons_zero, List.getElem?_cons_succ, List.getElem?_nil, List.set_cons_zero, List.set_cons_succ, Nat.reduceAdd, Nat.reduceSub, Nat.reduceLeDiff, Nat.reduceEqDiff, if_true, if_false, beq_self_eq_true, decide_true, eq_self, reduceCtorEq, Bool.not_true, Bool.not_false, Bool.true_and, Bool.and_true, Bool.false_and, Bool.and_false, Bool.or_true, Bool.true_or, Bool.or_false, Bool.false_or, Bool.false_eq_true, Option.map_some, Option.map_none, Option.bind_some, Option.bind_none]
      · have : decide ((0 : Int) < ((cs.getD k 0 : Nat) : Int)) = decide (0 < cs.getD k 0) := by simp
        simp only [refE, roS_da, roS_un, roS_ml, runP, runS, seqS, nextS_ap, asgS, parS, ifS, retS, retN, dropS, raiseS, neverS, contS_ap, breakS_ap, frzS, appS, extS, tgN, tgM, tgs, tgT, tgS, vE, cE, op2, op1, aN, aC, tB', andT, orT, notT, andV, orV, notV, ifE, tupE, lstE, caE, chE, callE, callS, isiE_ap, oN, oS, slE, anyI, rngI, zipI, forS, yesT, cgN, cgT, cgs, whileS, rawL, rawOf, rawL_nil, datL, datL_nil, Rv.dat, GD.toBool, toBool_bool, intOf, intOf_int, ofO, ofO_some, ofO_none, Re.ok_bind, Re.ex_bind, Re.no_bind, Re.pure_eq, addD_int, addD_tup, addD_lst, addD_str, subD_int, negD_int, ltD_int, leD_int, gtD_int, geD_int, isD_none, isD_bool, isNotD_none, isNotD_bool, isNoneD_none, isNoneD_bool, isNoneD_int, isNoneD_str, isNoneD_list, isNoneD_tuple, isNoneD_dict, lenD_lst, lenD_tup, absD_int, intD_int, intD_bool, tupleD_lst, tupleD_tup, listD_lst, listD_tup, itemsOf_lst, itemsOf_tup, zipD_lst, zipD_tup, maxD_int, minD_int, slD_tup, slD_lst, pow_10_18, itemsOf_tupI, isi_tuple, isi_int, isi_bool, isi_str, isi_list, isTup_none, isTup_bool, isTup_int, isTup_str, isTup_list, isTup_tuple, isTup_dict, isWB_none, isWB_bool, isWB_int, isWB_str, isWB_list, isWB_tuple, isWB_dict, isB_none, isB_bool, isB_int, isB_str, isB_list, isB_tuple, isB_dict, isStr_none, isStr_bool, isStr_int, isStr_str, isStr_list, isStr_tuple, isStr_dict, isLst_none, isLst_bool, isLst_int, isLst_str, isLst_list, isLst_tuple, isTupI, sumD_lst, lenD_tupI, sumD_tupI, lenD_drD, eqD_int, neD_int, ixD_tup, ixD_lst, at0, at1, at2, at3, List.length_cons, List.length_nil, List.map_cons, List.map_nil, List.cons_append, List.nil_append, List.replicate, List.getElem?_cons_zero, List.getElem?_cons_succ, List.getElem?_nil, List.set_cons_zero, List.set_cons_succ, Nat.reduceAdd, Nat.reduceSub, Nat.reduceLeDiff, Nat.reduceEqDiff, if_true, if_false, beq_self_eq_true, decide_true, eq_self, reduceCtorEq, Bool.not_true, Bool.not_false, Bool.true_and, Bool.and_true, Bool.false_and, Bool.and_false, Bool.or_true, Bool.true_or, Bool.or_false, Bool.false_or, Bool.false_eq_true, Option.map_some, Option.map_none, Option.bind_some, Option.bind_none, this]) (fun k hk _ => ⟨.da (.int (k : Int)), by simp only [refE, roS_da, roS_un, roS_ml, runP, runS, seqS, nextS_ap, asgS, parS, ifS, retS, retN, dropS, raiseS, neverS, contS_ap, breakS_ap, frzS, appS, extS, tgN, tgM, tgs, tgT, tgS, vE, cE, op2, op1, aN, aC, tB', andT, orT, notT, andV, orV, notV, ifE, tupE, lstE, caE, chE, callE, callS, isiE_ap, oN, oS, slE, anyI, rngI, zipI, forS, yesT, cgN, cgT, cgs, whileS, rawL, rawOf, rawL_nil, datL, datL_nil, Rv.dat, GD.toBool, toBool_bool, intOf, intOf_int, ofO, ofO_some, ofO_none, Re.ok_bind, Re.ex_bind, Re.no_bind, Re.pure_eq, addD_int, addD_tup, addD_lst, addD_str, subD_int, negD_int, ltD_int, leD_int, gtD_int, geD_int, isD_none, isD_bool, isNotD_none, isNotD_bool, isNoneD_none, isNoneD_bool, isNoneD_int, isNoneD_str, isNoneD_list, isNoneD_tuple, isNoneD_dict, lenD_lst, lenD_tup, absD_int, intD_int, intD_bool, tupleD_lst, tupleD_tup, listD_lst, listD_tup, itemsOf_lst, itemsOf_tup, zipD_lst, zipD_tup, maxD_int, minD_int, slD_tup, slD_lst, pow_10_18, itemsOf_tupI, isi_tuple, isi_int, isi_bool, isi_str, isi_list, isTup_none, isTup_bool, isTup_int, isTup_str, isTup_list, isTup_tuple, isTup_dict, isWB_none, isWB_bool, isWB_int, isWB_str, isWB_list, isWB_tuple, isWB_dict, isB_none, isB_bool, isB_int, isB_str, isB_list, isB_tuple, isB_dict, isStr_none, isStr_bool, isStr_int, isStr_str, isStr_list, isStr_tuple, isStr_dict, isLst_none, isLst_bool, isLst_int, isLst_str, isLst_list, isLst_tuple, isTupI, sumD_lst, lenD_tupI, sumD_tupI, lenD_drD, eqD_int, neD_int, ixD_tup, ixD_lst, at0, at1, at2, at3, List.length_cons, List.length_nil, List.map_cons, List.map_nil, List.cons_append, List.nil_append, List.replicate, List.getElem?_cons_zero, List.getElem?_cons_succ, List.getElem?_nil, List.set_cons_zero, List.set_cons_succ, Nat.reduceAdd, Nat.reduceSub, Nat.reduceLeDiff, Nat.reduceEqDiff, if_true, if_false, beq_self_eq_true, decide_true, eq_self, reduceCtorEq, Bool.not_true, Bool.not_false, Bool.true_and, Bool.and_true, Bool.false_and, Bool.and_false, Bool.or_true, Bool.true_or, Bool.or_false, Bool.false_or, Bool.false_eq_true, Option.map_some, Option.map_none, Option.bind_some, Option.bind_none], rfl⟩)
  have e1 : ((List.range u.length).filter (fun k : Nat => u.getD k 0 == 0 && decide (0 < cs.getD k 0))).isEmpty = !blk u cs := by
    have e2 : blk u cs = (List.range u.length).any (fun k : Nat => u.getD k 0 == 0 && decide (0 < cs.getD k 0)) := by
      have q := congrArg (fun l : List Bool => l.any id) (zip_range (f := fun p : Int × Nat => p.1 == 0 && decide (0 < p.2)) (a0 := 0) (b0 := 0) hl.symm)
      simp only [List.any_map] at q
      exact q
    rw [e2]
    rw [Bool.eq_iff_iff]
    simp [List.filter_eq_nil_iff]
  have e3 : ∀ ks : List Nat, neD (.list (ks.map fun k : Nat => PyData.int (k : Int))) (.list []) = some (.da (.bool (!ks.isEmpty))) := fun ks => by
    have := neD_nil_ints (ks.map fun k : Nat => (k : Int))
    rw [List.map_map] at this
    have e : (ks.map fun k : Nat => (k : Int)).isEmpty = ks.isEmpty := by cases ks <;> rfl
    rw [e] at this
    exact this
  unfold m__law_due d__law_due nxD
  by_cases hb : blk u cs = true
  · simp only [refE, roS_da, roS_un, roS_ml, runP, runS, seqS, nextS_ap, asgS, parS, ifS, retS, retN, dropS, raiseS, neverS, contS_ap, breakS_ap, frzS, appS, extS, tgN, tgM, tgs, tgT, tgS, vE, cE, op2, op1, aN, aC, tB', andT, orT, notT, andV, orV, notV, ifE, tupE, lstE, caE, chE, callE, callS, isiE_ap, oN, oS, slE, anyI, rngI, zipI, forS, yesT, cgN, cgT, cgs, whileS, rawL, rawOf, rawL_nil, datL, datL_nil, Rv.dat, GD.toBool, toBool_bool, intOf, intOf_int, ofO, ofO_some, ofO_none, Re.ok_bind, Re.ex_bind, Re.no_bind, Re.pure_eq, addD_int, addD_tup, addD_lst, addD_str, subD_int, negD_int, ltD_int, leD_int, gtD_int, geD_int, isD_none, isD_bool, isNotD_none, isNotD_bool, isNoneD_none, isNoneD_bool, isNoneD_int, isNoneD_str, isNoneD_list, isNoneD_tuple, isNoneD_dict, lenD_lst, lenD_tup, absD_int, intD_int, intD_bool, tupleD_lst, tupleD_tup, listD_lst, listD_tup, itemsOf_lst, itemsOf_tup, zipD_lst, zipD_tup, maxD_int, minD_int, slD_tup, slD_lst, pow_10_18, itemsOf_tupI, isi_tuple, isi_int, isi_bool, isi_str, isi_list, isTup_none, isTup_bool, isTup_int, isTup_str, isTup_list, isTup_tuple, isTup_dict, isWB_none, isWB_bool, isWB_int, isWB_str, isWB_list, isWB_tuple, isWB_dict, isB_none, isB_bool, isB_int, isB_str, isB_list, isB_tuple, isB_dict, isStr_none, isStr_bool, isStr_int, isStr_str, isStr_list, isStr_tuple, isStr_dict, isLst_none, isLst_bool, isLst_int, isLst_str, isLst_list, isLst_tuple, isTupI, sumD_lst, lenD_tupI, sumD_tupI, lenD_drD, eqD_int, neD_int, ixD_tup, ixD_lst, at0, at1, at2, at3, List.length_cons, List.length_nil, List.map_cons, List.map_nil, List.cons_append, List.nil_append, List.replicate, List.getElem?_cons_zero, List.getElem?_cons_succ, List.getElem?_nil, List.set_cons_zero, List.set_cons_succ, Nat.reduceAdd, Nat.reduceSub, Nat.reduceLeDiff, Nat.reduceEqDiff, if_true, if_false, beq_self_eq_true, decide_true, eq_self, reduceCtorEq, Bool.not_true, Bool.not_false, Bool.true_and, Bool.and_true, Bool.false_and, Bool.and_false, Bool.or_true, Bool.true_or, Bool.or_false, Bool.false_or, Bool.false_eq_true, Option.map_some, Option.map_none, Option.bind_some, Option.bind_none, L1, e3, e1, hb, if_pos hb]
  · have hb' : blk u cs = false := by simpa using hb
    have L2 := lc_mapE (e := fun k : Nat => PyData.int (k : Int)) (te := callE m__law_cut (aC (op2 addD (op2 ixD (vE 0) (vE 4)) (op2 mulD (vE 1) (op2 ixD (vE 2) (vE 4)))) (aC (vE 3) aN))) (j := 4) (h := fun k : Nat => frD (nxQ u m cs (u.getD k 0, cs.getD k 0))) (rg (.da (.int (u.sum + m * (cs.sum : Nat)))) .un) (by simp; omega) (by
      intro i hi
      have hi := List.mem_range.mp hi
      have hx := getD_all (by decide) hu.all i
      have hci : cs.getD i 0 ≤ 40 := by
        have : cs.getD i 0 ∈ cs := by simp [List.getD, List.getElem?_eq_getElem (show i < cs.length by omega)]
        have := mem_le_sum this
        have := h.sum
        omega
      have hc := k _ hci
      have M2 : mulD (.int m) (.int ((cs.getD i 0 : Nat) : Int)) = some (.da (.int (m * ((cs.getD i 0 : Nat) : Int)))) := mulD_sm (by omega) (by omega)
      have f := cut_ev (u.getD i 0 + m * ((cs.getD i 0 : Nat) : Int)) a3 (by omega)
      exact ⟨.da (frD (nxQ u m cs (u.getD i 0, cs.getD i 0))), by simp only [refE, roS_da, roS_un, roS_ml, runP, runS, seqS, nextS_ap, asgS, parS, ifS, retS, retN, dropS, raiseS, neverS, contS_ap, breakS_ap, frzS, appS, extS, tgN, tgM, tgs, tgT, tgS, vE, cE, op2, op1, aN, aC, tB', andT, orT, notT, andV, orV, notV, ifE, tupE, lstE, caE, chE, callE, callS, isiE_ap, oN, oS, slE, anyI, rngI, zipI, forS, yesT, cgN, cgT, cgs, whileS, rawL, rawOf, rawL_nil, datL, datL_nil, Rv.dat, GD.toBool, toBool_bool, intOf, intOf_int, ofO, ofO_some, ofO_none, Re.ok_bind, Re.ex_bind, Re.no_bind, Re.pure_eq, addD_int, addD_tup, addD_lst, addD_str, subD_int, negD_int, ltD_int, leD_int, gtD_int, geD_int, isD_none, isD_bool, isNotD_none, isNotD_bool, isNoneD_none, isNoneD_bool, isNoneD_int, isNoneD_str, isNoneD_list, isNoneD_tuple, isNoneD_dict, lenD_lst, lenD_tup, absD_int, intD_int, intD_bool, tupleD_lst, tupleD_tup, listD_lst, listD_tup, itemsOf_lst, itemsOf_tup, zipD_lst, zipD_tup, maxD_int, minD_int, slD_tup, slD_lst, pow_10_18, itemsOf_tupI, isi_tuple, isi_int, isi_bool, isi_str, isi_list, isTup_none, isTup_bool, isTup_int, isTup_str, isTup_list, isTup_tuple, isTup_dict, isWB_none, isWB_bool, isWB_int, isWB_str, isWB_list, isWB_tuple, isWB_dict, isB_none, isB_bool, isB_int, isB_str, isB_list, isB_tuple, isB_dict, isStr_none, isStr_bool, isStr_int, isStr_str, isStr_list, isStr_tuple, isStr_dict, isLst_none, isLst_bool, isLst_int, isLst_str, isLst_list, isLst_tuple, isTupI, sumD_lst, lenD_tupI, sumD_tupI, lenD_drD, eqD_int, neD_int, ixD_tup, ixD_lst, at0, at1, at2, at3, List.length_cons, List.length_nil, List.map_cons, List.map_nil, List.cons_append, List.nil_append, List.replicate, List.getElem?_cons_zero, List.getElem?_cons_succ, List.getElem?_nil, List.set_cons_zero, List.set_cons_succ, Nat.reduceAdd, Nat.reduceSub, Nat.reduceLeDiff, Nat.reduceEqDiff, if_true, if_false, beq_self_eq_true, decide_true, eq_self, reduceCtorEq, Bool.not_true, Bool.not_false, Bool.true_and, Bool.and_true, Bool.false_and, Bool.and_false, Bool.or_true, Bool.true_or, Bool.or_false, Bool.false_or, Bool.false_eq_true, Option.map_some, Option.map_none, Option.bind_some, Option.bind_none, ixD_tupI (getD_some hi), cx i hi, M2, f]; rfl, rfl⟩)
    simp only [refE, roS_da, roS_un, roS_ml, runP, runS, seqS, nextS_ap, asgS, parS, ifS, retS, retN, dropS, raiseS, neverS, contS_ap, breakS_ap, frzS, appS, extS, tgN, tgM, tgs, tgT, tgS, vE, cE, op2, op1, aN, aC, tB', andT, orT, notT, andV, orV, notV, ifE, tupE, lstE, caE, chE, callE, callS, isiE_ap, oN, oS, slE, anyI, rngI, zipI, forS, yesT, cgN, cgT, cgs, whileS, rawL, rawOf, rawL_nil, datL, datL_nil, Rv.dat, GD.toBool, toBool_bool, intOf, intOf_int, ofO, ofO_some, ofO_none, Re.ok_bind, Re.ex_bind, Re.no_bind, Re.pure_eq, addD_int, addD_tup, addD_lst, addD_str, subD_int, negD_int, ltD_int, leD_int, gtD_int, geD_int, isD_none, isD_bool, isNotD_none, isNotD_bool, isNoneD_none, isNoneD_bool, isNoneD_int, isNoneD_str, isNoneD_list, isNoneD_tuple, isNoneD_dict, lenD_lst, lenD_tup, absD_int, intD_int, intD_bool, tupleD_lst, tupleD_tup, listD_lst, listD_tup, itemsOf_lst, itemsOf_tup, zipD_lst, zipD_tup, maxD_int, minD_int, slD_tup, slD_lst, pow_10_18, itemsOf_tupI, isi_tuple, isi_int, isi_bool, isi_str, isi_list, isTup_none, isTup_bool, isTup_int, isTup_str, isTup_list, isTup_tuple, isTup_dict, isWB_none, isWB_bool, isWB_int, isWB_str, isWB_list, isWB_tuple, isWB_dict, isB_none, isB_bool, isB_int, isB_str, isB_list, isB_tuple, isB_dict, isStr_none, isStr_bool, isStr_int, isStr_str, isStr_list, isStr_tuple, isStr_dict, isLst_none, isLst_bool, isLst_int, isLst_str, isLst_list, isLst_tuple, isTupI, sumD_lst, lenD_tupI, sumD_tupI, lenD_drD, eqD_int, neD_int, ixD_tup, ixD_lst, at0, at1, at2, at3, List.length_cons, List.length_nil, List.map_cons, List.map_nil, List.cons_append, List.nil_append, List.replicate, List.getElem?_cons_zero, List.getElem?_cons_succ, List.getElem?_nil, List.set_cons_zero, List.set_cons_succ, Nat.reduceAdd, Nat.reduceSub, Nat.reduceLeDiff, Nat.reduceEqDiff, if_true, if_false, beq_self_eq_true, decide_true, eq_self, reduceCtorEq, Bool.not_true, Bool.not_false, Bool.true_and, Bool.and_true, Bool.false_and, Bool.and_false, Bool.or_true, Bool.true_or, Bool.or_false, Bool.false_or, Bool.false_eq_true, Option.map_some, Option.map_none, Option.bind_some, Option.bind_none, L1, e3, e1, hb', sumD_tupI, sumD_cn, M, L2]
    rw [zip_range (a0 := 0) (b0 := 0) hl.symm]
theorem gd_nx {u : List Int} {m : Int} {cs : List Nat} (hu : Urn 20 u) : gd 6 (nxD u m cs) := by
  unfold nxD
  split
  · exact True.intro
  · refine ⟨by simp; have := hu.l4; omega, fun x hx => ?_⟩
    obtain ⟨p, _, rfl⟩ := List.mem_map.mp hx
    exact gd_fr 3 _
theorem next_bad_urn {d m c : D} (h : isUrn d = false) : m_next_shares [d, m, c] = .ex "NoUrn" := by
  unfold m_next_shares d_next_shares
  simp only [refE, roS_da, roS_un, roS_ml, runP, runS, seqS, nextS_ap, asgS, parS, ifS, retS, retN, dropS, raiseS, neverS, contS_ap, breakS_ap, frzS, appS, extS, tgN, tgM, tgs, tgT, tgS, vE, cE, op2, op1, aN, aC, tB', andT, orT, notT, andV, orV, notV, ifE, tupE, lstE, caE, chE, callE, callS, isiE_ap, oN, oS, slE, anyI, rngI, zipI, forS, yesT, cgN, cgT, cgs, whileS, rawL, rawOf, rawL_nil, datL, datL_nil, Rv.dat, GD.toBool, toBool_bool, intOf, intOf_int, ofO, ofO_some, ofO_none, Re.ok_bind, Re.ex_bind, Re.no_bind, Re.pure_eq, addD_int, addD_tup, addD_lst, addD_str, subD_int, negD_int, ltD_int, leD_int, gtD_int, geD_int, isD_none, isD_bool, isNotD_none, isNotD_bool, isNoneD_none, isNoneD_bool, isNoneD_int, isNoneD_str, isNoneD_list, isNoneD_tuple, isNoneD_dict, lenD_lst, lenD_tup, absD_int, intD_int, intD_bool, tupleD_lst, tupleD_tup, listD_lst, listD_tup, itemsOf_lst, itemsOf_tup, zipD_lst, zipD_tup, maxD_int, minD_int, slD_tup, slD_lst, pow_10_18, itemsOf_tupI, isi_tuple, isi_int, isi_bool, isi_str, isi_list, isTup_none, isTup_bool, isTup_int, isTup_str, isTup_list, isTup_tuple, isTup_dict, isWB_none, isWB_bool, isWB_int, isWB_str, isWB_list, isWB_tuple, isWB_dict, isB_none, isB_bool, isB_int, isB_str, isB_list, isB_tuple, isB_dict, isStr_none, isStr_bool, isStr_int, isStr_str, isStr_list, isStr_tuple, isStr_dict, isLst_none, isLst_bool, isLst_int, isLst_str, isLst_list, isLst_tuple, isTupI, sumD_lst, lenD_tupI, sumD_tupI, lenD_drD, eqD_int, neD_int, ixD_tup, ixD_lst, at0, at1, at2, at3, List.length_cons, List.length_nil, List.map_cons, List.map_nil, List.cons_append, List.nil_append, List.replicate, List.getElem?_cons_zero, List.getElem?_cons_succ, List.getElem?_nil, List.set_cons_zero, List.set_cons_succ, Nat.reduceAdd, Nat.reduceSub, Nat.reduceLeDiff, Nat.reduceEqDiff, if_true, if_false, beq_self_eq_true, decide_true, eq_self, reduceCtorEq, Bool.not_true, Bool.not_false, Bool.true_and, Bool.and_true, Bool.false_and, Bool.and_false, Bool.or_true, Bool.true_or, Bool.or_false, Bool.false_or, Bool.false_eq_true, Option.map_some, Option.map_none, Option.bind_some, Option.bind_none, counts_bad_urn h]
theorem next_bad_more {d m c : D} (h : isUrn d = true) (hm : btw m 0 5 = false) : m_next_shares [d, m, c] = .ex "NoNumber" := by
  unfold m_next_shares d_next_shares
  simp only [refE, roS_da, roS_un, roS_ml, runP, runS, seqS, nextS_ap, asgS, parS, ifS, retS, retN, dropS, raiseS, neverS, contS_ap, breakS_ap, frzS, appS, extS, tgN, tgM, tgs, tgT, tgS, vE, cE, op2, op1, aN, aC, tB', andT, orT, notT, andV, orV, notV, ifE, tupE, lstE, caE, chE, callE, callS, isiE_ap, oN, oS, slE, anyI, rngI, zipI, forS, yesT, cgN, cgT, cgs, whileS, rawL, rawOf, rawL_nil, datL, datL_nil, Rv.dat, GD.toBool, toBool_bool, intOf, intOf_int, ofO, ofO_some, ofO_none, Re.ok_bind, Re.ex_bind, Re.no_bind, Re.pure_eq, addD_int, addD_tup, addD_lst, addD_str, subD_int, negD_int, ltD_int, leD_int, gtD_int, geD_int, isD_none, isD_bool, isNotD_none, isNotD_bool, isNoneD_none, isNoneD_bool, isNoneD_int, isNoneD_str, isNoneD_list, isNoneD_tuple, isNoneD_dict, lenD_lst, lenD_tup, absD_int, intD_int, intD_bool, tupleD_lst, tupleD_tup, listD_lst, listD_tup, itemsOf_lst, itemsOf_tup, zipD_lst, zipD_tup, maxD_int, minD_int, slD_tup, slD_lst, pow_10_18, itemsOf_tupI, isi_tuple, isi_int, isi_bool, isi_str, isi_list, isTup_none, isTup_bool, isTup_int, isTup_str, isTup_list, isTup_tuple, isTup_dict, isWB_none, isWB_bool, isWB_int, isWB_str, isWB_list, isWB_tuple, isWB_dict, isB_none, isB_bool, isB_int, isB_str, isB_list, isB_tuple, isB_dict, isStr_none, isStr_bool, isStr_int, isStr_str, isStr_list, isStr_tuple, isStr_dict, isLst_none, isLst_bool, isLst_int, isLst_str, isLst_list, isLst_tuple, isTupI, sumD_lst, lenD_tupI, sumD_tupI, lenD_drD, eqD_int, neD_int, ixD_tup, ixD_lst, at0, at1, at2, at3, List.length_cons, List.length_nil, List.map_cons, List.map_nil, List.cons_append, List.nil_append, List.replicate, List.getElem?_cons_zero, List.getElem?_cons_succ, List.getElem?_nil, List.set_cons_zero, List.set_cons_succ, Nat.reduceAdd, Nat.reduceSub, Nat.reduceLeDiff, Nat.reduceEqDiff, if_true, if_false, beq_self_eq_true, decide_true, eq_self, reduceCtorEq, Bool.not_true, Bool.not_false, Bool.true_and, Bool.and_true, Bool.false_and, Bool.and_false, Bool.or_true, Bool.true_or, Bool.or_false, Bool.false_or, Bool.false_eq_true, Option.map_some, Option.map_none, Option.bind_some, Option.bind_none, counts_bad_more h hm]
theorem next_bad_counts {u : List Int} {m c : D} (h : Urn 20 u) (hm : btw m 0 5 = true) (hc : isCnt u.length c = false) : m_next_shares [tupI u, m, c] = .ex "NoCounts" := by
  unfold m_next_shares d_next_shares
  simp only [refE, roS_da, roS_un, roS_ml, runP, runS, seqS, nextS_ap, asgS, parS, ifS, retS, retN, dropS, raiseS, neverS, contS_ap, breakS_ap, frzS, appS, extS, tgN, tgM, tgs, tgT, tgS, vE, cE, op2, op1, aN, aC, tB', andT, orT, notT, andV, orV, notV, ifE, tupE, lstE, caE, chE, callE, callS, isiE_ap, oN, oS, slE, anyI, rngI, zipI, forS, yesT, cgN, cgT, cgs, whileS, rawL, rawOf, rawL_nil, datL, datL_nil, Rv.dat, GD.toBool, toBool_bool, intOf, intOf_int, ofO, ofO_some, ofO_none, Re.ok_bind, Re.ex_bind, Re.no_bind, Re.pure_eq, addD_int, addD_tup, addD_lst, addD_str, subD_int, negD_int, ltD_int, leD_int, gtD_int, geD_int, isD_none, isD_bool, isNotD_none, isNotD_bool, isNoneD_none, isNoneD_bool, isNoneD_int, isNoneD_str, isNoneD_list, isNoneD_tuple, isNoneD_dict, lenD_lst, lenD_tup, absD_int, intD_int, intD_bool, tupleD_lst, tupleD_tup, listD_lst, listD_tup, itemsOf_lst, itemsOf_tup, zipD_lst, zipD_tup, maxD_int, minD_int, slD_tup, slD_lst, pow_10_18, itemsOf_tupI, isi_tuple, isi_int, isi_bool, isi_str, isi_list, isTup_none, isTup_bool, isTup_int, isTup_str, isTup_list, isTup_tuple, isTup_dict, isWB_none, isWB_bool, isWB_int, isWB_str, isWB_list, isWB_tuple, isWB_dict, isB_none, isB_bool, isB_int, isB_str, isB_list, isB_tuple, isB_dict, isStr_none, isStr_bool, isStr_int, isStr_str, isStr_list, isStr_tuple, isStr_dict, isLst_none, isLst_bool, isLst_int, isLst_str, isLst_list, isLst_tuple, isTupI, sumD_lst, lenD_tupI, sumD_tupI, lenD_drD, eqD_int, neD_int, ixD_tup, ixD_lst, at0, at1, at2, at3, List.length_cons, List.length_nil, List.map_cons, List.map_nil, List.cons_append, List.nil_append, List.replicate, List.getElem?_cons_zero, List.getElem?_cons_succ, List.getElem?_nil, List.set_cons_zero, List.set_cons_succ, Nat.reduceAdd, Nat.reduceSub, Nat.reduceLeDiff, Nat.reduceEqDiff, if_true, if_false, beq_self_eq_true, decide_true, eq_self, reduceCtorEq, Bool.not_true, Bool.not_false, Bool.true_and, Bool.and_true, Bool.false_and, Bool.and_false, Bool.or_true, Bool.true_or, Bool.or_false, Bool.false_or, Bool.false_eq_true, Option.map_some, Option.map_none, Option.bind_some, Option.bind_none, counts_bad_counts h hm hc]
theorem alone_sum : ∀ (f : Nat → Nat) (cs : List Nat) (i : Nat), (∀ k, f k ≤ 1) → (((List.range' i cs.length).map fun k => cs.getD (k - i) 0 * f k)).sum ≤ cs.sum
  | f, [], i, h => by simp
  | f, c :: cs, i, h => by
    have ih := alone_sum f cs (i + 1) h
    rw [List.length_cons, List.range'_succ, List.map_cons, List.sum_cons, List.sum_cons]
    have e : ((List.range' (i + 1) cs.length).map fun k => (c :: cs).getD (k - i) 0 * f k) = ((List.range' (i + 1) cs.length).map fun k => cs.getD (k - (i + 1)) 0 * f k) := by
      refine List.map_congr_left fun k hk => ?_
      have := (List.mem_range'_1.mp hk).1
      rw [show k - i = (k - (i + 1)) + 1 by omega]
      simp
    rw [e]
    have h1 := h i
    have h2 : (c :: cs).getD (i - i) 0 * f i ≤ c := by
      simp
      exact Nat.le_trans (Nat.mul_le_mul_left c h1) (by omega)
    omega
theorem body_ev (ns : List Int) (k : Nat) (x2 x3 x4 x5 x6 x7 x8 x9 x10 x11 x12 : Sl) : ∃ g', ((seqS (asgS (callE m__law_state (aC (vE 0) (aC (vE 1) aN))) (tgM 2)) (seqS (asgS (op2 addD (cE (.int 1)) (callS m__law_take (aC (vE 2) (aC (cE (.int 4)) aN)))) (tgN 3)) (seqS (asgS (tupE (aC (callS m__law_urn (aC (vE 2) (aC (vE 3) aN))) (aC (callS m__law_take (aC (vE 2) (aC (cE (.int 6)) aN))) (aC (callS m__law_counts (aC (vE 2) (aC (vE 3) aN))) aN)))) (tgT [(tgN 11), (tgN 8), (tgN 4)])) (seqS (asgS (caE tupleD (aC (lcE (rngI (aC (vE 3) aN)) (cgN 12) yesT (op2 mulD (op2 ixD (vE 4) (vE 12)) (caE intD (aC (op2 gtD (op2 ixD (vE 11) (vE 12)) (cE (.int 0))) aN))) [12]) aN)) (tgN 5)) (seqS (forS (anyI (lstE (aC (vE 4) (aC (op2 mulD (tupE (aC (cE (.int 0)) aN)) (vE 3)) (aC (vE 5) (aC (op1 backD (vE 4)) aN)))))) (tgN 6) (ifS (notT (tB' (callE (m__law_same 6) (aC (callE m_next_shares (aC (vE 11) (aC (vE 8) (aC (vE 6) aN)))) (aC (callE m__law_due (aC (vE 11) (aC (vE 8) (aC (vE 6) aN)))) aN))))) (retS (cE (.bool false))) nextS)) (seqS (asgS (op2 ixD (lstE (aC (op1 negD (cE (.int 1))) (aC (cE (.int 6)) (aC (cE (.bool true)) (aC (cE (.bool false)) (aC (cE .none) (aC (cE (.str "1")) (aC (tupE (aC (cE (.int 1)) aN)) (aC (op2 powD (cE (.int 10)) (cE (.int 29))) (aC (lstE (aC (cE (.int 0)) aN)) aN)))))))))) (callS m__law_take (aC (vE 2) (aC (cE (.int 9)) aN)))) (tgN 10)) (seqS (asgS (tupE (aC (callS m__law_no_urn (aC (vE 2) aN)) (aC (callS m__law_bent_counts (aC (vE 2) (aC (vE 4) aN))) aN))) (tgT [(tgN 9), (tgN 7)])) (seqS (ifS (tB' (op2 neD (refE ans_ref (callE m_next_shares (aC (vE 9) (aC (vE 10) (aC (vE 7) aN))))) (cE (.int 0)))) (retS (cE (.bool false))) nextS) (seqS (ifS (tB' (op2 neD (refE ans_ref (callE m_next_shares (aC (vE 11) (aC (vE 10) (aC (vE 7) aN))))) (cE (.int 5)))) (retS (cE (.bool false))) nextS) (ifS (tB' (op2 neD (refE ans_ref (callE m_next_shares (aC (vE 11) (aC (vE 8) (aC (vE 7) aN))))) (cE (.int 7)))) (retS (cE (.bool false))) nextS)))))))))) [.da (scrD ns), .da (.int k), x2, x3, x4, x5, x6, x7, x8, x9, x10, x11, x12] = .nx g' ∨ (seqS (asgS (callE m__law_state (aC (vE 0) (aC (vE 1) aN))) (tgM 2)) (seqS (asgS (op2 addD (cE (.int 1)) (callS m__law_take (aC (vE 2) (aC (cE (.int 4)) aN)))) (tgN 3)) (seqS (asgS (tupE (aC (callS m__law_urn (aC (vE 2) (aC (vE 3) aN))) (aC (callS m__law_take (aC (vE 2) (aC (cE (.int 6)) aN))) (aC (callS m__law_counts (aC (vE 2) (aC (vE 3) aN))) aN)))) (tgT [(tgN 11), (tgN 8), (tgN 4)])) (seqS (asgS (caE tupleD (aC (lcE (rngI (aC (vE 3) aN)) (cgN 12) yesT (op2 mulD (op2 ixD (vE 4) (vE 12)) (caE intD (aC (op2 gtD (op2 ixD (vE 11) (vE 12)) (cE (.int 0))) aN))) [12]) aN)) (tgN 5)) (seqS (forS (anyI (lstE (aC (vE 4) (aC (op2 mulD (tupE (aC (cE (.int 0)) aN)) (vE 3)) (aC (vE 5) (aC (op1 backD (vE 4)) aN)))))) (tgN 6) (ifS (notT (tB' (callE (m__law_same 6) (aC (callE m_next_shares (aC (vE 11) (aC (vE 8) (aC (vE 6) aN)))) (aC (callE m__law_due (aC (vE 11) (aC (vE 8) (aC (vE 6) aN)))) aN))))) (retS (cE (.bool false))) nextS)) (seqS (asgS (op2 ixD (lstE (aC (op1 negD (cE (.int 1))) (aC (cE (.int 6)) (aC (cE (.bool true)) (aC (cE (.bool false)) (aC (cE .none) (aC (cE (.str "1")) (aC (tupE (aC (cE (.int 1)) aN)) (aC (op2 powD (cE (.int 10)) (cE (.int 29))) (aC (lstE (aC (cE (.int 0)) aN)) aN)))))))))) (callS m__law_take (aC (vE 2) (aC (cE (.int 9)) aN)))) (tgN 10)) (seqS (asgS (tupE (aC (callS m__law_no_urn (aC (vE 2) aN)) (aC (callS m__law_bent_counts (aC (vE 2) (aC (vE 4) aN))) aN))) (tgT [(tgN 9), (tgN 7)])) (seqS (ifS (tB' (op2 neD (refE ans_ref (callE m_next_shares (aC (vE 9) (aC (vE 10) (aC (vE 7) aN))))) (cE (.int 0)))) (retS (cE (.bool false))) nextS) (seqS (ifS (tB' (op2 neD (refE ans_ref (callE m_next_shares (aC (vE 11) (aC (vE 10) (aC (vE 7) aN))))) (cE (.int 5)))) (retS (cE (.bool false))) nextS) (ifS (tB' (op2 neD (refE ans_ref (callE m_next_shares (aC (vE 11) (aC (vE 8) (aC (vE 7) aN))))) (cE (.int 7)))) (retS (cE (.bool false))) nextS)))))))))) [.da (scrD ns), .da (.int k), x2, x3, x4, x5, x6, x7, x8, x9, x10, x11, x12] = .ct g') ∧ ∃ y1 y2 y3 y4 y5 y6 y7 y8 y9 y10 y11 y12, g' = [.da (scrD ns), y1, y2, y3, y4, y5, y6, y7, y8, y9, y10, y11, y12] := by
  obtain ⟨ds, e0, h0⟩ := state_ev ns k
  obtain ⟨v, d1, e1, hv, h1⟩ := take_ev h0 (n := 4) (by decide) (by decide)
  obtain ⟨n, hn⟩ : ∃ n : Nat, (1 + (v : Int)) = n := ⟨v + 1, by omega⟩
  obtain ⟨u, d2, e2, hu, hl, h2⟩ := lurn_ev h1 (n := n) (by omega) (by omega)
  obtain ⟨m, d3, e3, hm, h3⟩ := take_ev h2 (n := 6) (by decide) (by decide)
  obtain ⟨cs, d4, e4, hcs, h4⟩ := lcounts_ev h3 (n := n) (by omega) (by omega)
  obtain ⟨w, d5, e5, hw, h5⟩ := take_ev h4 (n := 9) (by decide) (by decide)
  obtain ⟨x, hx, ex⟩ := ix_lt (xs := [.int (-1), .int 6, .bool true, .bool false, .none, .str "1", .tuple [.int 1], .int 100000000000000000000000000000, .list [.int 0]]) (v := w) (by simp; omega)
  have xb : btw x 0 5 = false := by
    have h : ([.int (-1), .int 6, .bool true, .bool false, .none, .str "1", .tuple [.int 1], .int 100000000000000000000000000000, .list [.int 0]] : List D).all (fun d => !btw d 0 5) = true := rfl
    simpa using List.all_eq_true.mp h x hx
  obtain ⟨nu, d6, e6, hnu, h6⟩ := no_urn_ev h5
  obtain ⟨bc, d7, e7, hbc, h7⟩ := bent_counts_ev (n := n) h6 hcs (by omega) (by omega)
  have mb : btw (.int (m : Int)) 0 5 = true := by simp [btw]; omega
  have hcl := hcs.len
  obtain ⟨al, dal⟩ : ∃ al : List Nat, al = (List.range n).map fun k => cs.getD k 0 * (if 0 < u.getD k 0 then 1 else 0) := ⟨_, rfl⟩
  have hal : Cnt n al := by
    refine ⟨by simp [dal], ?_⟩
    rw [dal]
    have := alone_sum (fun k => if 0 < u.getD k 0 then 1 else 0) cs 0 (fun k => by split <;> omega)
    rw [← List.range_eq_range', hcl] at this
    have := hcs.sum
    simp only [Nat.sub_zero] at *
    omega
  have L0 := lc_mapE (e := fun k : Nat => PyData.int (k : Int)) (it := rngI (aC (vE 3) aN)) (te := op2 mulD (op2 ixD (vE 4) (vE 12)) (caE intD (aC (op2 gtD (op2 ixD (vE 11) (vE 12)) (cE (.int 0))) aN))) (j := 12) (h := fun k : Nat => PyData.int ((cs.getD k 0 * (if 0 < u.getD k 0 then 1 else 0) : Nat) : Int)) (g := [.da (scrD ns), .da (.int k), .ml true d4, .da (.int n), .da (cnD cs), x5, x6, x7, .da (.int m), x9, x10, .da (tupI u), x12]) (g1 := [.da (scrD ns), .da (.int k), .ml true d4, .da (.int n), .da (cnD cs), x5, x6, x7, .da (.int m), x9, x10, .da (tupI u), x12]) (ks := List.range n) (by simp only [refE, roS_da, roS_un, roS_ml, runP, runS, seqS, nextS_ap, asgS, parS, ifS, retS, retN, dropS, raiseS, neverS, contS_ap, breakS_ap, frzS, appS, extS, tgN, tgM, tgs, tgT, tgS, vE, cE, op2, op1, aN, aC, tB', andT, orT, notT, andV, orV, notV, ifE, tupE, lstE, caE, chE, callE, callS, isiE_ap, oN, oS, slE, anyI, rngI, zipI, forS, yesT, cgN, cgT, cgs, whileS, rawL, rawOf, rawL_nil, datL, datL_nil, Rv.dat, GD.toBool, toBool_bool, intOf, intOf_int, ofO, ofO_some, ofO_none, Re.ok_bind, Re.ex_bind, Re.no_bind, Re.pure_eq, addD_int, addD_tup, addD_lst, addD_str, subD_int, negD_int, ltD_int, leD_int, gtD_int, geD_int, isD_none, isD_bool, isNotD_none, isNotD_bool, isNoneD_none, isNoneD_bool, isNoneD_int, isNoneD_str, isNoneD_list, isNoneD_tuple, isNoneD_dict, lenD_lst, lenD_tup, absD_int, intD_int, intD_bool, tupleD_lst, tupleD_tup, listD_lst, listD_tup, itemsOf_lst, itemsOf_tup, zipD_lst, zipD_tup, maxD_int, minD_int, slD_tup, slD_lst, pow_10_18, itemsOf_tupI, isi_tuple, isi_int, isi_bool, isi_str, isi_list, isTup_none, isTup_bool, isTup_int, isTup_str, isTup_list, isTup_tuple, isTup_dict, isWB_none, isWB_bool, isWB_int, isWB_str, isWB_list, isWB_tuple, isWB_dict, isB_none, isB_bool, isB_int, isB_str, isB_list, isB_tuple, isB_dict, isStr_none, isStr_bool, isStr_int, isStr_str, isStr_list, isStr_tuple, isStr_dict, isLst_none, isLst_bool, isLst_int, isLst_str, isLst_list, isLst_tuple, isTupI, sumD_lst, lenD_tupI, sumD_tupI, lenD_drD, eqD_int, neD_int, ixD_tup, ixD_lst, at0, at1, at2, at3, List.length_cons, List.length_nil, List.map_cons, List.map_nil, List.cons_append, List.nil_append, List.replicate, List.getElem?_cons_zero, List.getElem?_cons_succ, List.getElem?_nil, List.set_cons_zero, List.set_cons_succ, Nat.reduceAdd, Nat.reduceSub, Nat.reduceLeDiff, Nat.reduceEqDiff, if_true, if_false, beq_self_eq_true, decide_true, eq_self, reduceCtorEq, Bool.not_true, Bool.not_false, Bool.true_and, Bool.and_true, Bool.false_and, Bool.and_false, Bool.or_true, Bool.true_or, Bool.or_false, Bool.false_or, Bool.false_eq_true, Option.map_some, Option.map_none, Option.bind_some, Option.bind_none, rng_nat (show n ≤ 1000000 by omega)]) (by simp; omega) (by
    intro i hi
    have hi := List.mem_range.mp hi
    have cx : ixD (cnD cs) (.int (i : Int)) = some (.da (.int ((cs.getD i 0 : Nat) : Int))) := ixD_tupI (by rw [List.getElem?_map, List.getElem?_eq_getElem (show i < cs.length by omega)]; simp [List.getD, List.getElem?_eq_getElem (show i < cs.length by omega)])
    have hci : cs.getD i 0 ≤ 40 := by
      have : cs.getD i 0 ∈ cs := by simp [List.getD, List.getElem?_eq_getElem (show i < cs.length by omega)]
      have := mem_le_sum this
      have := hcs.sum
      omega
    by_cases h0 : 0 < u.getD i 0
    · have M : mulD (.int ((cs.getD i 0 : Nat) : Int)) (.int 1) = some (.da (.int ((cs.getD i 0 : Nat) : Int))) := by rw [mulD_sm (by omega) (by decide), Int.mul_one]
      exact ⟨.da (.int ((cs.getD i 0 : Nat) : Int)), by simp only [refE, roS_da, roS_un, roS_ml, runP, runS, seqS, nextS_ap, asgS, parS, ifS, retS, retN, dropS, raiseS, neverS, contS_ap, breakS_ap, frzS, appS, extS, tgN, tgM, tgs, tgT, tgS, vE, cE, op2, op1, aN, aC, tB', andT, orT, notT, andV, orV, notV, ifE, tupE, lstE, caE, chE, callE, callS, isiE_ap, oN, oS, slE, anyI, rngI, zipI, forS, yesT, cgN, cgT, cgs, whileS, rawL, rawOf, rawL_nil, datL, datL_nil, Rv.dat, GD.toBool, toBool_bool, intOf, intOf_int, ofO, ofO_some, ofO_none, Re.ok_bind, Re.ex_bind, Re.no_bind, Re.pure_eq, addD_int, addD_tup, addD_lst, addD_str, subD_int, negD_int, ltD_int, leD_int, gtD_int, geD_int, isD_none, isD_bool, isNotD_none, isNotD_bool, isNoneD_none, isNoneD_bool, isNoneD_int, isNoneD_str, isNoneD_list, isNoneD_tuple, isNoneD_dict, lenD_lst, lenD_tup, absD_int, intD_int, intD_bool, tupleD_lst, tupleD_tup, listD_lst, listD_tup, itemsOf_lst, itemsOf_tup, zipD_lst, zipD_tup, maxD_int, minD_int, slD_tup, slD_lst, pow_10_18, itemsOf_tupI, isi_tuple, isi_int, isi_bool, isi_str, isi_list, isTup_none, isTup_bool, isTup_int, isTup_str, isTup_list, isTup_tuple, isTup_dict, isWB_none, isWB_bool, isWB_int, isWB_str, isWB_list, isWB_tuple, isWB_dict, isB_none, isB_bool, isB_int, isB_str, isB_list, isB_tuple, isB_dict, isStr_none, isStr_bool, isStr_int, isStr_str, isStr_list, isStr_tuple, isStr_dict, isLst_none, isLst_bool, isLst_int, isLst_str, isLst_list, isLst_tuple, isTupI, sumD_lst, lenD_tupI, sumD_tupI, lenD_drD, eqD_int, neD_int, ixD_tup, ixD_lst, at0, at1, at2, at3, List.length_cons, List.length_nil, List.map_cons, List.map_nil, List.cons_append, List.nil_append, List.replicate, List.getElem?_cons_zero, List.getElem?_cons_succ, List.getElem?_nil, List.set_cons_zero, List.set_cons_succ, Nat.reduceAdd, Nat.reduceSub, Nat.reduceLeDiff, Nat.reduceEqDiff, if_true, if_false, beq_self_eq_true, decide_true, eq_self, reduceCtorEq, Bool.not_true, Bool.not_false, Bool.true_and, Bool.and_true, Bool.false_and, Bool.and_false, Bool.or_true, Bool.true_or, Bool.or_false, Bool.false_or, Bool.false_eq_true, Option.map_some, Option.map_none, Option.bind_some, Option.bind_none, cx, ixD_tupI (getD_some (show i < u.length by omega)), decide_eq_true h0, M], by rw [if_pos h0, Nat.mul_one]; rfl⟩
    · have M : mulD (.int ((cs.getD i 0 : Nat) : Int)) (.int 0) = some (.da (.int 0)) := by rw [mulD_sm (by omega) (by decide), Int.mul_zero]
      exact ⟨.da (.int 0), by simp only [refE, roS_da, roS_un, roS_ml, runP, runS, seqS, nextS_ap, asgS, parS, ifS, retS, retN, dropS, raiseS, neverS, contS_ap, breakS_ap, frzS, appS, extS, tgN, tgM, tgs, tgT, tgS, vE, cE, op2, op1, aN, aC, tB', andT, orT, notT, andV, orV, notV, ifE, tupE, lstE, caE, chE, callE, callS, isiE_ap, oN, oS, slE, anyI, rngI, zipI, forS, yesT, cgN, cgT, cgs, whileS, rawL, rawOf, rawL_nil, datL, datL_nil, Rv.dat, GD.toBool, toBool_bool, intOf, intOf_int, ofO, ofO_some, ofO_none, Re.ok_bind, Re.ex_bind, Re.no_bind, Re.pure_eq, addD_int, addD_tup, addD_lst, addD_str, subD_int, negD_int, ltD_int, leD_int, gtD_int, geD_int, isD_none, isD_bool, isNotD_none, isNotD_bool, isNoneD_none, isNoneD_bool, isNoneD_int, isNoneD_str, isNoneD_list, isNoneD_tuple, isNoneD_dict, lenD_lst, lenD_tup, absD_int, intD_int, intD_bool, tupleD_lst, tupleD_tup, listD_lst, listD_tup, itemsOf_lst, itemsOf_tup, zipD_lst, zipD_tup, maxD_int, minD_int, slD_tup, slD_lst, pow_10_18, itemsOf_tupI, isi_tuple, isi_int, isi_bool, isi_str, isi_list, isTup_none, isTup_bool, isTup_int, isTup_str, isTup_list, isTup_tuple, isTup_dict, isWB_none, isWB_bool, isWB_int, isWB_str, isWB_list, isWB_tuple, isWB_dict, isB_none, isB_bool, isB_int, isB_str, isB_list, isB_tuple, isB_dict, isStr_none, isStr_bool, isStr_int, isStr_str, isStr_list, isStr_tuple, isStr_dict, isLst_none, isLst_bool, isLst_int, isLst_str, isLst_list, isLst_tuple, isTupI, sumD_lst, lenD_tupI, sumD_tupI, lenD_drD, eqD_int, neD_int, ixD_tup, ixD_lst, at0, at1, at2, at3, List.length_cons, List.length_nil, List.map_cons, List.map_nil, List.cons_append, List.nil_append, List.replicate, List.getElem?_cons_zero, List.getElem?_cons_succ, List.getElem?_nil, List.set_cons_zero, List.set_cons_succ, Nat.reduceAdd, Nat.reduceSub, Nat.reduceLeDiff, Nat.reduceEqDiff, if_true, if_false, beq_self_eq_true, decide_true, eq_self, reduceCtorEq, Bool.not_true, Bool.not_false, Bool.true_and, Bool.and_true, Bool.false_and, Bool.and_false, Bool.or_true, Bool.true_or, Bool.or_false, Bool.false_or, Bool.false_eq_true, Option.map_some, Option.map_none, Option.bind_some, Option.bind_none, cx, ixD_tupI (getD_some (show i < u.length by omega)), decide_eq_false h0, M], by rw [if_neg h0, Nat.mul_zero]; rfl⟩)
  have eal : (PyData.tuple ((List.range n).map fun k : Nat => PyData.int ((cs.getD k 0 * (if 0 < u.getD k 0 then 1 else 0) : Nat) : Int))) = cnD al := by
    rw [cnD_t, dal, List.map_map]; rfl
  have L := for_inv (T := tgN 6) (b := (ifS (notT (tB' (callE (m__law_same 6) (aC (callE m_next_shares (aC (vE 11) (aC (vE 8) (aC (vE 6) aN)))) (aC (callE m__law_due (aC (vE 11) (aC (vE 8) (aC (vE 6) aN)))) aN))))) (retS (cE (.bool false))) nextS)) (fun _ g => ∃ s6, g = [.da (scrD ns), .da (.int k), .ml true d4, .da (.int n), .da (cnD cs), .da (cnD al), s6, x7, .da (.int m), x9, x10, .da (tupI u), .un])
    [cnD cs, cnD (List.replicate n 0), cnD al, cnD cs.reverse] 0 [.da (scrD ns), .da (.int k), .ml true d4, .da (.int n), .da (cnD cs), .da (cnD al), x6, x7, .da (.int m), x9, x10, .da (tupI u), .un] ⟨_, rfl⟩ (by
      rintro j d g hd ⟨s5, rfl⟩
      have hd := List.mem_of_getElem? hd
      obtain ⟨es, rfl, hes⟩ : ∃ es, d = cnD es ∧ Cnt u.length es := by
        simp only [List.mem_cons, List.not_mem_nil, or_false] at hd
        rw [hl]
        rcases hd with rfl | rfl | rfl | rfl
        · exact ⟨_, rfl, hcs⟩
        · exact ⟨_, rfl, Cnt.zero n⟩
        · exact ⟨_, rfl, hal⟩
        · exact ⟨_, rfl, hcs.rev⟩
      have c1 := next_ev hu (m := m) (by omega) (by omega) hes
      have c2 := due_ev hu (m := m) (by omega) (by omega) hes
      exact ⟨_, rfl, [.da (scrD ns), .da (.int k), .ml true d4, .da (.int n), .da (cnD cs), .da (cnD al), .da (cnD es), x7, .da (.int m), x9, x10, .da (tupI u), .un], .inl (by simp only [refE, roS_da, roS_un, roS_ml, runP, runS, seqS, nextS_ap, asgS, parS, ifS, retS, retN, dropS, raiseS, neverS, contS_ap, breakS_ap, frzS, appS, extS, tgN, tgM, tgs, tgT, tgS, vE, cE, op2, op1, aN, aC, tB', andT, orT, notT, andV, orV, notV, ifE, tupE, lstE, caE, chE, callE, callS, isiE_ap, oN, oS, slE, anyI, rngI, zipI, forS, yesT, cgN, cgT, cgs, whileS, rawL, rawOf, rawL_nil, datL, datL_nil, Rv.dat, GD.toBool, toBool_bool, intOf, intOf_int, ofO, ofO_some, ofO_none, Re.ok_bind, Re.ex_bind, Re.no_bind, Re.pure_eq, addD_int, addD_tup, addD_lst, addD_str, subD_int, negD_int, ltD_int, leD_int, gtD_int, geD_int, isD_none, isD_bool, isNotD_none, isNotD_bool, isNoneD_none, isNoneD_bool, isNoneD_int, isNoneD_str, isNoneD_list, isNoneD_tuple, isNoneD_dict, lenD_lst, lenD_tup, absD_int, intD_int, intD_bool, tupleD_lst, tupleD_tup, listD_lst, listD_tup, itemsOf_lst, itemsOf_tup, zipD_lst, zipD_tup, maxD_int, minD_int, slD_tup, slD_lst, pow_10_18, itemsOf_tupI, isi_tuple, isi_int, isi_bool, isi_str, isi_list, isTup_none, isTup_bool, isTup_int, isTup_str, isTup_list, isTup_tuple, isTup_dict, isWB_none, isWB_bool, isWB_int, isWB_str, isWB_list, isWB_tuple, isWB_dict, isB_none, isB_bool, isB_int, isB_str, isB_list, isB_tuple, isB_dict, isStr_none, isStr_bool, isStr_int, isStr_str, isStr_list, isStr_tuple, isStr_dict, isLst_none, isLst_bool, isLst_int, isLst_str, isLst_list, isLst_tuple, isTupI, sumD_lst, lenD_tupI, sumD_tupI, lenD_drD, eqD_int, neD_int, ixD_tup, ixD_lst, at0, at1, at2, at3, List.length_cons, List.length_nil, List.map_cons, List.map_nil, List.cons_append, List.nil_append, List.replicate, List.getElem?_cons_zero, List.getElem?_cons_succ, List.getElem?_nil, List.set_cons_zero, List.set_cons_succ, Nat.reduceAdd, Nat.reduceSub, Nat.reduceLeDiff, Nat.reduceEqDiff, if_true, if_false, beq_self_eq_true, decide_true, eq_self, reduceCtorEq, Bool.not_true, Bool.not_false, Bool.true_and, Bool.and_true, Bool.false_and, Bool.and_false, Bool.or_true, Bool.true_or, Bool.or_false, Bool.false_or, Bool.false_eq_true, Option.map_some, Option.map_none, Option.bind_some, Option.bind_none, c1, c2, same_self 6 _ (gd_nx hu)]), _, rfl⟩)
  obtain ⟨g5, L, s5, rfl⟩ := L
  have a0 : ans_ref "NoUrn" = some (.int 0) := rfl
  have a5 : ans_ref "NoNumber" = some (.int 5) := rfl
  have a7 : ans_ref "NoCounts" = some (.int 7) := rfl
  have b1 : ∀ m c : D, m_next_shares [nu, m, c] = .ex "NoUrn" := fun m c => next_bad_urn hnu
  have b2 : ∀ c : D, m_next_shares [tupI u, x, c] = .ex "NoNumber" := fun c => next_bad_more (isUrn_of hu (by decide)) xb
  have b3 : m_next_shares [tupI u, .int m, bc] = .ex "NoCounts" := next_bad_counts hu mb (by rw [hl]; exact hbc)
  refine ⟨[.da (scrD ns), .da (.int k), .ml true d7, .da (.int n), .da (cnD cs), .da (cnD al), s5, .da bc, .da (.int m), .da nu, .da x, .da (tupI u), .un], .inl ?_, _, _, _, _, _, _, _, _, _, _, _, _, rfl⟩
  refine seq_eq (by simp only [refE, roS_da, roS_un, roS_ml, runP, runS, seqS, nextS_ap, asgS, parS, ifS, retS, retN, dropS, raiseS, neverS, contS_ap, breakS_ap, frzS, appS, extS, tgN, tgM, tgs, tgT, tgS, vE, cE, op2, op1, aN, aC, tB', andT, orT, notT, andV, orV, notV, ifE, tupE, lstE, caE, chE, callE, callS, isiE_ap, oN, oS, slE, anyI, rngI, zipI, forS, yesT, cgN, cgT, cgs, whileS, rawL, rawOf, rawL_nil, datL, datL_nil, Rv.dat, GD.toBool, toBool_bool, intOf, intOf_int, ofO, ofO_some, ofO_none, Re.ok_bind, Re.ex_bind, Re.no_bind, Re.pure_eq, addD_int, addD_tup, addD_lst, addD_str, subD_int, negD_int, ltD_int, leD_int, gtD_int, geD_int, isD_none, isD_bool, isNotD_none, isNotD_bool, isNoneD_none, isNoneD_bool, isNoneD_int, isNoneD_str, isNoneD_list, isNoneD_tuple, isNoneD_dict, lenD_lst, lenD_tup, absD_int, intD_int, intD_bool, tupleD_lst, tupleD_tup, listD_lst, listD_tup, itemsOf_lst, itemsOf_tup, zipD_lst, zipD_tup, maxD_int, minD_int, slD_tup, slD_lst, pow_10_18, itemsOf_tupI, isi_tuple, isi_int, isi_bool, isi_str, isi_list, isTup_none, isTup_bool, isTup_int, isTup_str, isTup_list, isTup_tuple, isTup_dict, isWB_none, isWB_bool, isWB_int, isWB_str, isWB_list, isWB_tuple, isWB_dict, isB_none, isB_bool, isB_int, isB_str, isB_list, isB_tuple, isB_dict, isStr_none, isStr_bool, isStr_int, isStr_str, isStr_list, isStr_tuple, isStr_dict, isLst_none, isLst_bool, isLst_int, isLst_str, isLst_list, isLst_tuple, isTupI, sumD_lst, lenD_tupI, sumD_tupI, lenD_drD, eqD_int, neD_int, ixD_tup, ixD_lst, at0, at1, at2, at3, List.length_cons, List.length_nil, List.map_cons, List.map_nil, List.cons_append, List.nil_append, List.replicate, List.getElem?_cons_zero, List.getElem?_cons_succ, List.getElem?_nil, List.set_cons_zero, List.set_cons_succ, Nat.reduceAdd, Nat.reduceSub, Nat.reduceLeDiff, Nat.reduceEqDiff, if_true, if_false, beq_self_eq_true, decide_true, eq_self, reduceCtorEq, Bool.not_true, Bool.not_false, Bool.true_and, Bool.and_true, Bool.false_and, Bool.and_false, Bool.or_true, Bool.true_or, Bool.or_false, Bool.false_or, Bool.false_eq_true, Option.map_some, Option.map_none, Option.bind_some, Option.bind_none, e0]; rfl) ?_
  refine seq_eq (by simp only [refE, roS_da, roS_un, roS_ml, runP, runS, seqS, nextS_ap, asgS, parS, ifS, retS, retN, dropS, raiseS, neverS, contS_ap, breakS_ap, frzS, appS, extS, tgN, tgM, tgs, tgT, tgS, vE, cE, op2, op1, aN, aC, tB', andT, orT, notT, andV, orV, notV, ifE, tupE, lstE, caE, chE, callE, callS, isiE_ap, oN, oS, slE, anyI, rngI, zipI, forS, yesT, cgN, cgT, cgs, whileS, rawL, rawOf, rawL_nil, datL, datL_nil, Rv.dat, GD.toBool, toBool_bool, intOf, intOf_int, ofO, ofO_some, ofO_none, Re.ok_bind, Re.ex_bind, Re.no_bind, Re.pure_eq, addD_int, addD_tup, addD_lst, addD_str, subD_int, negD_int, ltD_int, leD_int, gtD_int, geD_int, isD_none, isD_bool, isNotD_none, isNotD_bool, isNoneD_none, isNoneD_bool, isNoneD_int, isNoneD_str, isNoneD_list, isNoneD_tuple, isNoneD_dict, lenD_lst, lenD_tup, absD_int, intD_int, intD_bool, tupleD_lst, tupleD_tup, listD_lst, listD_tup, itemsOf_lst, itemsOf_tup, zipD_lst, zipD_tup, maxD_int, minD_int, slD_tup, slD_lst, pow_10_18, itemsOf_tupI, isi_tuple, isi_int, isi_bool, isi_str, isi_list, isTup_none, isTup_bool, isTup_int, isTup_str, isTup_list, isTup_tuple, isTup_dict, isWB_none, isWB_bool, isWB_int, isWB_str, isWB_list, isWB_tuple, isWB_dict, isB_none, isB_bool, isB_int, isB_str, isB_list, isB_tuple, isB_dict, isStr_none, isStr_bool, isStr_int, isStr_str, isStr_list, isStr_tuple, isStr_dict, isLst_none, isLst_bool, isLst_int, isLst_str, isLst_list, isLst_tuple, isTupI, sumD_lst, lenD_tupI, sumD_tupI, lenD_drD, eqD_int, neD_int, ixD_tup, ixD_lst, at0, at1, at2, at3, List.length_cons, List.length_nil, List.map_cons, List.map_nil, List.cons_append, List.nil_append, List.replicate, List.getElem?_cons_zero, List.getElem?_cons_succ, List.getElem?_nil, List.set_cons_zero, List.set_cons_succ, Nat.reduceAdd, Nat.reduceSub, Nat.reduceLeDiff, Nat.reduceEqDiff, if_true, if_false, beq_self_eq_true, decide_true, eq_self, reduceCtorEq, Bool.not_true, Bool.not_false, Bool.true_and, Bool.and_true, Bool.false_and, Bool.and_false, Bool.or_true, Bool.true_or, Bool.or_false, Bool.false_or, Bool.false_eq_true, Option.map_some, Option.map_none, Option.bind_some, Option.bind_none, e1, hn]; rfl) ?_
  refine seq_eq (by simp only [refE, roS_da, roS_un, roS_ml, runP, runS, seqS, nextS_ap, asgS, parS, ifS, retS, retN, dropS, raiseS, neverS, contS_ap, breakS_ap, frzS, appS, extS, tgN, tgM, tgs, tgT, tgS, vE, cE, op2, op1, aN, aC, tB', andT, orT, notT, andV, orV, notV, ifE, tupE, lstE, caE, chE, callE, callS, isiE_ap, oN, oS, slE, anyI, rngI, zipI, forS, yesT, cgN, cgT, cgs, whileS, rawL, rawOf, rawL_nil, datL, datL_nil, Rv.dat, GD.toBool, toBool_bool, intOf, intOf_int, ofO, ofO_some, ofO_none, Re.ok_bind, Re.ex_bind, Re.no_bind, Re.pure_eq, addD_int, addD_tup, addD_lst, addD_str, subD_int, negD_int, ltD_int, leD_int, gtD_int, geD_int, isD_none, isD_bool, isNotD_none, isNotD_bool, isNoneD_none, isNoneD_bool, isNoneD_int, isNoneD_str, isNoneD_list, isNoneD_tuple, isNoneD_dict, lenD_lst, lenD_tup, absD_int, intD_int, intD_bool, tupleD_lst, tupleD_tup, listD_lst, listD_tup, itemsOf_lst, itemsOf_tup, zipD_lst, zipD_tup, maxD_int, minD_int, slD_tup, slD_lst, pow_10_18, itemsOf_tupI, isi_tuple, isi_int, isi_bool, isi_str, isi_list, isTup_none, isTup_bool, isTup_int, isTup_str, isTup_list, isTup_tuple, isTup_dict, isWB_none, isWB_bool, isWB_int, isWB_str, isWB_list, isWB_tuple, isWB_dict, isB_none, isB_bool, isB_int, isB_str, isB_list, isB_tuple, isB_dict, isStr_none, isStr_bool, isStr_int, isStr_str, isStr_list, isStr_tuple, isStr_dict, isLst_none, isLst_bool, isLst_int, isLst_str, isLst_list, isLst_tuple, isTupI, sumD_lst, lenD_tupI, sumD_tupI, lenD_drD, eqD_int, neD_int, ixD_tup, ixD_lst, at0, at1, at2, at3, List.length_cons, List.length_nil, List.map_cons, List.map_nil, List.cons_append, List.nil_append, List.replicate, List.getElem?_cons_zero, List.getElem?_cons_succ, List.getElem?_nil, List.set_cons_zero, List.set_cons_succ, Nat.reduceAdd, Nat.reduceSub, Nat.reduceLeDiff, Nat.reduceEqDiff, if_true, if_false, beq_self_eq_true, decide_true, eq_self, reduceCtorEq, Bool.not_true, Bool.not_false, Bool.true_and, Bool.and_true, Bool.false_and, Bool.and_false, Bool.or_true, Bool.true_or, Bool.or_false, Bool.false_or, Bool.false_eq_true, Option.map_some, Option.map_none, Option.bind_some, Option.bind_none, e2, e3, e4]; rfl) ?_
  refine seq_eq (by simp only [refE, roS_da, roS_un, roS_ml, runP, runS, seqS, nextS_ap, asgS, parS, ifS, retS, retN, dropS, raiseS, neverS, contS_ap, breakS_ap, frzS, appS, extS, tgN, tgM, tgs, tgT, tgS, vE, cE, op2, op1, aN, aC, tB', andT, orT, notT, andV, orV, notV, ifE, tupE, lstE, caE, chE, callE, callS, isiE_ap, oN, oS, slE, anyI, rngI, zipI, forS, yesT, cgN, cgT, cgs, whileS, rawL, rawOf, rawL_nil, datL, datL_nil, Rv.dat, GD.toBool, toBool_bool, intOf, intOf_int, ofO, ofO_some, ofO_none, Re.ok_bind, Re.ex_bind, Re.no_bind, Re.pure_eq, addD_int, addD_tup, addD_lst, addD_str, subD_int, negD_int, ltD_int, leD_int, gtD_int, geD_int, isD_none, isD_bool, isNotD_none, isNotD_bool, isNoneD_none, isNoneD_bool, isNoneD_int, isNoneD_str, isNoneD_list, isNoneD_tuple, isNoneD_dict, lenD_lst, lenD_tup, absD_int, intD_int, intD_bool, tupleD_lst, tupleD_tup, listD_lst, listD_tup, itemsOf_lst, itemsOf_tup, zipD_lst, zipD_tup, maxD_int, minD_int, slD_tup, slD_lst, pow_10_18, itemsOf_tupI, isi_tuple, isi_int, isi_bool, isi_str, isi_list, isTup_none, isTup_bool, isTup_int, isTup_str, isTup_list, isTup_tuple, isTup_dict, isWB_none, isWB_bool, isWB_int, isWB_str, isWB_list, isWB_tuple, isWB_dict, isB_none, isB_bool, isB_int, isB_str, isB_list, isB_tuple, isB_dict, isStr_none, isStr_bool, isStr_int, isStr_str, isStr_list, isStr_tuple, isStr_dict, isLst_none, isLst_bool, isLst_int, isLst_str, isLst_list, isLst_tuple, isTupI, sumD_lst, lenD_tupI, sumD_tupI, lenD_drD, eqD_int, neD_int, ixD_tup, ixD_lst, at0, at1, at2, at3, List.length_cons, List.length_nil, List.map_cons, List.map_nil, List.cons_append, List.nil_append, List.replicate, List.getElem?_cons_zero, List.getElem?_cons_succ, List.getElem?_nil, List.set_cons_zero, List.set_cons_succ, Nat.reduceAdd, Nat.reduceSub, Nat.reduceLeDiff, Nat.reduceEqDiff, if_true, if_false, beq_self_eq_true, decide_true, eq_self, reduceCtorEq, Bool.not_true, Bool.not_false, Bool.true_and, Bool.and_true, Bool.false_and, Bool.and_false, Bool.or_true, Bool.true_or, Bool.or_false, Bool.false_or, Bool.false_eq_true, Option.map_some, Option.map_none, Option.bind_some, Option.bind_none, L0, eal]; rfl) ?_
  refine seq_eq (by simp only [refE, roS_da, roS_un, roS_ml, runP, runS, seqS, nextS_ap, asgS, parS, ifS, retS, retN, dropS, raiseS, neverS, contS_ap, breakS_ap, frzS, appS, extS, tgN, tgM, tgs, tgT, tgS, vE, cE, op2, op1, aN, aC, tB', andT, orT, notT, andV, orV, notV, ifE, tupE, lstE, caE, chE, callE, callS, isiE_ap, oN, oS, slE, anyI, rngI, zipI, forS, yesT, cgN, cgT, cgs, whileS, rawL, rawOf, rawL_nil, datL, datL_nil, Rv.dat, GD.toBool, toBool_bool, intOf, intOf_int, ofO, ofO_some, ofO_none, Re.ok_bind, Re.ex_bind, Re.no_bind, Re.pure_eq, addD_int, addD_tup, addD_lst, addD_str, subD_int, negD_int, ltD_int, leD_int, gtD_int, geD_int, isD_none, isD_bool, isNotD_none, isNotD_bool, isNoneD_none, isNoneD_bool, isNoneD_int, isNoneD_str, isNoneD_list, isNoneD_tuple, isNoneD_dict, lenD_lst, lenD_tup, absD_int, intD_int, intD_bool, tupleD_lst, tupleD_tup, listD_lst, listD_tup, itemsOf_lst, itemsOf_tup, zipD_lst, zipD_tup, maxD_int, minD_int, slD_tup, slD_lst, pow_10_18, itemsOf_tupI, isi_tuple, isi_int, isi_bool, isi_str, isi_list, isTup_none, isTup_bool, isTup_int, isTup_str, isTup_list, isTup_tuple, isTup_dict, isWB_none, isWB_bool, isWB_int, isWB_str, isWB_list, isWB_tuple, isWB_dict, isB_none, isB_bool, isB_int, isB_str, isB_list, isB_tuple, isB_dict, isStr_none, isStr_bool, isStr_int, isStr_str, isStr_list, isStr_tuple, isStr_dict, isLst_none, isLst_bool, isLst_int, isLst_str, isLst_list, isLst_tuple, isTupI, sumD_lst, lenD_tupI, sumD_tupI, lenD_drD, eqD_int, neD_int, ixD_tup, ixD_lst, at0, at1, at2, at3, List.length_cons, List.length_nil, List.map_cons, List.map_nil, List.cons_append, List.nil_append, List.replicate, List.getElem?_cons_zero, List.getElem?_cons_succ, List.getElem?_nil, List.set_cons_zero, List.set_cons_succ, Nat.reduceAdd, Nat.reduceSub, Nat.reduceLeDiff, Nat.reduceEqDiff, if_true, if_false, beq_self_eq_true, decide_true, eq_self, reduceCtorEq, Bool.not_true, Bool.not_false, Bool.true_and, Bool.and_true, Bool.false_and, Bool.and_false, Bool.or_true, Bool.true_or, Bool.or_false, Bool.false_or, Bool.false_eq_true, Option.map_some, Option.map_none, Option.bind_some, Option.bind_none, zeroC (show n ≤ 1000 by omega), backD_cn, L]; rfl) ?_
  refine seq_eq (by simp only [refE, roS_da, roS_un, roS_ml, runP, runS, seqS, nextS_ap, asgS, parS, ifS, retS, retN, dropS, raiseS, neverS, contS_ap, breakS_ap, frzS, appS, extS, tgN, tgM, tgs, tgT, tgS, vE, cE, op2, op1, aN, aC, tB', andT, orT, notT, andV, orV, notV, ifE, tupE, lstE, caE, chE, callE, callS, isiE_ap, oN, oS, slE, anyI, rngI, zipI, forS, yesT, cgN, cgT, cgs, whileS, rawL, rawOf, rawL_nil, datL, datL_nil, Rv.dat, GD.toBool, toBool_bool, intOf, intOf_int, ofO, ofO_some, ofO_none, Re.ok_bind, Re.ex_bind, Re.no_bind, Re.pure_eq, addD_int, addD_tup, addD_lst, addD_str, subD_int, negD_int, ltD_int, leD_int, gtD_int, geD_int, isD_none, isD_bool, isNotD_none, isNotD_bool, isNoneD_none, isNoneD_bool, isNoneD_int, isNoneD_str, isNoneD_list, isNoneD_tuple, isNoneD_dict, lenD_lst, lenD_tup, absD_int, intD_int, intD_bool, tupleD_lst, tupleD_tup, listD_lst, listD_tup, itemsOf_lst, itemsOf_tup, zipD_lst, zipD_tup, maxD_int, minD_int, slD_tup, slD_lst, pow_10_18, itemsOf_tupI, isi_tuple, isi_int, isi_bool, isi_str, isi_list, isTup_none, isTup_bool, isTup_int, isTup_str, isTup_list, isTup_tuple, isTup_dict, isWB_none, isWB_bool, isWB_int, isWB_str, isWB_list, isWB_tuple, isWB_dict, isB_none, isB_bool, isB_int, isB_str, isB_list, isB_tuple, isB_dict, isStr_none, isStr_bool, isStr_int, isStr_str, isStr_list, isStr_tuple, isStr_dict, isLst_none, isLst_bool, isLst_int, isLst_str, isLst_list, isLst_tuple, isTupI, sumD_lst, lenD_tupI, sumD_tupI, lenD_drD, eqD_int, neD_int, ixD_tup, ixD_lst, at0, at1, at2, at3, List.length_cons, List.length_nil, List.map_cons, List.map_nil, List.cons_append, List.nil_append, List.replicate, List.getElem?_cons_zero, List.getElem?_cons_succ, List.getElem?_nil, List.set_cons_zero, List.set_cons_succ, Nat.reduceAdd, Nat.reduceSub, Nat.reduceLeDiff, Nat.reduceEqDiff, if_true, if_false, beq_self_eq_true, decide_true, eq_self, reduceCtorEq, Bool.not_true, Bool.not_false, Bool.true_and, Bool.and_true, Bool.false_and, Bool.and_false, Bool.or_true, Bool.true_or, Bool.or_false, Bool.false_or, Bool.false_eq_true, Option.map_some, Option.map_none, Option.bind_some, Option.bind_none, pow_10_29, e5, ex]; rfl) ?_
  refine seq_eq (by simp only [refE, roS_da, roS_un, roS_ml, runP, runS, seqS, nextS_ap, asgS, parS, ifS, retS, retN, dropS, raiseS, neverS, contS_ap, breakS_ap, frzS, appS, extS, tgN, tgM, tgs, tgT, tgS, vE, cE, op2, op1, aN, aC, tB', andT, orT, notT, andV, orV, notV, ifE, tupE, lstE, caE, chE, callE, callS, isiE_ap, oN, oS, slE, anyI, rngI, zipI, forS, yesT, cgN, cgT, cgs, whileS, rawL, rawOf, rawL_nil, datL, datL_nil, Rv.dat, GD.toBool, toBool_bool, intOf, intOf_int, ofO, ofO_some, ofO_none, Re.ok_bind, Re.ex_bind, Re.no_bind, Re.pure_eq, addD_int, addD_tup, addD_lst, addD_str, subD_int, negD_int, ltD_int, leD_int, gtD_int, geD_int, isD_none, isD_bool, isNotD_none, isNotD_bool, isNoneD_none, isNoneD_bool, isNoneD_int, isNoneD_str, isNoneD_list, isNoneD_tuple, isNoneD_dict, lenD_lst, lenD_tup, absD_int, intD_int, intD_bool, tupleD_lst, tupleD_tup, listD_lst, listD_tup, itemsOf_lst, itemsOf_tup, zipD_lst, zipD_tup, maxD_int, minD_int, slD_tup, slD_lst, pow_10_18, itemsOf_tupI, isi_tuple, isi_int, isi_bool, isi_str, isi_list, isTup_none, isTup_bool, isTup_int, isTup_str, isTup_list, isTup_tuple, isTup_dict, isWB_none, isWB_bool, isWB_int, isWB_str, isWB_list, isWB_tuple, isWB_dict, isB_none, isB_bool, isB_int, isB_str, isB_list, isB_tuple, isB_dict, isStr_none, isStr_bool, isStr_int, isStr_str, isStr_list, isStr_tuple, isStr_dict, isLst_none, isLst_bool, isLst_int, isLst_str, isLst_list, isLst_tuple, isTupI, sumD_lst, lenD_tupI, sumD_tupI, lenD_drD, eqD_int, neD_int, ixD_tup, ixD_lst, at0, at1, at2, at3, List.length_cons, List.length_nil, List.map_cons, List.map_nil, List.cons_append, List.nil_append, List.replicate, List.getElem?_cons_zero, List.getElem?_cons_succ, List.getElem?_nil, List.set_cons_zero, List.set_cons_succ, Nat.reduceAdd, Nat.reduceSub, Nat.reduceLeDiff, Nat.reduceEqDiff, if_true, if_false, beq_self_eq_true, decide_true, eq_self, reduceCtorEq, Bool.not_true, Bool.not_false, Bool.true_and, Bool.and_true, Bool.false_and, Bool.and_false, Bool.or_true, Bool.true_or, Bool.or_false, Bool.false_or, Bool.false_eq_true, Option.map_some, Option.map_none, Option.bind_some, Option.bind_none, e6, e7]; rfl) ?_
  refine seq_eq (by simp only [refE, roS_da, roS_un, roS_ml, runP, runS, seqS, nextS_ap, asgS, parS, ifS, retS, retN, dropS, raiseS, neverS, contS_ap, breakS_ap, frzS, appS, extS, tgN, tgM, tgs, tgT, tgS, vE, cE, op2, op1, aN, aC, tB', andT, orT, notT, andV, orV, notV, ifE, tupE, lstE, caE, chE, callE, callS, isiE_ap, oN, oS, slE, anyI, rngI, zipI, forS, yesT, cgN, cgT, cgs, whileS, rawL, rawOf, rawL_nil, datL, datL_nil, Rv.dat, GD.toBool, toBool_bool, intOf, intOf_int, ofO, ofO_some, ofO_none, Re.ok_bind, Re.ex_bind, Re.no_bind, Re.pure_eq, addD_int, addD_tup, addD_lst, addD_str, subD_int, negD_int, ltD_int, leD_int, gtD_int, geD_int, isD_none, isD_bool, isNotD_none, isNotD_bool, isNoneD_none, isNoneD_bool, isNoneD_int, isNoneD_str, isNoneD_list, isNoneD_tuple, isNoneD_dict, lenD_lst, lenD_tup, absD_int, intD_int, intD_bool, tupleD_lst, tupleD_tup, listD_lst, listD_tup, itemsOf_lst, itemsOf_tup, zipD_lst, zipD_tup, maxD_int, minD_int, slD_tup, slD_lst, pow_10_18, itemsOf_tupI, isi_tuple, isi_int, isi_bool, isi_str, isi_list, isTup_none, isTup_bool, isTup_int, isTup_str, isTup_list, isTup_tuple, isTup_dict, isWB_none, isWB_bool, isWB_int, isWB_str, isWB_list, isWB_tuple, isWB_dict, isB_none, isB_bool, isB_int, isB_str, isB_list, isB_tuple, isB_dict, isStr_none, isStr_bool, isStr_int, isStr_str, isStr_list, isStr_tuple, isStr_dict, isLst_none, isLst_bool, isLst_int, isLst_str, isLst_list, isLst_tuple, isTupI, sumD_lst, lenD_tupI, sumD_tupI, lenD_drD, eqD_int, neD_int, ixD_tup, ixD_lst, at0, at1, at2, at3, List.length_cons, List.length_nil, List.map_cons, List.map_nil, List.cons_append, List.nil_append, List.replicate, List.getElem?_cons_zero, List.getElem?_cons_succ, List.getElem?_nil, List.set_cons_zero, List.set_cons_succ, Nat.reduceAdd, Nat.reduceSub, Nat.reduceLeDiff, Nat.reduceEqDiff, if_true, if_false, beq_self_eq_true, decide_true, eq_self, reduceCtorEq, Bool.not_true, Bool.not_false, Bool.true_and, Bool.and_true, Bool.false_and, Bool.and_false, Bool.or_true, Bool.true_or, Bool.or_false, Bool.false_or, Bool.false_eq_true, Option.map_some, Option.map_none, Option.bind_some, Option.bind_none, b1, a0]; rfl) ?_
  refine seq_eq (by simp only [refE, roS_da, roS_un, roS_ml, runP, runS, seqS, nextS_ap, asgS, parS, ifS, retS, retN, dropS, raiseS, neverS, contS_ap, breakS_ap, frzS, appS, extS, tgN, tgM, tgs, tgT, tgS, vE, cE, op2, op1, aN, aC, tB', andT, orT, notT, andV, orV, notV, ifE, tupE, lstE, caE, chE, callE, callS, isiE_ap, oN, oS, slE, anyI, rngI, zipI, forS, yesT, cgN, cgT, cgs, whileS, rawL, rawOf, rawL_nil, datL, datL_nil, Rv.dat, GD.toBool, toBool_bool, intOf, intOf_int, ofO, ofO_some, ofO_none, Re.ok_bind, Re.ex_bind, Re.no_bind, Re.pure_eq, addD_int, addD_tup, addD_lst, addD_str, subD_int, negD_int, ltD_int, leD_int, gtD_int, geD_int, isD_none, isD_bool, isNotD_none, isNotD_bool, isNoneD_none, isNoneD_bool, isNoneD_int, isNoneD_str, isNoneD_list, isNoneD_tuple, isNoneD_dict, lenD_lst, lenD_tup, absD_int, intD_int, intD_bool, tupleD_lst, tupleD_tup, listD_lst, listD_tup, itemsOf_lst, itemsOf_tup, zipD_lst, zipD_tup, maxD_int, minD_int, slD_tup, slD_lst, pow_10_18, itemsOf_tupI, isi_tuple, isi_int, isi_bool, isi_str, isi_list, isTup_none, isTup_bool, isTup_int, isTup_str, isTup_list, isTup_tuple, isTup_dict, isWB_none, isWB_bool, isWB_int, isWB_str, isWB_list, isWB_tuple, isWB_dict, isB_none, isB_bool, isB_int, isB_str, isB_list, isB_tuple, isB_dict, isStr_none, isStr_bool, isStr_int, isStr_str, isStr_list, isStr_tuple, isStr_dict, isLst_none, isLst_bool, isLst_int, isLst_str, isLst_list, isLst_tuple, isTupI, sumD_lst, lenD_tupI, sumD_tupI, lenD_drD, eqD_int, neD_int, ixD_tup, ixD_lst, at0, at1, at2, at3, List.length_cons, List.length_nil, List.map_cons, List.map_nil, List.cons_append, List.nil_append, List.replicate, List.getElem?_cons_zero, List.getElem?_cons_succ, List.getElem?_nil, List.set_cons_zero, List.set_cons_succ, Nat.reduceAdd, Nat.reduceSub, Nat.reduceLeDiff, Nat.reduceEqDiff, if_true, if_false, beq_self_eq_true, decide_true, eq_self, reduceCtorEq, Bool.not_true, Bool.not_false, Bool.true_and, Bool.and_true, Bool.false_and, Bool.and_false, Bool.or_true, Bool.true_or, Bool.or_false, Bool.false_or, Bool.false_eq_true, Option.map_some, Option.map_none, Option.bind_some, Option.bind_none, b2, a5]; rfl) ?_
  simp only [refE, roS_da, roS_un, roS_ml, runP, runS, seqS, nextS_ap, asgS, parS, ifS, retS, retN, dropS, raiseS, neverS, contS_ap, breakS_ap, frzS, appS, extS, tgN, tgM, tgs, tgT, tgS, vE, cE, op2, op1, aN, aC, tB', andT, orT, notT, andV, orV, notV, ifE, tupE, lstE, caE, chE, callE, callS, isiE_ap, oN, oS, slE, anyI, rngI, zipI, forS, yesT, cgN, cgT, cgs, whileS, rawL, rawOf, rawL_nil, datL, datL_nil, Rv.dat, GD.toBool, toBool_bool, intOf, intOf_int, ofO, ofO_some, ofO_none, Re.ok_bind, Re.ex_bind, Re.no_bind, Re.pure_eq, addD_int, addD_tup, addD_lst, addD_str, subD_int, negD_int, ltD_int, leD_int, gtD_int, geD_int, isD_none, isD_bool, isNotD_none, isNotD_bool, isNoneD_none, isNoneD_bool, isNoneD_int, isNoneD_str, isNoneD_list, isNoneD_tuple, isNoneD_dict, lenD_lst, lenD_tup, absD_int, intD_int, intD_bool, tupleD_lst, tupleD_tup, listD_lst, listD_tup, itemsOf_lst, itemsOf_tup, zipD_lst, zipD_tup, maxD_int, minD_int, slD_tup, slD_lst, pow_10_18, itemsOf_tupI, isi_tuple, isi_int, isi_bool, isi_str, isi_list, isTup_none, isTup_bool, isTup_int, isTup_str, isTup_list, isTup_tuple, isTup_dict, isWB_none, isWB_bool, isWB_int, isWB_str, isWB_list, isWB_tuple, isWB_dict, isB_none, isB_bool, isB_int, isB_str, isB_list, isB_tuple, isB_dict, isStr_none, isStr_bool, isStr_int, isStr_str, isStr_list, isStr_tuple, isStr_dict, isLst_none, isLst_bool, isLst_int, isLst_str, isLst_list, isLst_tuple, isTupI, sumD_lst, lenD_tupI, sumD_tupI, lenD_drD, eqD_int, neD_int, ixD_tup, ixD_lst, at0, at1, at2, at3, List.length_cons, List.length_nil, List.map_cons, List.map_nil, List.cons_append, List.nil_append, List.replicate, List.getElem?_cons_zero, List.getElem?_cons_succ, List.getElem?_nil, List.set_cons_zero, List.set_cons_succ, Nat.reduceAdd, Nat.reduceSub, Nat.reduceLeDiff, Nat.reduceEqDiff, if_true, if_false, beq_self_eq_true, decide_true, eq_self, reduceCtorEq, Bool.not_true, Bool.not_false, Bool.true_and, Bool.and_true, Bool.false_and, Bool.and_false, Bool.or_true, Bool.true_or, Bool.or_false, Bool.false_or, Bool.false_eq_true, Option.map_some, Option.map_none, Option.bind_some, Option.bind_none, b3, a7]
theorem eqv_fr2 (p q p' q' : Rat) : eqD (.tuple [frD p, frD q]) (.tuple [frD p', frD q']) = some (.da (.bool (decide (p = p') && decide (q = q')))) := by
  have h : ∀ p q : Rat, SeqAt.shaped (.tuple [frD p, frD q]) = true := fun p q => rfl
  unfold eqD
  rw [h, h]
  have := eqv_frD p p'
  have := eqv_frD q q'
  simp [PyData.eqv, PyData.eqvAll, *]
theorem law_true (ns : List Int) (hns : ns.length ≤ 63) : m_law [scrD ns] = .ok (.da (.bool true)) := by
  obtain ⟨m, hm, em⟩ := turns_of ns.length 8 (by omega) (by decide)
  have el : lenD [scrD ns] = some (.da (.int ns.length)) := by
    show some (Rv.da (.int ((ns.map PyData.int).length : Nat))) = _
    rw [List.length_map]
  obtain ⟨g', h1, y1, y2, y3, y4, y5, y6, y7, y8, y9, y10, y11, y12, rfl⟩ := for_inv (T := tgN 1) (b := (seqS (asgS (callE m__law_state (aC (vE 0) (aC (vE 1) aN))) (tgM 2)) (seqS (asgS (op2 addD (cE (.int 1)) (callS m__law_take (aC (vE 2) (aC (cE (.int 4)) aN)))) (tgN 3)) (seqS (asgS (tupE (aC (callS m__law_urn (aC (vE 2) (aC (vE 3) aN))) (aC (callS m__law_take (aC (vE 2) (aC (cE (.int 6)) aN))) (aC (callS m__law_counts (aC (vE 2) (aC (vE 3) aN))) aN)))) (tgT [(tgN 11), (tgN 8), (tgN 4)])) (seqS (asgS (caE tupleD (aC (lcE (rngI (aC (vE 3) aN)) (cgN 12) yesT (op2 mulD (op2 ixD (vE 4) (vE 12)) (caE intD (aC (op2 gtD (op2 ixD (vE 11) (vE 12)) (cE (.int 0))) aN))) [12]) aN)) (tgN 5)) (seqS (forS (anyI (lstE (aC (vE 4) (aC (op2 mulD (tupE (aC (cE (.int 0)) aN)) (vE 3)) (aC (vE 5) (aC (op1 backD (vE 4)) aN)))))) (tgN 6) (ifS (notT (tB' (callE (m__law_same 6) (aC (callE m_next_shares (aC (vE 11) (aC (vE 8) (aC (vE 6) aN)))) (aC (callE m__law_due (aC (vE 11) (aC (vE 8) (aC (vE 6) aN)))) aN))))) (retS (cE (.bool false))) nextS)) (seqS (asgS (op2 ixD (lstE (aC (op1 negD (cE (.int 1))) (aC (cE (.int 6)) (aC (cE (.bool true)) (aC (cE (.bool false)) (aC (cE .none) (aC (cE (.str "1")) (aC (tupE (aC (cE (.int 1)) aN)) (aC (op2 powD (cE (.int 10)) (cE (.int 29))) (aC (lstE (aC (cE (.int 0)) aN)) aN)))))))))) (callS m__law_take (aC (vE 2) (aC (cE (.int 9)) aN)))) (tgN 10)) (seqS (asgS (tupE (aC (callS m__law_no_urn (aC (vE 2) aN)) (aC (callS m__law_bent_counts (aC (vE 2) (aC (vE 4) aN))) aN))) (tgT [(tgN 9), (tgN 7)])) (seqS (ifS (tB' (op2 neD (refE ans_ref (callE m_next_shares (aC (vE 9) (aC (vE 10) (aC (vE 7) aN))))) (cE (.int 0)))) (retS (cE (.bool false))) nextS) (seqS (ifS (tB' (op2 neD (refE ans_ref (callE m_next_shares (aC (vE 11) (aC (vE 10) (aC (vE 7) aN))))) (cE (.int 5)))) (retS (cE (.bool false))) nextS) (ifS (tB' (op2 neD (refE ans_ref (callE m_next_shares (aC (vE 11) (aC (vE 8) (aC (vE 7) aN))))) (cE (.int 7)))) (retS (cE (.bool false))) nextS))))))))))) (fun _ g => ∃ y1 y2 y3 y4 y5 y6 y7 y8 y9 y10 y11 y12, g = [.da (scrD ns), y1, y2, y3, y4, y5, y6, y7, y8, y9, y10, y11, y12])
    ((List.range m).map fun i : Nat => .int i) 0 [.da (scrD ns), .un, .un, .un, .un, .un, .un, .un, .un, .un, .un, .un, .un] ⟨_, _, _, _, _, _, _, _, _, _, _, _, rfl⟩ (by
      rintro j d g hd ⟨y1, y2, y3, y4, y5, y6, y7, y8, y9, y10, y11, y12, rfl⟩
      obtain ⟨k, _, rfl⟩ := List.mem_map.mp (List.mem_of_getElem? hd)
      obtain ⟨g2, h2, h3⟩ := body_ev ns k y2 y3 y4 y5 y6 y7 y8 y9 y10 y11 y12
      exact ⟨_, rfl, g2, h2, h3⟩)
  have c1 := next_ev (u := [1, 1]) (m := 1) (cs := [2, 1]) ⟨by decide, by decide, by decide, by decide⟩ (by decide) (by decide) ⟨rfl, by decide⟩
  have c2 := next_ev (u := [0, 1]) (m := 1) (cs := [1, 0]) ⟨by decide, by decide, by decide, by decide⟩ (by decide) (by decide) ⟨rfl, by decide⟩
  have q1 : nxD [1, 1] 1 [2, 1] = .tuple [frD (nxQ [1, 1] 1 [2, 1] (1, 2)), frD (nxQ [1, 1] 1 [2, 1] (1, 1))] := rfl
  have q2 : nxD [0, 1] 1 [1, 0] = .none := rfl
  have w1 : nxQ [1, 1] 1 [2, 1] (1, 2) = 3 / 5 := by decide +kernel
  have w2 : nxQ [1, 1] 1 [2, 1] (1, 1) = 2 / 5 := by decide +kernel
  rw [q1, w1, w2] at c1
  rw [q2] at c2
  have c1' : m_next_shares [.tuple [.int 1, .int 1], .int 1, .tuple [.int 2, .int 1]] = .ok (.da (.tuple [frD (3 / 5), frD (2 / 5)])) := c1
  have c2' : m_next_shares [.tuple [.int 0, .int 1], .int 1, .tuple [.int 1, .int 0]] = .ok (.da .none) := c2
  have f1 : eqD (.tuple [frD (3 / 5), frD (2 / 5)]) (.tuple [.tuple [.int 3, .int 5], .tuple [.int 2, .int 5]]) = some (.da (.bool true)) := by
    rw [frD_mk (q := 3 / 5) (a := 3) (b := 5) (by decide +kernel) (by decide +kernel), frD_mk (q := 2 / 5) (a := 2) (b := 5) (by decide +kernel) (by decide +kernel), eqv_fr2]
    simp
  unfold m_law
  refine run_rt (g := [.da (scrD ns), y1, y2, y3, y4, y5, y6, y7, y8, y9, y10, y11, y12]) rfl ?_
  unfold d_law
  refine seq_eq (for_eq (g1 := [.da (scrD ns), .un, .un, .un, .un, .un, .un, .un, .un, .un, .un, .un, .un]) (ds := (List.range m).map fun i : Nat => .int i) ?_ h1) ?_
  · simp only [refE, roS_da, roS_un, roS_ml, runP, runS, seqS, nextS_ap, asgS, parS, ifS, retS, retN, dropS, raiseS, neverS, contS_ap, breakS_ap, frzS, appS, extS, tgN, tgM, tgs, tgT, tgS, vE, cE, op2, op1, aN, aC, tB', andT, orT, notT, andV, orV, notV, ifE, tupE, lstE, caE, chE, callE, callS, isiE_ap, oN, oS, slE, anyI, rngI, zipI, forS, yesT, cgN, cgT, cgs, whileS, rawL, rawOf, rawL_nil, datL, datL_nil, Rv.dat, GD.toBool, toBool_bool, intOf, intOf_int, ofO, ofO_some, ofO_none, Re.ok_bind, Re.ex_bind, Re.no_bind, Re.pure_eq, addD_int, addD_tup, addD_lst, addD_str, subD_int, negD_int, ltD_int, leD_int, gtD_int, geD_int, isD_none, isD_bool, isNotD_none, isNotD_bool, isNoneD_none, isNoneD_bool, isNoneD_int, isNoneD_str, isNoneD_list, isNoneD_tuple, isNoneD_dict, lenD_lst, lenD_tup, absD_int, intD_int, intD_bool, tupleD_lst, tupleD_tup, listD_lst, listD_tup, itemsOf_lst, itemsOf_tup, zipD_lst, zipD_tup, maxD_int, minD_int, slD_tup, slD_lst, pow_10_18, itemsOf_tupI, isi_tuple, isi_int, isi_bool, isi_str, isi_list, isTup_none, isTup_bool, isTup_int, isTup_str, isTup_list, isTup_tuple, isTup_dict, isWB_none, isWB_bool, isWB_int, isWB_str, isWB_list, isWB_tuple, isWB_dict, isB_none, isB_bool, isB_int, isB_str, isB_list, isB_tuple, isB_dict, isStr_none, isStr_bool, isStr_int, isStr_str, isStr_list, isStr_tuple, isStr_dict, isLst_none, isLst_bool, isLst_int, isLst_str, isLst_list, isLst_tuple, isTupI, sumD_lst, lenD_tupI, sumD_tupI, lenD_drD, eqD_int, neD_int, ixD_tup, ixD_lst, at0, at1, at2, at3, List.length_cons, List.length_nil, List.map_cons, List.map_nil, List.cons_append, List.nil_append, List.replicate, List.getElem?_cons_zero, List.getElem?_cons_succ, List.getElem?_nil, List.set_cons_zero, List.set_cons_succ, Nat.reduceAdd, Nat.reduceSub, Nat.reduceLeDiff, Nat.reduceEqDiff, if_true, if_false, beq_self_eq_true, decide_true, eq_self, reduceCtorEq, Bool.not_true, Bool.not_false, Bool.true_and, Bool.and_true, Bool.false_and, Bool.and_false, Bool.or_true, Bool.true_or, Bool.or_false, Bool.false_or, Bool.false_eq_true, Option.map_some, Option.map_none, Option.bind_some, Option.bind_none, el, minD_int, maxD_int, em, rng_nat (show m ≤ 1000000 by omega)]
  · simp only [refE, roS_da, roS_un, roS_ml, runP, runS, seqS, nextS_ap, asgS, parS, ifS, retS, retN, dropS, raiseS, neverS, contS_ap, breakS_ap, frzS, appS, extS, tgN, tgM, tgs, tgT, tgS, vE, cE, op2, op1, aN, aC, tB', andT, orT, notT, andV, orV, notV, ifE, tupE, lstE, caE, chE, callE, callS, isiE_ap, oN, oS, slE, anyI, rngI, zipI, forS, yesT, cgN, cgT, cgs, whileS, rawL, rawOf, rawL_nil, datL, datL_nil, Rv.dat, GD.toBool, toBool_bool, intOf, intOf_int, ofO, ofO_some, ofO_none, Re.ok_bind, Re.ex_bind, Re.no_bind, Re.pure_eq, addD_int, addD_tup, addD_lst, addD_str, subD_int, negD_int, ltD_int, leD_int, gtD_int, geD_int, isD_none, isD_bool, isNotD_none, isNotD_bool, isNoneD_none, isNoneD_bool, isNoneD_int, isNoneD_str, isNoneD_list, isNoneD_tuple, isNoneD_dict, lenD_lst, lenD_tup, absD_int, intD_int, intD_bool, tupleD_lst, tupleD_tup, listD_lst, listD_tup, itemsOf_lst, itemsOf_tup, zipD_lst, zipD_tup, maxD_int, minD_int, slD_tup, slD_lst, pow_10_18, itemsOf_tupI, isi_tuple, isi_int, isi_bool, isi_str, isi_list, isTup_none, isTup_bool, isTup_int, isTup_str, isTup_list, isTup_tuple, isTup_dict, isWB_none, isWB_bool, isWB_int, isWB_str, isWB_list, isWB_tuple, isWB_dict, isB_none, isB_bool, isB_int, isB_str, isB_list, isB_tuple, isB_dict, isStr_none, isStr_bool, isStr_int, isStr_str, isStr_list, isStr_tuple, isStr_dict, isLst_none, isLst_bool, isLst_int, isLst_str, isLst_list, isLst_tuple, isTupI, sumD_lst, lenD_tupI, sumD_tupI, lenD_drD, eqD_int, neD_int, ixD_tup, ixD_lst, at0, at1, at2, at3, List.length_cons, List.length_nil, List.map_cons, List.map_nil, List.cons_append, List.nil_append, List.replicate, List.getElem?_cons_zero, List.getElem?_cons_succ, List.getElem?_nil, List.set_cons_zero, List.set_cons_succ, Nat.reduceAdd, Nat.reduceSub, Nat.reduceLeDiff, Nat.reduceEqDiff, if_true, if_false, beq_self_eq_true, decide_true, eq_self, reduceCtorEq, Bool.not_true, Bool.not_false, Bool.true_and, Bool.and_true, Bool.false_and, Bool.and_false, Bool.or_true, Bool.true_or, Bool.or_false, Bool.false_or, Bool.false_eq_true, Option.map_some, Option.map_none, Option.bind_some, Option.bind_none, c1', c2', f1]

end LawHere

namespace LawHere
open PySem PySem.Spec PyProof.Rows L2 GD
def qLam : Str := ("law" ++ ".<locals>.") ++ "<lambda>"
def topS (i : Nat) : Stmt := PySem.Challenge.pw_growurns_k52_the_next_draw.main.body.getD i (.Pass ⟨0, 0, 0, 0⟩)
abbrev s_is_whole : Stmt := topS 16
abbrev s_is_between : Stmt := topS 17
abbrev s_divisor : Stmt := topS 18
abbrev s_fraction : Stmt := topS 19
abbrev s_is_urn : Stmt := topS 20
abbrev s_need_number : Stmt := topS 21
abbrev s_need_urn : Stmt := topS 22
abbrev s_need_counts : Stmt := topS 25
abbrev s_rising_product : Stmt := topS 26
abbrev s_orders_of : Stmt := topS 27
abbrev s_chance_by : Stmt := topS 28
abbrev s_counts_chance : Stmt := topS 29
abbrev s_next_shares : Stmt := topS 30
abbrev s__law_cell_at : Stmt := topS 32
abbrev s__law_state : Stmt := topS 33
abbrev s__law_take : Stmt := topS 34
abbrev s__law_refused : Stmt := topS 35
abbrev s__law_urn : Stmt := topS 36
abbrev s__law_cut : Stmt := topS 38
abbrev s__law_whole : Stmt := topS 39
abbrev s__law_is_urn : Stmt := topS 40
abbrev s__law_bent_urn : Stmt := topS 42
abbrev s__law_no_urn : Stmt := topS 44
abbrev s__law_counts : Stmt := topS 46
abbrev s__law_bent_counts : Stmt := topS 47
abbrev s__law_same : Stmt := topS 48
abbrev s__law_due : Stmt := topS 49
abbrev s_law : Stmt := topS 50
theorem bt_ValueError : bootBuiltins "ValueError" = some (.type "ValueError") := by decide +kernel
theorem bt_abs : bootBuiltins "abs" = some (.builtin "abs") := by decide +kernel
theorem bt_all : bootBuiltins "all" = some (.builtin "all") := by decide +kernel
theorem bt_bool : bootBuiltins "bool" = some (.type "bool") := by decide +kernel
theorem bt_int : bootBuiltins "int" = some (.type "int") := by decide +kernel
theorem bt_isinstance : bootBuiltins "isinstance" = some (.builtin "isinstance") := by decide +kernel
theorem bt_len : bootBuiltins "len" = some (.builtin "len") := by decide +kernel
theorem bt_list : bootBuiltins "list" = some (.type "list") := by decide +kernel
theorem bt_max : bootBuiltins "max" = some (.builtin "max") := by decide +kernel
theorem bt_min : bootBuiltins "min" = some (.builtin "min") := by decide +kernel
theorem bt_range : bootBuiltins "range" = some (.type "range") := by decide +kernel
theorem bt_sum : bootBuiltins "sum" = some (.builtin "sum") := by decide +kernel
theorem bt_tuple : bootBuiltins "tuple" = some (.type "tuple") := by decide +kernel
theorem bt_zip : bootBuiltins "zip" = some (.type "zip") := by decide +kernel
structure Tx (K : PySem.W.Frag) (mg : Str → Option Value) where
  f_is_whole : Addr
  fd_is_whole : FuncData
  F_is_whole : Fun K "is_whole" "is_whole" s_is_whole f_is_whole fd_is_whole
  g_is_whole : mg "is_whole" = some (.ref f_is_whole)
  f_is_between : Addr
  fd_is_between : FuncData
  F_is_between : Fun K "is_between" "is_between" s_is_between f_is_between fd_is_between
  g_is_between : mg "is_between" = some (.ref f_is_between)
  f_divisor : Addr
  fd_divisor : FuncData
  F_divisor : Fun K "divisor" "divisor" s_divisor f_divisor fd_divisor
  g_divisor : mg "divisor" = some (.ref f_divisor)
  f_fraction : Addr
  fd_fraction : FuncData
  F_fraction : Fun K "fraction" "fraction" s_fraction f_fraction fd_fraction
  g_fraction : mg "fraction" = some (.ref f_fraction)
  f_is_urn : Addr
  fd_is_urn : FuncData
  F_is_urn : Fun K "is_urn" "is_urn" s_is_urn f_is_urn fd_is_urn
  g_is_urn : mg "is_urn" = some (.ref f_is_urn)
  f_need_number : Addr
  fd_need_number : FuncData
  F_need_number : Fun K "need_number" "need_number" s_need_number f_need_number fd_need_number
  g_need_number : mg "need_number" = some (.ref f_need_number)
  f_need_urn : Addr
  fd_need_urn : FuncData
  F_need_urn : Fun K "need_urn" "need_urn" s_need_urn f_need_urn fd_need_urn
  g_need_urn : mg "need_urn" = some (.ref f_need_urn)
  f_need_counts : Addr
  fd_need_counts : FuncData
  F_need_counts : Fun K "need_counts" "need_counts" s_need_counts f_need_counts fd_need_counts
  g_need_counts : mg "need_counts" = some (.ref f_need_counts)
  f_rising_product : Addr
  fd_rising_product : FuncData
  F_rising_product : Fun K "rising_product" "rising_product" s_rising_product f_rising_product fd_rising_product
  g_rising_product : mg "rising_product" = some (.ref f_rising_product)
  f_orders_of : Addr
  fd_orders_of : FuncData
  F_orders_of : Fun K "orders_of" "orders_of" s_orders_of f_orders_of fd_orders_of
  g_orders_of : mg "orders_of" = some (.ref f_orders_of)
  f_chance_by : Addr
  fd_chance_by : FuncData
  F_chance_by : Fun K "chance_by" "chance_by" s_chance_by f_chance_by fd_chance_by
  g_chance_by : mg "chance_by" = some (.ref f_chance_by)
  f_counts_chance : Addr
  fd_counts_chance : FuncData
  F_counts_chance : Fun K "counts_chance" "counts_chance" s_counts_chance f_counts_chance fd_counts_chance
  g_counts_chance : mg "counts_chance" = some (.ref f_counts_chance)
  f_next_shares : Addr
  fd_next_shares : FuncData
  F_next_shares : Fun K "next_shares" "next_shares" s_next_shares f_next_shares fd_next_shares
  g_next_shares : mg "next_shares" = some (.ref f_next_shares)
  f__law_cell_at : Addr
  fd__law_cell_at : FuncData
  F__law_cell_at : Fun K "_law_cell_at" "_law_cell_at" s__law_cell_at f__law_cell_at fd__law_cell_at
  g__law_cell_at : mg "_law_cell_at" = some (.ref f__law_cell_at)
  f__law_state : Addr
  fd__law_state : FuncData
  F__law_state : Fun K "_law_state" "_law_state" s__law_state f__law_state fd__law_state
  g__law_state : mg "_law_state" = some (.ref f__law_state)
  f__law_take : Addr
  fd__law_take : FuncData
  F__law_take : Fun K "_law_take" "_law_take" s__law_take f__law_take fd__law_take
  g__law_take : mg "_law_take" = some (.ref f__law_take)
  f__law_refused : Addr
  fd__law_refused : FuncData
  F__law_refused : Fun K "_law_refused" "_law_refused" s__law_refused f__law_refused fd__law_refused
  g__law_refused : mg "_law_refused" = some (.ref f__law_refused)
  f__law_urn : Addr
  fd__law_urn : FuncData
  F__law_urn : Fun K "_law_urn" "_law_urn" s__law_urn f__law_urn fd__law_urn
  g__law_urn : mg "_law_urn" = some (.ref f__law_urn)
  f__law_cut : Addr
  fd__law_cut : FuncData
  F__law_cut : Fun K "_law_cut" "_law_cut" s__law_cut f__law_cut fd__law_cut
  g__law_cut : mg "_law_cut" = some (.ref f__law_cut)
  f__law_whole : Addr
  fd__law_whole : FuncData
  F__law_whole : Fun K "_law_whole" "_law_whole" s__law_whole f__law_whole fd__law_whole
  g__law_whole : mg "_law_whole" = some (.ref f__law_whole)
  f__law_is_urn : Addr
  fd__law_is_urn : FuncData
  F__law_is_urn : Fun K "_law_is_urn" "_law_is_urn" s__law_is_urn f__law_is_urn fd__law_is_urn
  g__law_is_urn : mg "_law_is_urn" = some (.ref f__law_is_urn)
  f__law_bent_urn : Addr
  fd__law_bent_urn : FuncData
  F__law_bent_urn : Fun K "_law_bent_urn" "_law_bent_urn" s__law_bent_urn f__law_bent_urn fd__law_bent_urn
  g__law_bent_urn : mg "_law_bent_urn" = some (.ref f__law_bent_urn)
  f__law_no_urn : Addr
  fd__law_no_urn : FuncData
  F__law_no_urn : Fun K "_law_no_urn" "_law_no_urn" s__law_no_urn f__law_no_urn fd__law_no_urn
  g__law_no_urn : mg "_law_no_urn" = some (.ref f__law_no_urn)
  f__law_counts : Addr
  fd__law_counts : FuncData
  F__law_counts : Fun K "_law_counts" "_law_counts" s__law_counts f__law_counts fd__law_counts
  g__law_counts : mg "_law_counts" = some (.ref f__law_counts)
  f__law_bent_counts : Addr
  fd__law_bent_counts : FuncData
  F__law_bent_counts : Fun K "_law_bent_counts" "_law_bent_counts" s__law_bent_counts f__law_bent_counts fd__law_bent_counts
  g__law_bent_counts : mg "_law_bent_counts" = some (.ref f__law_bent_counts)
  f__law_same : Addr
  fd__law_same : FuncData
  F__law_same : Fun K "_law_same" "_law_same" s__law_same f__law_same fd__law_same
  g__law_same : mg "_law_same" = some (.ref f__law_same)
  f__law_due : Addr
  fd__law_due : FuncData
  F__law_due : Fun K "_law_due" "_law_due" s__law_due f__law_due fd__law_due
  g__law_due : mg "_law_due" = some (.ref f__law_due)
  f_law : Addr
  fd_law : FuncData
  F_law : Fun K "law" "law" s_law f_law fd_law
  g_law : mg "law" = some (.ref f_law)
  z_ValueError : mg "ValueError" = none
  z_abs : mg "abs" = none
  z_all : mg "all" = none
  z_bool : mg "bool" = none
  z_int : mg "int" = none
  z_isinstance : mg "isinstance" = none
  z_len : mg "len" = none
  z_list : mg "list" = none
  z_max : mg "max" = none
  z_min : mg "min" = none
  z_range : mg "range" = none
  z_sum : mg "sum" = none
  z_tuple : mg "tuple" = none
  z_zip : mg "zip" = none
  t_MOST_BALLS : Tok
  m_MOST_BALLS : mg "MOST_BALLS" = some (.int 20 t_MOST_BALLS)
  t_MOST_COUNTED : Tok
  m_MOST_COUNTED : mg "MOST_COUNTED" = some (.int 40 t_MOST_COUNTED)
  t_MOST_KINDS : Tok
  m_MOST_KINDS : mg "MOST_KINDS" = some (.int 4 t_MOST_KINDS)
  t_MOST_PUT : Tok
  m_MOST_PUT : mg "MOST_PUT" = some (.int 5 t_MOST_PUT)
  c_BadNote : Addr
  m_BadNote : mg "BadNote" = some (.ref c_BadNote)
  c_NoBall : Addr
  m_NoBall : mg "NoBall" = some (.ref c_NoBall)
  c_NoCounts : Addr
  m_NoCounts : mg "NoCounts" = some (.ref c_NoCounts)
  c_NoDraws : Addr
  m_NoDraws : mg "NoDraws" = some (.ref c_NoDraws)
  c_NoKind : Addr
  m_NoKind : mg "NoKind" = some (.ref c_NoKind)
  c_NoNumber : Addr
  m_NoNumber : mg "NoNumber" = some (.ref c_NoNumber)
  c_NoRule : Addr
  m_NoRule : mg "NoRule" = some (.ref c_NoRule)
  c_NoUrn : Addr
  m_NoUrn : mg "NoUrn" = some (.ref c_NoUrn)
  c_NotAlike : Addr
  m_NotAlike : mg "NotAlike" = some (.ref c_NotAlike)
  c_NotEven : Addr
  m_NotEven : mg "NotEven" = some (.ref c_NotEven)
  c_UrnError : Addr
  m_UrnError : mg "UrnError" = some (.ref c_UrnError)
  x_NoCounts : PySem.W.excIn K c_NoCounts [.type "ValueError", .type "Exception", .type "BaseException", .type "object"] "ValueError.__new__" = true
  k_NoCounts : PySem.W.keepIn K (.ref c_NoCounts) = true
  b_NoCounts : PySem.W.subIn K (.ref c_NoCounts) (.type "BaseException") = some true
  ty_NoCounts : PySem.W.typeIn K (.ref c_NoCounts) = some (.type "type")
  u_NoCounts : PySem.W.subIn K (.ref c_NoCounts) (.ref c_UrnError) = some true
  i_NoCounts_NoKind : PySem.W.kitOne K (.ref c_NoCounts) (.ref c_NoKind) = some false
  i_NoCounts_NoRule : PySem.W.kitOne K (.ref c_NoCounts) (.ref c_NoRule) = some false
  i_NoCounts_NoUrn : PySem.W.kitOne K (.ref c_NoCounts) (.ref c_NoUrn) = some false
  i_NoCounts_NoNumber : PySem.W.kitOne K (.ref c_NoCounts) (.ref c_NoNumber) = some false
  i_NoCounts_NoDraws : PySem.W.kitOne K (.ref c_NoCounts) (.ref c_NoDraws) = some false
  i_NoCounts_NoBall : PySem.W.kitOne K (.ref c_NoCounts) (.ref c_NoBall) = some false
  i_NoCounts_NotAlike : PySem.W.kitOne K (.ref c_NoCounts) (.ref c_NotAlike) = some false
  i_NoCounts_NoCounts : PySem.W.kitOne K (.ref c_NoCounts) (.ref c_NoCounts) = some true
  i_NoCounts_NotEven : PySem.W.kitOne K (.ref c_NoCounts) (.ref c_NotEven) = some false
  i_NoCounts_BadNote : PySem.W.kitOne K (.ref c_NoCounts) (.ref c_BadNote) = some false
  i_NoCounts_ValueError : PySem.W.kitOne K (.ref c_NoCounts) (.type "ValueError") = some true
  x_NoNumber : PySem.W.excIn K c_NoNumber [.type "ValueError", .type "Exception", .type "BaseException", .type "object"] "ValueError.__new__" = true
  k_NoNumber : PySem.W.keepIn K (.ref c_NoNumber) = true
  b_NoNumber : PySem.W.subIn K (.ref c_NoNumber) (.type "BaseException") = some true
  ty_NoNumber : PySem.W.typeIn K (.ref c_NoNumber) = some (.type "type")
  u_NoNumber : PySem.W.subIn K (.ref c_NoNumber) (.ref c_UrnError) = some true
  i_NoNumber_NoKind : PySem.W.kitOne K (.ref c_NoNumber) (.ref c_NoKind) = some false
  i_NoNumber_NoRule : PySem.W.kitOne K (.ref c_NoNumber) (.ref c_NoRule) = some false
  i_NoNumber_NoUrn : PySem.W.kitOne K (.ref c_NoNumber) (.ref c_NoUrn) = some false
  i_NoNumber_NoNumber : PySem.W.kitOne K (.ref c_NoNumber) (.ref c_NoNumber) = some true
  i_NoNumber_NoDraws : PySem.W.kitOne K (.ref c_NoNumber) (.ref c_NoDraws) = some false
  i_NoNumber_NoBall : PySem.W.kitOne K (.ref c_NoNumber) (.ref c_NoBall) = some false
  i_NoNumber_NotAlike : PySem.W.kitOne K (.ref c_NoNumber) (.ref c_NotAlike) = some false
  i_NoNumber_NoCounts : PySem.W.kitOne K (.ref c_NoNumber) (.ref c_NoCounts) = some false
  i_NoNumber_NotEven : PySem.W.kitOne K (.ref c_NoNumber) (.ref c_NotEven) = some false
  i_NoNumber_BadNote : PySem.W.kitOne K (.ref c_NoNumber) (.ref c_BadNote) = some false
  i_NoNumber_ValueError : PySem.W.kitOne K (.ref c_NoNumber) (.type "ValueError") = some true
  x_NoUrn : PySem.W.excIn K c_NoUrn [.type "ValueError", .type "Exception", .type "BaseException", .type "object"] "ValueError.__new__" = true
  k_NoUrn : PySem.W.keepIn K (.ref c_NoUrn) = true
  b_NoUrn : PySem.W.subIn K (.ref c_NoUrn) (.type "BaseException") = some true
  ty_NoUrn : PySem.W.typeIn K (.ref c_NoUrn) = some (.type "type")
  u_NoUrn : PySem.W.subIn K (.ref c_NoUrn) (.ref c_UrnError) = some true
  i_NoUrn_NoKind : PySem.W.kitOne K (.ref c_NoUrn) (.ref c_NoKind) = some false
  i_NoUrn_NoRule : PySem.W.kitOne K (.ref c_NoUrn) (.ref c_NoRule) = some false
  i_NoUrn_NoUrn : PySem.W.kitOne K (.ref c_NoUrn) (.ref c_NoUrn) = some true
  i_NoUrn_NoNumber : PySem.W.kitOne K (.ref c_NoUrn) (.ref c_NoNumber) = some false
  i_NoUrn_NoDraws : PySem.W.kitOne K (.ref c_NoUrn) (.ref c_NoDraws) = some false
  i_NoUrn_NoBall : PySem.W.kitOne K (.ref c_NoUrn) (.ref c_NoBall) = some false
  i_NoUrn_NotAlike : PySem.W.kitOne K (.ref c_NoUrn) (.ref c_NotAlike) = some false
  i_NoUrn_NoCounts : PySem.W.kitOne K (.ref c_NoUrn) (.ref c_NoCounts) = some false
  i_NoUrn_NotEven : PySem.W.kitOne K (.ref c_NoUrn) (.ref c_NotEven) = some false
  i_NoUrn_BadNote : PySem.W.kitOne K (.ref c_NoUrn) (.ref c_BadNote) = some false
  i_NoUrn_ValueError : PySem.W.kitOne K (.ref c_NoUrn) (.type "ValueError") = some true
  b_UrnError : PySem.W.subIn K (.ref c_UrnError) (.type "BaseException") = some true
  hd_UrnError : PySem.W.hasDictIn K c_UrnError = true
  ty_UrnError : PySem.W.typeIn K (.ref c_UrnError) = some (.type "type")
  e_NoCounts : ExcC K c_NoCounts
  e_NoNumber : ExcC K c_NoNumber
  e_NoUrn : ExcC K c_NoUrn
section
variable {P : Program} {w : World} {K : PySem.W.Frag} {mg : Str → Option Value} {base : Heap}
abbrev N_is_whole : List Str := ["thing"]
theorem sc_is_whole : FnScope N_is_whole ["thing"] (defScope s_is_whole) := ⟨rfl, rfl, rfl, by decide +kernel, rfl, by decide +kernel, by decide +kernel⟩
theorem b_is_whole (T : Tx K mg) : Binds K T.fd_is_whole ["thing"] [] := T.F_is_whole.binds fun _ _ _ _ _ _ us hl => match us, hl with | [_], _ => rfl
theorem ok_is_whole (T : Tx K mg) : FnOk P w K mg base (L2.CX P w) 1 T.f_is_whole T.fd_is_whole ["thing"] (spP ⟨P, w, K, mg, [], none⟩ m_is_whole) :=
  okP (N := N_is_whole) (fb := d_is_whole) T.F_is_whole sc_is_whole fun cdv A outer s H E hr => by
    have ps : Passes (L2.CX P w) (cxOf (L2.CX P w) P w K mg base N_is_whole "is_whole" (defScope s_is_whole) T.f_is_whole cdv A outer s H E) E := pass_on (takes_of rfl rfl rfl rfl)
    refine ⟨_, (by exact (pss_one (ps_ret (pe_and (pe_callB (k_isi (K := K)) (by rfl) T.z_isinstance bt_isinstance (pa_cons (pv 0) (pa_cons (pe_bltn (v := .ty "int") (by rfl) T.z_int bt_int rfl) pa_nil))) (pe_one (pe_not (pe_callB (k_isi (K := K)) (by rfl) T.z_isinstance bt_isinstance (pa_cons (pv 0) (pa_cons (pe_bltn (v := .ty "bool") (by rfl) T.z_bool bt_bool rfl) pa_nil))))))))), ?_⟩
    exact (sn_ret (dn_andV (dn_isi (T := "int") (by decide) (dn_var (i := 0))) (dn_notV (dn_isi (T := "bool") (by decide) (dn_var (i := 0))))))
abbrev N_is_between : List Str := ["thing", "least", "most"]
theorem sc_is_between : FnScope N_is_between ["thing", "least", "most"] (defScope s_is_between) := ⟨rfl, rfl, rfl, by decide +kernel, rfl, by decide +kernel, by decide +kernel⟩
theorem b_is_between (T : Tx K mg) : Binds K T.fd_is_between ["thing", "least", "most"] [] := T.F_is_between.binds fun _ _ _ _ _ _ us hl => match us, hl with | [_, _, _], _ => rfl
theorem ok_is_between (T : Tx K mg) : FnOk P w K mg base (L2.CX P w) 2 T.f_is_between T.fd_is_between ["thing", "least", "most"] (spP ⟨P, w, K, mg, [], none⟩ m_is_between) :=
  okP (N := N_is_between) (fb := d_is_between) T.F_is_between sc_is_between fun cdv A outer s H E hr => by
    have ps : Passes (L2.CX P w) (cxOf (L2.CX P w) P w K mg base N_is_between "is_between" (defScope s_is_between) T.f_is_between cdv A outer s H E) E := pass_on (takes_of rfl rfl rfl rfl)
    refine ⟨_, (by exact (pss_one (ps_ret (pe_and (pe_call (ok_is_whole (P := P) (w := w) (base := base) T) (hr.mono (by decide)) (by rfl) T.g_is_whole T.F_is_whole.kp (b_is_whole T) .nil ps (pa_cons (pv 0) pa_nil)) (pe_one (pe_chain g_le g_le (pv 1) (pv 0) (pv 2))))))), ?_⟩
    exact (sn_ret (dn_andV (dn_call (da_cons (dn_var (i := 0)) da_nil)) (dn_chain d_le d_le (dn_var (i := 1)) (dn_var (i := 0)) (dn_var (i := 2)))))
abbrev N_divisor : List Str := ["one", "other"]
theorem sc_divisor : FnScope N_divisor ["one", "other"] (defScope s_divisor) := ⟨rfl, rfl, rfl, by decide +kernel, rfl, by decide +kernel, by decide +kernel⟩
theorem b_divisor (T : Tx K mg) : Binds K T.fd_divisor ["one", "other"] [] := T.F_divisor.binds fun _ _ _ _ _ _ us hl => match us, hl with | [_, _], _ => rfl
theorem ok_divisor (T : Tx K mg) : FnOk P w K mg base (L2.CX P w) 1 T.f_divisor T.fd_divisor ["one", "other"] (spP ⟨P, w, K, mg, [], none⟩ m_divisor) :=
  okP (N := N_divisor) (fb := d_divisor) T.F_divisor sc_divisor fun cdv A outer s H E hr => by
    have ps : Passes (L2.CX P w) (cxOf (L2.CX P w) P w K mg base N_divisor "divisor" (defScope s_divisor) T.f_divisor cdv A outer s H E) E := pass_on (takes_of rfl rfl rfl rfl)
    refine ⟨_, (by exact (pss_cons (ps_while (passes_of rfl) (pt_cmpR (k_ne (K := K) hr.units) (pv 1) pe_int (nomark _)) (pss_one (ps_par (i := 0) (j := 1) rfl sc_divisor.nd rfl rfl (by decide) rfl rfl (pa_cons (pv 1) (pa_cons (pe_op g_mod (pv 0) (pv 1)) pa_nil)) (by rfl)))) (pss_one (ps_ret (pe_callB g_abs (by rfl) T.z_abs bt_abs (pa_cons (pv 0) pa_nil)))))), ?_⟩
    exact (sn_seq (sn_while fu_divisor (dt_val (dn_op d_ne (dn_var (i := 1)) dn_int)) (sn_par (da_cons (dn_var (i := 1)) (da_cons (dn_op d_mod (dn_var (i := 0)) (dn_var (i := 1))) da_nil)))) (sn_ret (dn_cb d_abs (da_cons (dn_var (i := 0)) da_nil))))
abbrev N_fraction : List Str := ["top", "bottom", "part"]
theorem sc_fraction : FnScope N_fraction ["top", "bottom"] (defScope s_fraction) := ⟨rfl, rfl, rfl, by decide +kernel, rfl, by decide +kernel, by decide +kernel⟩
theorem b_fraction (T : Tx K mg) : Binds K T.fd_fraction ["top", "bottom"] [] := T.F_fraction.binds fun _ _ _ _ _ _ us hl => match us, hl with | [_, _], _ => rfl
theorem ok_fraction (T : Tx K mg) : FnOk P w K mg base (L2.CX P w) 2 T.f_fraction T.fd_fraction ["top", "bottom"] (spP ⟨P, w, K, mg, [], none⟩ m_fraction) :=
  okP (N := N_fraction) (fb := d_fraction) T.F_fraction sc_fraction fun cdv A outer s H E hr => by
    have ps : Passes (L2.CX P w) (cxOf (L2.CX P w) P w K mg base N_fraction "fraction" (defScope s_fraction) T.f_fraction cdv A outer s H E) E := pass_on (takes_of rfl rfl rfl rfl)
    refine ⟨_, (by exact (pss_cons (ps_set (i := 2) sc_fraction.nd rfl (.inl rfl) (pe_call (ok_divisor (P := P) (w := w) (base := base) T) (hr.mono (by decide)) (by rfl) T.g_divisor T.F_divisor.kp (b_divisor T) .nil ps (pa_cons (pv 1) (pa_cons (pv 0) pa_nil)))) (pss_one (ps_ret (pe_tup (pa_cons (pe_op g_fdiv (pv 0) (pv 2)) (pa_cons (pe_op g_fdiv (pv 1) (pv 2)) pa_nil))))))), ?_⟩
    exact (sn_seq (sn_asg (dn_call (da_cons (dn_var (i := 1)) (da_cons (dn_var (i := 0)) da_nil))) dg_name) (sn_ret (dn_tup (da_cons (dn_op d_fdiv (dn_var (i := 0)) (dn_var (i := 2))) (da_cons (dn_op d_fdiv (dn_var (i := 1)) (dn_var (i := 2))) da_nil)))))
abbrev N_is_urn : List Str := ["thing", "many"]
theorem sc_is_urn : FnScope N_is_urn ["thing"] (defScope s_is_urn) := ⟨rfl, rfl, rfl, by decide +kernel, rfl, by decide +kernel, by decide +kernel⟩
theorem b_is_urn (T : Tx K mg) : Binds K T.fd_is_urn ["thing"] [] := T.F_is_urn.binds fun _ _ _ _ _ _ us hl => match us, hl with | [_], _ => rfl
theorem ok_is_urn (T : Tx K mg) : FnOk P w K mg base (L2.CX P w) 3 T.f_is_urn T.fd_is_urn ["thing"] (spP ⟨P, w, K, mg, [], none⟩ m_is_urn) :=
  okP (N := N_is_urn) (fb := d_is_urn) T.F_is_urn sc_is_urn fun cdv A outer s H E hr => by
    have ps : Passes (L2.CX P w) (cxOf (L2.CX P w) P w K mg base N_is_urn "is_urn" (defScope s_is_urn) T.f_is_urn cdv A outer s H E) E := pass_on (takes_of rfl rfl rfl rfl)
    refine ⟨_, (by exact (pss_cons (ps_if (PW.pt (pw_or (pt_not (pt_val (pe_callB (k_isi (K := K)) (by rfl) T.z_isinstance bt_isinstance (pa_cons (pv 0) (pa_cons (pe_bltn (v := .ty "tuple") (by rfl) T.z_tuple bt_tuple rfl) pa_nil))))) (pw_or1 (pt_not (pt_chain g_le g_le pe_int (pe_callB (k_len (K := K)) (by rfl) T.z_len bt_len (pa_cons (pv 0) pa_nil)) (pe_glob (v := .int 4) (by rfl) T.m_MOST_KINDS ⟨_, rfl⟩)))))) (pss_one (ps_ret pe_bl)) pss_nil) (pss_one (ps_ret (pe_and (pe_callB (k_all (K := K) rfl) (by rfl) T.z_all bt_all (pa_cons (pe_lc (own := [("many", 1)]) rfl sc_is_urn.nd (kpi_any (K := K) (pv 0)) (blkOk_by (N := N_is_urn) (sc := (defScope s_is_urn)) (by decide +kernel)) (fun _ _ _ _ _ => (pg_name (i := 1) sc_is_urn.nd rfl (.inl rfl))) (fun _ _ _ _ _ => pts_nil) (fun _ _ _ _ _ => (pe_call (ok_is_between (P := P) (w := w) (base := base) T) (hr.mono (by decide)) (by rfl) T.g_is_between T.F_is_between.kp (b_is_between T) .nil passL (pa_cons (pv 1) (pa_cons pe_int (pa_cons (pe_glob (v := .int 20) (by rfl) T.m_MOST_BALLS ⟨_, rfl⟩) pa_nil)))))) pa_nil)) (pe_one (pe_cmpR g_gt (pe_callB (k_sum (K := K) rfl) (by rfl) T.z_sum bt_sum (pa_cons (pv 0) pa_nil)) pe_int (nomark _)))))))), ?_⟩
    exact (sn_seq (sn_if (dt_or (dt_not (dt_B (dn_isi (T := "tuple") (by decide) (dn_var (i := 0))))) (dt_not (dt_val (dn_chain d_le d_le dn_int (dn_cb d_len (da_cons (dn_var (i := 0)) da_nil)) dn_int)))) (sn_ret dn_bl) sn_next) (sn_ret (dn_andV (dn_cb d_all (da_cons (dn_lc (di_any (dn_var (i := 0))) (dc_name (by decide)) dt_yes (dn_call (da_cons (dn_var (i := 1)) (da_cons dn_int (da_cons dn_int da_nil))))) da_nil)) (dn_op d_gt (dn_cb d_sum (da_cons (dn_var (i := 0)) da_nil)) dn_int))))
abbrev N_need_number : List Str := ["thing", "least", "most"]
theorem sc_need_number : FnScope N_need_number ["thing", "least", "most"] (defScope s_need_number) := ⟨rfl, rfl, rfl, by decide +kernel, rfl, by decide +kernel, by decide +kernel⟩
theorem b_need_number (T : Tx K mg) : Binds K T.fd_need_number ["thing", "least", "most"] [] := T.F_need_number.binds fun _ _ _ _ _ _ us hl => match us, hl with | [_, _, _], _ => rfl
theorem ok_need_number (T : Tx K mg) : FnOk P w K mg base (L2.CX P w) 3 T.f_need_number T.fd_need_number ["thing", "least", "most"] (spP ⟨P, w, K, mg, [], none⟩ m_need_number) :=
  okP (N := N_need_number) (fb := d_need_number) T.F_need_number sc_need_number fun cdv A outer s H E hr => by
    have ps : Passes (L2.CX P w) (cxOf (L2.CX P w) P w K mg base N_need_number "need_number" (defScope s_need_number) T.f_need_number cdv A outer s H E) E := pass_on (takes_of rfl rfl rfl rfl)
    refine ⟨_, (by exact (pss_one (ps_if (pt_not (pt_val (pe_call (ok_is_between (P := P) (w := w) (base := base) T) (hr.mono (by decide)) (by rfl) T.g_is_between T.F_is_between.kp (b_is_between T) .nil ps (pa_cons (pv 0) (pa_cons (pv 1) (pa_cons (pv 2) pa_nil)))))) (pss_one (ps_raise rfl (takes_of rfl rfl rfl rfl) (pmk_own PySem.F.excBase_ValueError T.x_NoNumber T.m_NoNumber T.k_NoNumber (raises_own T.b_NoNumber T.ty_NoNumber) (by exact rfl)))) pss_nil))), ?_⟩
    exact (sn_if (dt_not (dt_B (dn_call (da_cons (dn_var (i := 0)) (da_cons (dn_var (i := 1)) (da_cons (dn_var (i := 2)) da_nil)))))) (sn_raise T.m_NoNumber (fun _ _ _ h => h)) sn_next)
abbrev N_need_urn : List Str := ["urn"]
theorem sc_need_urn : FnScope N_need_urn ["urn"] (defScope s_need_urn) := ⟨rfl, rfl, rfl, by decide +kernel, rfl, by decide +kernel, by decide +kernel⟩
theorem b_need_urn (T : Tx K mg) : Binds K T.fd_need_urn ["urn"] [] := T.F_need_urn.binds fun _ _ _ _ _ _ us hl => match us, hl with | [_], _ => rfl
theorem ok_need_urn (T : Tx K mg) : FnOk P w K mg base (L2.CX P w) 4 T.f_need_urn T.fd_need_urn ["urn"] (spP ⟨P, w, K, mg, [], none⟩ m_need_urn) :=
  okP (N := N_need_urn) (fb := d_need_urn) T.F_need_urn sc_need_urn fun cdv A outer s H E hr => by
    have ps : Passes (L2.CX P w) (cxOf (L2.CX P w) P w K mg base N_need_urn "need_urn" (defScope s_need_urn) T.f_need_urn cdv A outer s H E) E := pass_on (takes_of rfl rfl rfl rfl)
    refine ⟨_, (by exact (pss_one (ps_if (pt_not (pt_val (pe_call (ok_is_urn (P := P) (w := w) (base := base) T) (hr.mono (by decide)) (by rfl) T.g_is_urn T.F_is_urn.kp (b_is_urn T) .nil ps (pa_cons (pv 0) pa_nil)))) (pss_one (ps_raise rfl (takes_of rfl rfl rfl rfl) (pmk_own PySem.F.excBase_ValueError T.x_NoUrn T.m_NoUrn T.k_NoUrn (raises_own T.b_NoUrn T.ty_NoUrn) (by exact rfl)))) pss_nil))), ?_⟩
    exact (sn_if (dt_not (dt_B (dn_call (da_cons (dn_var (i := 0)) da_nil)))) (sn_raise T.m_NoUrn (fun _ _ _ h => h)) sn_next)
abbrev N_need_counts : List Str := ["urn", "counts", "many"]
theorem sc_need_counts : FnScope N_need_counts ["urn", "counts"] (defScope s_need_counts) := ⟨rfl, rfl, rfl, by decide +kernel, rfl, by decide +kernel, by decide +kernel⟩
theorem b_need_counts (T : Tx K mg) : Binds K T.fd_need_counts ["urn", "counts"] [] := T.F_need_counts.binds fun _ _ _ _ _ _ us hl => match us, hl with | [_, _], _ => rfl
theorem ok_need_counts (T : Tx K mg) : FnOk P w K mg base (L2.CX P w) 3 T.f_need_counts T.fd_need_counts ["urn", "counts"] (spP ⟨P, w, K, mg, [], none⟩ m_need_counts) :=
  okP (N := N_need_counts) (fb := d_need_counts) T.F_need_counts sc_need_counts fun cdv A outer s H E hr => by
    have ps : Passes (L2.CX P w) (cxOf (L2.CX P w) P w K mg base N_need_counts "need_counts" (defScope s_need_counts) T.f_need_counts cdv A outer s H E) E := pass_on (takes_of rfl rfl rfl rfl)
    refine ⟨_, (by exact (pss_cons (ps_if (PW.pt (pw_or (pt_not (pt_val (pe_callB (k_isi (K := K)) (by rfl) T.z_isinstance bt_isinstance (pa_cons (pv 1) (pa_cons (pe_bltn (v := .ty "tuple") (by rfl) T.z_tuple bt_tuple rfl) pa_nil))))) (pw_or1 (pt_cmpR (k_ne (K := K) hr.units) (pe_callB (k_len (K := K)) (by rfl) T.z_len bt_len (pa_cons (pv 1) pa_nil)) (pe_callB (k_len (K := K)) (by rfl) T.z_len bt_len (pa_cons (pv 0) pa_nil)) (nomark _))))) (pss_one (ps_raise rfl (takes_of rfl rfl rfl rfl) (pmk_own PySem.F.excBase_ValueError T.x_NoCounts T.m_NoCounts T.k_NoCounts (raises_own T.b_NoCounts T.ty_NoCounts) (by exact rfl)))) pss_nil) (pss_one (ps_if (PW.pt (pw_or (pt_not (pt_val (pe_callB (k_all (K := K) rfl) (by rfl) T.z_all bt_all (pa_cons (pe_lc (own := [("many", 2)]) rfl sc_need_counts.nd (kpi_any (K := K) (pv 1)) (blkOk_by (N := N_need_counts) (sc := (defScope s_need_counts)) (by decide +kernel)) (fun _ _ _ _ _ => (pg_name (i := 2) sc_need_counts.nd rfl (.inl rfl))) (fun _ _ _ _ _ => pts_nil) (fun _ _ _ _ _ => (pe_call (ok_is_between (P := P) (w := w) (base := base) T) (hr.mono (by decide)) (by rfl) T.g_is_between T.F_is_between.kp (b_is_between T) .nil passL (pa_cons (pv 2) (pa_cons pe_int (pa_cons (pe_glob (v := .int 40) (by rfl) T.m_MOST_COUNTED ⟨_, rfl⟩) pa_nil)))))) pa_nil)))) (pw_or1 (pt_cmpR g_gt (pe_callB (k_sum (K := K) rfl) (by rfl) T.z_sum bt_sum (pa_cons (pv 1) pa_nil)) (pe_glob (v := .int 40) (by rfl) T.m_MOST_COUNTED ⟨_, rfl⟩) (nomark _))))) (pss_one (ps_raise rfl (takes_of rfl rfl rfl rfl) (pmk_own PySem.F.excBase_ValueError T.x_NoCounts T.m_NoCounts T.k_NoCounts (raises_own T.b_NoCounts T.ty_NoCounts) (by exact rfl)))) pss_nil)))), ?_⟩
    exact (sn_seq (sn_if (dt_or (dt_not (dt_B (dn_isi (T := "tuple") (by decide) (dn_var (i := 1))))) (dt_val (dn_op d_ne (dn_cb d_len (da_cons (dn_var (i := 1)) da_nil)) (dn_cb d_len (da_cons (dn_var (i := 0)) da_nil))))) (sn_raise T.m_NoCounts (fun _ _ _ h => h)) sn_next) (sn_if (dt_or (dt_not (dt_B (dn_cb d_all (da_cons (dn_lc (di_any (dn_var (i := 1))) (dc_name (by decide)) dt_yes (dn_call (da_cons (dn_var (i := 2)) (da_cons dn_int (da_cons dn_int da_nil))))) da_nil)))) (dt_val (dn_op d_gt (dn_cb d_sum (da_cons (dn_var (i := 1)) da_nil)) dn_int))) (sn_raise T.m_NoCounts (fun _ _ _ h => h)) sn_next))
abbrev N_rising_product : List Str := ["first", "step", "many", "found", "turn"]
theorem sc_rising_product : FnScope N_rising_product ["first", "step", "many"] (defScope s_rising_product) := ⟨rfl, rfl, rfl, by decide +kernel, rfl, by decide +kernel, by decide +kernel⟩
theorem b_rising_product (T : Tx K mg) : Binds K T.fd_rising_product ["first", "step", "many"] [] := T.F_rising_product.binds fun _ _ _ _ _ _ us hl => match us, hl with | [_, _, _], _ => rfl
theorem ok_rising_product (T : Tx K mg) : FnOk P w K mg base (L2.CX P w) 1 T.f_rising_product T.fd_rising_product ["first", "step", "many"] (spP ⟨P, w, K, mg, [], none⟩ m_rising_product) :=
  okP (N := N_rising_product) (fb := d_rising_product) T.F_rising_product sc_rising_product fun cdv A outer s H E hr => by
    have ps : Passes (L2.CX P w) (cxOf (L2.CX P w) P w K mg base N_rising_product "rising_product" (defScope s_rising_product) T.f_rising_product cdv A outer s H E) E := pass_on (takes_of rfl rfl rfl rfl)
    refine ⟨_, (by exact (pss_cons (ps_set (i := 3) sc_rising_product.nd rfl (.inl rfl) pe_int) (pss_cons (ps_for (passes_of rfl) rfl (pi_range1 (by rfl) T.z_range (pa_cons (pv 2) pa_nil)) (pg_name (i := 4) sc_rising_product.nd rfl (.inl rfl)) (pss_one (ps_set (i := 3) sc_rising_product.nd rfl (.inl rfl) (pe_op (k_mul (K := K)) (pv 3) (pe_op (k_add (K := K)) (pv 0) (pe_op (k_mul (K := K)) (pv 1) (pv 4))))))) (pss_one (ps_ret (pv 3)))))), ?_⟩
    exact (sn_seq (sn_asg dn_int dg_name) (sn_seq (sn_for (di_rng1 (da_cons (dn_var (i := 2)) da_nil) (aC_len aN_len)) dg_name (sn_asg (dn_op d_mul (dn_var (i := 3)) (dn_op d_add (dn_var (i := 0)) (dn_op d_mul (dn_var (i := 1)) (dn_var (i := 4))))) dg_name)) (sn_ret (dn_var (i := 3)))))
abbrev N_orders_of : List Str := ["counts", "found", "many"]
theorem sc_orders_of : FnScope N_orders_of ["counts"] (defScope s_orders_of) := ⟨rfl, rfl, rfl, by decide +kernel, rfl, by decide +kernel, by decide +kernel⟩
theorem b_orders_of (T : Tx K mg) : Binds K T.fd_orders_of ["counts"] [] := T.F_orders_of.binds fun _ _ _ _ _ _ us hl => match us, hl with | [_], _ => rfl
theorem ok_orders_of (T : Tx K mg) : FnOk P w K mg base (L2.CX P w) 2 T.f_orders_of T.fd_orders_of ["counts"] (spP ⟨P, w, K, mg, [], none⟩ m_orders_of) :=
  okP (N := N_orders_of) (fb := d_orders_of) T.F_orders_of sc_orders_of fun cdv A outer s H E hr => by
    have ps : Passes (L2.CX P w) (cxOf (L2.CX P w) P w K mg base N_orders_of "orders_of" (defScope s_orders_of) T.f_orders_of cdv A outer s H E) E := pass_on (takes_of rfl rfl rfl rfl)
    refine ⟨_, (by exact (pss_cons (ps_set (i := 1) sc_orders_of.nd rfl (.inl rfl) (pe_call (ok_rising_product (P := P) (w := w) (base := base) T) (hr.mono (by decide)) (by rfl) T.g_rising_product T.F_rising_product.kp (b_rising_product T) .nil ps (pa_cons pe_int (pa_cons pe_int (pa_cons (pe_callB (k_sum (K := K) rfl) (by rfl) T.z_sum bt_sum (pa_cons (pv 0) pa_nil)) pa_nil))))) (pss_cons (ps_for (passes_of rfl) rfl (kpi_any (K := K) (pv 0)) (pg_name (i := 2) sc_orders_of.nd rfl (.inl rfl)) (pss_one (ps_set (i := 1) sc_orders_of.nd rfl (.inl rfl) (pe_op g_fdiv (pv 1) (pe_call (ok_rising_product (P := P) (w := w) (base := base) T) (hr.mono (by decide)) (by rfl) T.g_rising_product T.F_rising_product.kp (b_rising_product T) .nil ps (pa_cons pe_int (pa_cons pe_int (pa_cons (pv 2) pa_nil)))))))) (pss_one (ps_ret (pv 1)))))), ?_⟩
    exact (sn_seq (sn_asg (dn_call (da_cons dn_int (da_cons dn_int (da_cons (dn_cb d_sum (da_cons (dn_var (i := 0)) da_nil)) da_nil)))) dg_name) (sn_seq (sn_for (di_any (dn_var (i := 0))) dg_name (sn_asg (dn_op d_fdiv (dn_var (i := 1)) (dn_call (da_cons dn_int (da_cons dn_int (da_cons (dn_var (i := 2)) da_nil))))) dg_name)) (sn_ret (dn_var (i := 1)))))
abbrev N_chance_by : List Str := ["urn", "more", "counts", "top", "first", "many"]
theorem sc_chance_by : FnScope N_chance_by ["urn", "more", "counts"] (defScope s_chance_by) := ⟨rfl, rfl, rfl, by decide +kernel, rfl, by decide +kernel, by decide +kernel⟩
theorem b_chance_by (T : Tx K mg) : Binds K T.fd_chance_by ["urn", "more", "counts"] [] := T.F_chance_by.binds fun _ _ _ _ _ _ us hl => match us, hl with | [_, _, _], _ => rfl
theorem ok_chance_by (T : Tx K mg) : FnOk P w K mg base (L2.CX P w) 3 T.f_chance_by T.fd_chance_by ["urn", "more", "counts"] (spP ⟨P, w, K, mg, [], none⟩ m_chance_by) :=
  okP (N := N_chance_by) (fb := d_chance_by) T.F_chance_by sc_chance_by fun cdv A outer s H E hr => by
    have ps : Passes (L2.CX P w) (cxOf (L2.CX P w) P w K mg base N_chance_by "chance_by" (defScope s_chance_by) T.f_chance_by cdv A outer s H E) E := pass_on (takes_of rfl rfl rfl rfl)
    refine ⟨_, (by exact (pss_cons (ps_set (i := 3) sc_chance_by.nd rfl (.inl rfl) (pe_call (ok_orders_of (P := P) (w := w) (base := base) T) (hr.mono (by decide)) (by rfl) T.g_orders_of T.F_orders_of.kp (b_orders_of T) .nil ps (pa_cons (pv 2) pa_nil))) (pss_cons (ps_for (passes_of rfl) rfl (kpi_zip (K := K) (by rfl) T.z_zip (pa_cons (pv 0) (pa_cons (pv 2) pa_nil))) (kpg_tup (K := K) (n := 2) rfl (pgs_cons (pg_name (i := 4) sc_chance_by.nd rfl (.inl rfl)) (pgs_cons (pg_name (i := 5) sc_chance_by.nd rfl (.inl rfl)) pgs_nil))) (pss_one (ps_set (i := 3) sc_chance_by.nd rfl (.inl rfl) (pe_op (k_mul (K := K)) (pv 3) (pe_call (ok_rising_product (P := P) (w := w) (base := base) T) (hr.mono (by decide)) (by rfl) T.g_rising_product T.F_rising_product.kp (b_rising_product T) .nil ps (pa_cons (pv 4) (pa_cons (pv 1) (pa_cons (pv 5) pa_nil)))))))) (pss_one (ps_ret (pe_call (ok_fraction (P := P) (w := w) (base := base) T) (hr.mono (by decide)) (by rfl) T.g_fraction T.F_fraction.kp (b_fraction T) .nil ps (pa_cons (pv 3) (pa_cons (pe_call (ok_rising_product (P := P) (w := w) (base := base) T) (hr.mono (by decide)) (by rfl) T.g_rising_product T.F_rising_product.kp (b_rising_product T) .nil ps (pa_cons (pe_callB (k_sum (K := K) rfl) (by rfl) T.z_sum bt_sum (pa_cons (pv 0) pa_nil)) (pa_cons (pv 1) (pa_cons (pe_callB (k_sum (K := K) rfl) (by rfl) T.z_sum bt_sum (pa_cons (pv 2) pa_nil)) pa_nil)))) pa_nil)))))))), ?_⟩
    exact (sn_seq (sn_asg (dn_call (da_cons (dn_var (i := 2)) da_nil)) dg_name) (sn_seq (sn_for (di_zip (da_cons (dn_var (i := 0)) (da_cons (dn_var (i := 2)) da_nil))) (dg_tup rfl (dgs_cons dg_name (dgs_cons dg_name dgs_nil))) (sn_asg (dn_op d_mul (dn_var (i := 3)) (dn_call (da_cons (dn_var (i := 4)) (da_cons (dn_var (i := 1)) (da_cons (dn_var (i := 5)) da_nil))))) dg_name)) (sn_ret (dn_call (da_cons (dn_var (i := 3)) (da_cons (dn_call (da_cons (dn_cb d_sum (da_cons (dn_var (i := 0)) da_nil)) (da_cons (dn_var (i := 1)) (da_cons (dn_cb d_sum (da_cons (dn_var (i := 2)) da_nil)) da_nil)))) da_nil))))))
abbrev N_counts_chance : List Str := ["urn", "more", "counts"]
theorem sc_counts_chance : FnScope N_counts_chance ["urn", "more", "counts"] (defScope s_counts_chance) := ⟨rfl, rfl, rfl, by decide +kernel, rfl, by decide +kernel, by decide +kernel⟩
theorem b_counts_chance (T : Tx K mg) : Binds K T.fd_counts_chance ["urn", "more", "counts"] [] := T.F_counts_chance.binds fun _ _ _ _ _ _ us hl => match us, hl with | [_, _, _], _ => rfl
theorem ok_counts_chance (T : Tx K mg) : FnOk P w K mg base (L2.CX P w) 5 T.f_counts_chance T.fd_counts_chance ["urn", "more", "counts"] (spP ⟨P, w, K, mg, [], none⟩ m_counts_chance) :=
  okP (N := N_counts_chance) (fb := d_counts_chance) T.F_counts_chance sc_counts_chance fun cdv A outer s H E hr => by
    have ps : Passes (L2.CX P w) (cxOf (L2.CX P w) P w K mg base N_counts_chance "counts_chance" (defScope s_counts_chance) T.f_counts_chance cdv A outer s H E) E := pass_on (takes_of rfl rfl rfl rfl)
    refine ⟨_, (by exact (pss_cons (ps_expr (pe_call (ok_need_urn (P := P) (w := w) (base := base) T) (hr.mono (by decide)) (by rfl) T.g_need_urn T.F_need_urn.kp (b_need_urn T) .nil ps (pa_cons (pv 0) pa_nil))) (pss_cons (ps_expr (pe_call (ok_need_number (P := P) (w := w) (base := base) T) (hr.mono (by decide)) (by rfl) T.g_need_number T.F_need_number.kp (b_need_number T) .nil ps (pa_cons (pv 1) (pa_cons pe_int (pa_cons (pe_glob (v := .int 5) (by rfl) T.m_MOST_PUT ⟨_, rfl⟩) pa_nil))))) (pss_cons (ps_expr (pe_call (ok_need_counts (P := P) (w := w) (base := base) T) (hr.mono (by decide)) (by rfl) T.g_need_counts T.F_need_counts.kp (b_need_counts T) .nil ps (pa_cons (pv 0) (pa_cons (pv 2) pa_nil)))) (pss_one (ps_ret (pe_call (ok_chance_by (P := P) (w := w) (base := base) T) (hr.mono (by decide)) (by rfl) T.g_chance_by T.F_chance_by.kp (b_chance_by T) .nil ps (pa_cons (pv 0) (pa_cons (pv 1) (pa_cons (pv 2) pa_nil)))))))))), ?_⟩
    exact (sn_seq (sn_drop (dn_call (da_cons (dn_var (i := 0)) da_nil))) (sn_seq (sn_drop (dn_call (da_cons (dn_var (i := 1)) (da_cons dn_int (da_cons dn_int da_nil))))) (sn_seq (sn_drop (dn_call (da_cons (dn_var (i := 0)) (da_cons (dn_var (i := 2)) da_nil)))) (sn_ret (dn_call (da_cons (dn_var (i := 0)) (da_cons (dn_var (i := 1)) (da_cons (dn_var (i := 2)) da_nil))))))))
abbrev N_next_shares : List Str := ["urn", "more", "counts", "whole", "first", "many"]
theorem sc_next_shares : FnScope N_next_shares ["urn", "more", "counts"] (defScope s_next_shares) := ⟨rfl, rfl, rfl, by decide +kernel, rfl, by decide +kernel, by decide +kernel⟩
theorem b_next_shares (T : Tx K mg) : Binds K T.fd_next_shares ["urn", "more", "counts"] [] := T.F_next_shares.binds fun _ _ _ _ _ _ us hl => match us, hl with | [_, _, _], _ => rfl
theorem ok_next_shares (T : Tx K mg) : FnOk P w K mg base (L2.CX P w) 6 T.f_next_shares T.fd_next_shares ["urn", "more", "counts"] (spP ⟨P, w, K, mg, [], none⟩ m_next_shares) :=
  okP (N := N_next_shares) (fb := d_next_shares) T.F_next_shares sc_next_shares fun cdv A outer s H E hr => by
    have ps : Passes (L2.CX P w) (cxOf (L2.CX P w) P w K mg base N_next_shares "next_shares" (defScope s_next_shares) T.f_next_shares cdv A outer s H E) E := pass_on (takes_of rfl rfl rfl rfl)
    refine ⟨_, (by exact (pss_cons (ps_if (pt_cmpR (k_eq (K := K) hr.units) (pe_call (ok_counts_chance (P := P) (w := w) (base := base) T) (hr.mono (by decide)) (by rfl) T.g_counts_chance T.F_counts_chance.kp (b_counts_chance T) .nil ps (pa_cons (pv 0) (pa_cons (pv 1) (pa_cons (pv 2) pa_nil)))) (pe_tup (pa_cons pe_int (pa_cons pe_int pa_nil))) (nomark _)) (pss_one (ps_ret pe_non)) pss_nil) (pss_cons (ps_set (i := 3) sc_next_shares.nd rfl (.inr rfl) (pe_op (k_add (K := K)) (pe_callB (k_sum (K := K) rfl) (by rfl) T.z_sum bt_sum (pa_cons (pv 0) pa_nil)) (pe_op (k_mul (K := K)) (pv 1) (pe_callB (k_sum (K := K) rfl) (by rfl) T.z_sum bt_sum (pa_cons (pv 2) pa_nil))))) (pss_one (ps_ret (pe_callTy (k_tuple (K := K)) (by rfl) T.z_tuple bt_tuple (pa_cons (pe_lc (own := [("first", 4), ("many", 5)]) rfl sc_next_shares.nd (kpi_zip (K := K) (by rfl) T.z_zip (pa_cons (pv 0) (pa_cons (pv 2) pa_nil))) (blkOk_by (N := N_next_shares) (sc := (defScope s_next_shares)) (by decide +kernel)) (fun _ _ _ _ _ => (kpg_tup (K := K) (n := 2) rfl (pgs_cons (pg_name (i := 4) sc_next_shares.nd rfl (.inl rfl)) (pgs_cons (pg_name (i := 5) sc_next_shares.nd rfl (.inl rfl)) pgs_nil)))) (fun _ _ _ _ _ => pts_nil) (fun _ _ _ _ _ => (pe_call (ok_fraction (P := P) (w := w) (base := base) T) (hr.mono (by decide)) (by rfl) T.g_fraction T.F_fraction.kp (b_fraction T) .nil passL (pa_cons (pe_op (k_add (K := K)) (pv 4) (pe_op (k_mul (K := K)) (pv 1) (pv 5))) (pa_cons (pv 3) pa_nil))))) pa_nil))))))), ?_⟩
    exact (sn_seq (sn_if (dt_val (dn_op d_eq (dn_call (da_cons (dn_var (i := 0)) (da_cons (dn_var (i := 1)) (da_cons (dn_var (i := 2)) da_nil)))) (dn_tup (da_cons dn_int (da_cons dn_int da_nil))))) (sn_ret dn_non) sn_next) (sn_seq (sn_asg (dn_op d_add (dn_cb d_sum (da_cons (dn_var (i := 0)) da_nil)) (dn_op d_mul (dn_var (i := 1)) (dn_cb d_sum (da_cons (dn_var (i := 2)) da_nil)))) dg_name) (sn_ret (dn_cb d_tuple (da_cons (dn_lc (di_zip (da_cons (dn_var (i := 0)) (da_cons (dn_var (i := 2)) da_nil))) (dc_tup rfl (dcs_cons (dc_name (by decide)) (dcs_cons (dc_name (by decide)) dcs_nil))) dt_yes (dn_call (da_cons (dn_op d_add (dn_var (i := 4)) (dn_op d_mul (dn_var (i := 1)) (dn_var (i := 5)))) (da_cons (dn_var (i := 3)) da_nil)))) da_nil)))))
abbrev N__law_cell_at : List Str := ["_law_script", "_law_k"]
theorem sc__law_cell_at : FnScope N__law_cell_at ["_law_script", "_law_k"] (defScope s__law_cell_at) := ⟨rfl, rfl, rfl, by decide +kernel, rfl, by decide +kernel, by decide +kernel⟩
theorem b__law_cell_at (T : Tx K mg) : Binds K T.fd__law_cell_at ["_law_script", "_law_k"] [] := T.F__law_cell_at.binds fun _ _ _ _ _ _ us hl => match us, hl with | [_, _], _ => rfl
theorem ok__law_cell_at (T : Tx K mg) : FnOk P w K mg base (L2.CX P w) 1 T.f__law_cell_at T.fd__law_cell_at ["_law_script", "_law_k"] (spP ⟨P, w, K, mg, [], none⟩ m__law_cell_at) :=
  okP (N := N__law_cell_at) (fb := d__law_cell_at) T.F__law_cell_at sc__law_cell_at fun cdv A outer s H E hr => by
    have ps : Passes (L2.CX P w) (cxOf (L2.CX P w) P w K mg base N__law_cell_at "_law_cell_at" (defScope s__law_cell_at) T.f__law_cell_at cdv A outer s H E) E := pass_on (takes_of rfl rfl rfl rfl)
    refine ⟨_, (by exact (pss_cons (ps_if (pt_cmpR g_lt (pv 1) (pe_callB (k_len (K := K)) (by rfl) T.z_len bt_len (pa_cons (pv 0) pa_nil)) (nomark _)) (pss_one (ps_ret (pe_ix (k_ix (K := K)) (pv 0) (pv 1) (fun _ _ => rfl)))) pss_nil) (pss_one (ps_ret pe_int)))), ?_⟩
    exact (sn_seq (sn_if (dt_val (dn_op d_lt (dn_var (i := 1)) (dn_cb d_len (da_cons (dn_var (i := 0)) da_nil)))) (sn_ret (dn_op d_ix (dn_var (i := 0)) (dn_var (i := 1)))) sn_next) (sn_ret dn_int))
abbrev N__law_state : List Str := ["_law_script", "_law_k", "_law_cell"]
theorem sc__law_state : FnScope N__law_state ["_law_script", "_law_k"] (defScope s__law_state) := ⟨rfl, rfl, rfl, by decide +kernel, rfl, by decide +kernel, by decide +kernel⟩
theorem b__law_state (T : Tx K mg) : Binds K T.fd__law_state ["_law_script", "_law_k"] [] := T.F__law_state.binds fun _ _ _ _ _ _ us hl => match us, hl with | [_, _], _ => rfl
theorem ok__law_state (T : Tx K mg) : FnOk P w K mg base (L2.CX P w) 2 T.f__law_state T.fd__law_state ["_law_script", "_law_k"] (spP ⟨P, w, K, mg, [], none⟩ m__law_state) :=
  okP (N := N__law_state) (fb := d__law_state) T.F__law_state sc__law_state fun cdv A outer s H E hr => by
    have ps : Passes (L2.CX P w) (cxOf (L2.CX P w) P w K mg base N__law_state "_law_state" (defScope s__law_state) T.f__law_state cdv A outer s H E) E := pass_on (takes_of rfl rfl rfl rfl)
    refine ⟨_, (by exact (pss_cons (ps_set (i := 2) sc__law_state.nd rfl (.inl rfl) (pe_call (ok__law_cell_at (P := P) (w := w) (base := base) T) (hr.mono (by decide)) (by rfl) T.g__law_cell_at T.F__law_cell_at.kp (b__law_cell_at T) .nil ps (pa_cons (pv 0) (pa_cons (pv 1) pa_nil)))) (pss_cons (ps_if (pt_cmpR g_ge (pv 2) (pe_op g_pow pe_int pe_int) (nomark _)) (pss_one (ps_ret (pe_lst (pa_cons (pe_op g_sub (pv 2) (pe_op g_pow pe_int pe_int)) (pa_cons pe_bl pa_nil))))) pss_nil) (pss_one (ps_ret (pe_lst (pa_cons (pe_op g_mod (pv 2) pe_int) (pa_cons pe_bl pa_nil)))))))), ?_⟩
    exact (sn_seq (sn_asg (dn_call (da_cons (dn_var (i := 0)) (da_cons (dn_var (i := 1)) da_nil))) dg_name) (sn_seq (sn_if (dt_val (dn_op d_ge (dn_var (i := 2)) (dn_op d_pow dn_int dn_int))) (sn_ret (dn_lst (da_cons (dn_op d_sub (dn_var (i := 2)) (dn_op d_pow dn_int dn_int)) (da_cons dn_bl da_nil)))) sn_next) (sn_ret (dn_lst (da_cons (dn_op d_mod (dn_var (i := 2)) dn_int) (da_cons dn_bl da_nil))))))
abbrev N__law_take : List Str := ["_law_state_here", "_law_many", "_law_found", "_law_mixed"]
theorem sc__law_take : FnScope N__law_take ["_law_state_here", "_law_many"] (defScope s__law_take) := ⟨rfl, rfl, rfl, by decide +kernel, rfl, by decide +kernel, by decide +kernel⟩
theorem b__law_take (T : Tx K mg) : Binds K T.fd__law_take ["_law_state_here", "_law_many"] [] := T.F__law_take.binds fun _ _ _ _ _ _ us hl => match us, hl with | [_, _], _ => rfl
theorem ok__law_take (T : Tx K mg) : FnOk P w K mg base (L2.CX P w) 1 T.f__law_take T.fd__law_take ["_law_state_here", "_law_many"] (spS ⟨P, w, K, mg, [], none⟩ m__law_take) :=
  okS (N := N__law_take) (fb := d__law_take) T.F__law_take sc__law_take fun cdv A outer s H E hr => by
    have ps : Passes (L2.CX P w) (cxOf (L2.CX P w) P w K mg base N__law_take "_law_take" (defScope s__law_take) T.f__law_take cdv A outer s H E) E := pass_on (takes_of rfl rfl rfl rfl)
    refine ⟨_, (by exact (pss_cons (ps_if (pt_val (pe_ix (k_ix (K := K)) (pv 0) pe_int (fun _ _ => rfl))) (pss_cons (ps_set (i := 2) sc__law_take.nd rfl (.inl rfl) (pe_op g_mod (pe_ix (k_ix (K := K)) (pv 0) pe_int (fun _ _ => rfl)) (pv 1))) (pss_cons (ps_asg (pe_op g_fdiv (pe_ix (k_ix (K := K)) (pv 0) pe_int (fun _ _ => rfl)) (pv 1)) (pg_sub (pv 0) pe_int set_list)) (pss_one (ps_ret (pv 2))))) pss_nil) (pss_cons (ps_asg (pe_op g_mod (pe_op (k_add (K := K)) (pe_op (k_mul (K := K)) (pe_ix (k_ix (K := K)) (pv 0) pe_int (fun _ _ => rfl)) pe_int) pe_int) pe_int) (pg_sub (pv 0) pe_int set_list)) (pss_cons (ps_set (i := 3) sc__law_take.nd rfl (.inl rfl) (pe_op g_mod (pe_op (k_add (K := K)) (pe_op (k_add (K := K)) (pe_op (k_mul (K := K)) (pe_ix (k_ix (K := K)) (pv 0) pe_int (fun _ _ => rfl)) (pe_ix (k_ix (K := K)) (pv 0) pe_int (fun _ _ => rfl))) (pe_op (k_mul (K := K)) pe_int (pe_ix (k_ix (K := K)) (pv 0) pe_int (fun _ _ => rfl)))) pe_int) pe_int)) (pss_cons (ps_set (i := 3) sc__law_take.nd rfl (.inl rfl) (pe_op g_mod (pe_op (k_add (K := K)) (pe_op (k_mul (K := K)) (pv 3) (pv 3)) (pe_op (k_mul (K := K)) pe_int (pv 3))) pe_int)) (pss_one (ps_ret (pe_op g_mod (pe_op g_fdiv (pv 3) pe_int) (pv 1))))))))), ?_⟩
    exact (sn_seq (sn_if (dt_B (dn_op d_ix (dn_var (i := 0)) dn_int)) (sn_seq (sn_asg (dn_op d_mod (dn_op d_ix (dn_var (i := 0)) dn_int) (dn_var (i := 1))) dg_name) (sn_seq (sn_asg (dn_op d_fdiv (dn_op d_ix (dn_var (i := 0)) dn_int) (dn_var (i := 1))) (dg_sub (dn_var (i := 0)) dn_int)) (sn_ret (dn_var (i := 2))))) sn_next) (sn_seq (sn_asg (dn_op d_mod (dn_op d_add (dn_op d_mul (dn_op d_ix (dn_var (i := 0)) dn_int) dn_int) dn_int) dn_int) (dg_sub (dn_var (i := 0)) dn_int)) (sn_seq (sn_asg (dn_op d_mod (dn_op d_add (dn_op d_add (dn_op d_mul (dn_op d_ix (dn_var (i := 0)) dn_int) (dn_op d_ix (dn_var (i := 0)) dn_int)) (dn_op d_mul dn_int (dn_op d_ix (dn_var (i := 0)) dn_int))) dn_int) dn_int) dg_name) (sn_seq (sn_asg (dn_op d_mod (dn_op d_add (dn_op d_mul (dn_var (i := 3)) (dn_var (i := 3))) (dn_op d_mul dn_int (dn_var (i := 3)))) dn_int) dg_name) (sn_ret (dn_op d_mod (dn_op d_fdiv (dn_var (i := 3)) dn_int) (dn_var (i := 1))))))))
abbrev N__law_refused : List Str := ["_law_call", "_law_error", "e", "_law_sorts", "_law_one"]
theorem sc__law_refused : FnScope N__law_refused ["_law_call"] (defScope s__law_refused) := ⟨rfl, rfl, rfl, by decide +kernel, rfl, by decide +kernel, by decide +kernel⟩
theorem b__law_refused (T : Tx K mg) : Binds K T.fd__law_refused ["_law_call"] [] := T.F__law_refused.binds fun _ _ _ _ _ _ us hl => match us, hl with | [_], _ => rfl
theorem ht_NoKind (T : Tx K mg) : ∀ (nm : Str) (b : Bool) (C : Addr), tab_NoKind nm = some b → mg nm = some (.ref C) → ExcC K C ∧ PySem.W.kitOne K (.ref C) (.ref T.c_NoKind) = some b := by
  intro nm b C h hm
  unfold tab_NoKind at h
  split at h
  next e => subst e; cases h; cases hm.symm.trans T.m_NoCounts; exact ⟨T.e_NoCounts, T.i_NoCounts_NoKind⟩
  next =>
  split at h
  next e => subst e; cases h; cases hm.symm.trans T.m_NoNumber; exact ⟨T.e_NoNumber, T.i_NoNumber_NoKind⟩
  next =>
  split at h
  next e => subst e; cases h; cases hm.symm.trans T.m_NoUrn; exact ⟨T.e_NoUrn, T.i_NoUrn_NoKind⟩
  next =>
  cases h
theorem ht_NoRule (T : Tx K mg) : ∀ (nm : Str) (b : Bool) (C : Addr), tab_NoRule nm = some b → mg nm = some (.ref C) → ExcC K C ∧ PySem.W.kitOne K (.ref C) (.ref T.c_NoRule) = some b := by
  intro nm b C h hm
  unfold tab_NoRule at h
  split at h
  next e => subst e; cases h; cases hm.symm.trans T.m_NoCounts; exact ⟨T.e_NoCounts, T.i_NoCounts_NoRule⟩
  next =>
  split at h
  next e => subst e; cases h; cases hm.symm.trans T.m_NoNumber; exact ⟨T.e_NoNumber, T.i_NoNumber_NoRule⟩
  next =>
  split at h
  next e => subst e; cases h; cases hm.symm.trans T.m_NoUrn; exact ⟨T.e_NoUrn, T.i_NoUrn_NoRule⟩
  next =>
  cases h
theorem ht_NoUrn (T : Tx K mg) : ∀ (nm : Str) (b : Bool) (C : Addr), tab_NoUrn nm = some b → mg nm = some (.ref C) → ExcC K C ∧ PySem.W.kitOne K (.ref C) (.ref T.c_NoUrn) = some b := by
  intro nm b C h hm
  unfold tab_NoUrn at h
  split at h
  next e => subst e; cases h; cases hm.symm.trans T.m_NoCounts; exact ⟨T.e_NoCounts, T.i_NoCounts_NoUrn⟩
  next =>
  split at h
  next e => subst e; cases h; cases hm.symm.trans T.m_NoNumber; exact ⟨T.e_NoNumber, T.i_NoNumber_NoUrn⟩
  next =>
  split at h
  next e => subst e; cases h; cases hm.symm.trans T.m_NoUrn; exact ⟨T.e_NoUrn, T.i_NoUrn_NoUrn⟩
  next =>
  cases h
theorem ht_NoNumber (T : Tx K mg) : ∀ (nm : Str) (b : Bool) (C : Addr), tab_NoNumber nm = some b → mg nm = some (.ref C) → ExcC K C ∧ PySem.W.kitOne K (.ref C) (.ref T.c_NoNumber) = some b := by
  intro nm b C h hm
  unfold tab_NoNumber at h
  split at h
  next e => subst e; cases h; cases hm.symm.trans T.m_NoCounts; exact ⟨T.e_NoCounts, T.i_NoCounts_NoNumber⟩
  next =>
  split at h
  next e => subst e; cases h; cases hm.symm.trans T.m_NoNumber; exact ⟨T.e_NoNumber, T.i_NoNumber_NoNumber⟩
  next =>
  split at h
  next e => subst e; cases h; cases hm.symm.trans T.m_NoUrn; exact ⟨T.e_NoUrn, T.i_NoUrn_NoNumber⟩
  next =>
  cases h
theorem ht_NoDraws (T : Tx K mg) : ∀ (nm : Str) (b : Bool) (C : Addr), tab_NoDraws nm = some b → mg nm = some (.ref C) → ExcC K C ∧ PySem.W.kitOne K (.ref C) (.ref T.c_NoDraws) = some b := by
  intro nm b C h hm
  unfold tab_NoDraws at h
  split at h
  next e => subst e; cases h; cases hm.symm.trans T.m_NoCounts; exact ⟨T.e_NoCounts, T.i_NoCounts_NoDraws⟩
  next =>
  split at h
  next e => subst e; cases h; cases hm.symm.trans T.m_NoNumber; exact ⟨T.e_NoNumber, T.i_NoNumber_NoDraws⟩
  next =>
  split at h
  next e => subst e; cases h; cases hm.symm.trans T.m_NoUrn; exact ⟨T.e_NoUrn, T.i_NoUrn_NoDraws⟩
  next =>
  cases h
theorem ht_NoBall (T : Tx K mg) : ∀ (nm : Str) (b : Bool) (C : Addr), tab_NoBall nm = some b → mg nm = some (.ref C) → ExcC K C ∧ PySem.W.kitOne K (.ref C) (.ref T.c_NoBall) = some b := by
  intro nm b C h hm
  unfold tab_NoBall at h
  split at h
  next e => subst e; cases h; cases hm.symm.trans T.m_NoCounts; exact ⟨T.e_NoCounts, T.i_NoCounts_NoBall⟩
  next =>
  split at h
  next e => subst e; cases h; cases hm.symm.trans T.m_NoNumber; exact ⟨T.e_NoNumber, T.i_NoNumber_NoBall⟩
  next =>
  split at h
  next e => subst e; cases h; cases hm.symm.trans T.m_NoUrn; exact ⟨T.e_NoUrn, T.i_NoUrn_NoBall⟩
  next =>
  cases h
theorem ht_NotAlike (T : Tx K mg) : ∀ (nm : Str) (b : Bool) (C : Addr), tab_NotAlike nm = some b → mg nm = some (.ref C) → ExcC K C ∧ PySem.W.kitOne K (.ref C) (.ref T.c_NotAlike) = some b := by
  intro nm b C h hm
  unfold tab_NotAlike at h
  split at h
  next e => subst e; cases h; cases hm.symm.trans T.m_NoCounts; exact ⟨T.e_NoCounts, T.i_NoCounts_NotAlike⟩
  next =>
  split at h
  next e => subst e; cases h; cases hm.symm.trans T.m_NoNumber; exact ⟨T.e_NoNumber, T.i_NoNumber_NotAlike⟩
  next =>
  split at h
  next e => subst e; cases h; cases hm.symm.trans T.m_NoUrn; exact ⟨T.e_NoUrn, T.i_NoUrn_NotAlike⟩
  next =>
  cases h
theorem ht_NoCounts (T : Tx K mg) : ∀ (nm : Str) (b : Bool) (C : Addr), tab_NoCounts nm = some b → mg nm = some (.ref C) → ExcC K C ∧ PySem.W.kitOne K (.ref C) (.ref T.c_NoCounts) = some b := by
  intro nm b C h hm
  unfold tab_NoCounts at h
  split at h
  next e => subst e; cases h; cases hm.symm.trans T.m_NoCounts; exact ⟨T.e_NoCounts, T.i_NoCounts_NoCounts⟩
  next =>
  split at h
  next e => subst e; cases h; cases hm.symm.trans T.m_NoNumber; exact ⟨T.e_NoNumber, T.i_NoNumber_NoCounts⟩
  next =>
  split at h
  next e => subst e; cases h; cases hm.symm.trans T.m_NoUrn; exact ⟨T.e_NoUrn, T.i_NoUrn_NoCounts⟩
  next =>
  cases h
theorem ht_NotEven (T : Tx K mg) : ∀ (nm : Str) (b : Bool) (C : Addr), tab_NotEven nm = some b → mg nm = some (.ref C) → ExcC K C ∧ PySem.W.kitOne K (.ref C) (.ref T.c_NotEven) = some b := by
  intro nm b C h hm
  unfold tab_NotEven at h
  split at h
  next e => subst e; cases h; cases hm.symm.trans T.m_NoCounts; exact ⟨T.e_NoCounts, T.i_NoCounts_NotEven⟩
  next =>
  split at h
  next e => subst e; cases h; cases hm.symm.trans T.m_NoNumber; exact ⟨T.e_NoNumber, T.i_NoNumber_NotEven⟩
  next =>
  split at h
  next e => subst e; cases h; cases hm.symm.trans T.m_NoUrn; exact ⟨T.e_NoUrn, T.i_NoUrn_NotEven⟩
  next =>
  cases h
theorem ht_BadNote (T : Tx K mg) : ∀ (nm : Str) (b : Bool) (C : Addr), tab_BadNote nm = some b → mg nm = some (.ref C) → ExcC K C ∧ PySem.W.kitOne K (.ref C) (.ref T.c_BadNote) = some b := by
  intro nm b C h hm
  unfold tab_BadNote at h
  split at h
  next e => subst e; cases h; cases hm.symm.trans T.m_NoCounts; exact ⟨T.e_NoCounts, T.i_NoCounts_BadNote⟩
  next =>
  split at h
  next e => subst e; cases h; cases hm.symm.trans T.m_NoNumber; exact ⟨T.e_NoNumber, T.i_NoNumber_BadNote⟩
  next =>
  split at h
  next e => subst e; cases h; cases hm.symm.trans T.m_NoUrn; exact ⟨T.e_NoUrn, T.i_NoUrn_BadNote⟩
  next =>
  cases h
theorem ht_ValueError (T : Tx K mg) : ∀ (nm : Str) (b : Bool) (C : Addr), tab_ValueError nm = some b → mg nm = some (.ref C) → ExcC K C ∧ PySem.W.kitOne K (.ref C) (.type "ValueError") = some b := by
  intro nm b C h hm
  unfold tab_ValueError at h
  split at h
  next e => subst e; cases h; cases hm.symm.trans T.m_NoCounts; exact ⟨T.e_NoCounts, T.i_NoCounts_ValueError⟩
  next =>
  split at h
  next e => subst e; cases h; cases hm.symm.trans T.m_NoNumber; exact ⟨T.e_NoNumber, T.i_NoNumber_ValueError⟩
  next =>
  split at h
  next e => subst e; cases h; cases hm.symm.trans T.m_NoUrn; exact ⟨T.e_NoUrn, T.i_NoUrn_ValueError⟩
  next =>
  cases h
theorem val_NoCounts : refR 5 2 (asgS (vE 2) (tgN 1)) fR_ref "NoCounts" = some (.int 7) := by rfl
theorem val_NoNumber : refR 5 2 (asgS (vE 2) (tgN 1)) fR_ref "NoNumber" = some (.int 5) := by rfl
theorem val_NoUrn : refR 5 2 (asgS (vE 2) (tgN 1)) fR_ref "NoUrn" = some (.int 0) := by rfl
theorem hans0_ref : ∀ nm : Str, (ans_ref nm).isSome = true → refR 5 2 (asgS (vE 2) (tgN 1)) fR_ref nm = ans_ref nm := by
  intro nm h
  unfold ans_ref at h ⊢
  by_cases e0 : nm = "NoCounts"
  · subst e0; exact val_NoCounts.trans rfl
  rw [if_neg e0] at h ⊢
  by_cases e1 : nm = "NoNumber"
  · subst e1; exact val_NoNumber.trans rfl
  rw [if_neg e1] at h ⊢
  by_cases e2 : nm = "NoUrn"
  · subst e2; exact val_NoUrn.trans rfl
  rw [if_neg e2] at h ⊢
  cases h
theorem hx_ref (T : Tx K mg) : ∀ (nm : Str) (C : Addr), (ans_ref nm).isSome = true → mg nm = some (.ref C) → PySem.W.exmOne K (.ref C) (.ref T.c_UrnError) = some true := by
  intro nm C h hm
  unfold ans_ref at h
  split at h
  next e => subst e; cases hm.symm.trans T.m_NoCounts; exact PySem.W.exm_ref T.b_UrnError T.hd_UrnError T.ty_UrnError T.u_NoCounts
  next =>
  split at h
  next e => subst e; cases hm.symm.trans T.m_NoNumber; exact PySem.W.exm_ref T.b_UrnError T.hd_UrnError T.ty_UrnError T.u_NoNumber
  next =>
  split at h
  next e => subst e; cases hm.symm.trans T.m_NoUrn; exact PySem.W.exm_ref T.b_UrnError T.hd_UrnError T.ty_UrnError T.u_NoUrn
  next =>
  cases h
theorem hans_ref {c : CT} (T : Tx K mg) : ∀ (nm : Str) (dd : D) (u : Value), ans_ref nm = some dd → mg nm = some u → (∃ C, u = .ref C) ∧ (∃ v, atomV dd = some v) ∧ ∀ (H : Hp) (v : V), atomV dd = some v → Rp c H v dd := by
  intro nm dd u h hm
  unfold ans_ref at h
  split at h
  next e => subst e; cases h; cases hm.symm.trans T.m_NoCounts; exact ⟨⟨_, rfl⟩, ⟨_, rfl⟩, fun H v => atom_rp⟩
  next =>
  split at h
  next e => subst e; cases h; cases hm.symm.trans T.m_NoNumber; exact ⟨⟨_, rfl⟩, ⟨_, rfl⟩, fun H v => atom_rp⟩
  next =>
  split at h
  next e => subst e; cases h; cases hm.symm.trans T.m_NoUrn; exact ⟨⟨_, rfl⟩, ⟨_, rfl⟩, fun H v => atom_rp⟩
  next =>
  cases h
theorem rest_ref (T : Tx K mg) (A : Around) (stack : List Env) (cdv : Value) (s : Shared) (H : Hp) {k : Nat} (hr : Room k (A.deeper (envOfC "_law_refused" (defScope s__law_refused) s.heap.objs.size T.f__law_refused cdv))) (a C : Addr) :
    ∃ t, (∀ (oe : Obj) (pn : List (Addr × Obj)), Zc (.ref C) none oe → (∃ vs, oe.data = .fields vs) → PSs (((cxOf C8.CX0 P w K mg base N__law_refused "_law_refused" (defScope s__law_refused) T.f__law_refused cdv A stack s H C8.E0).nox).tr ((a, oe) :: pn) ((cxOf C8.CX0 P w K mg base N__law_refused "_law_refused" (defScope s__law_refused) T.f__law_refused cdv A stack s H C8.E0).nox).xe) ((defBody s__law_refused).tail.tail) t) ∧ Sn ⟨P, w, K, mg, [], some (a, C)⟩ C8.E0 t fR_ref := by
  apply Exists.intro
  apply And.intro
  · intro oe pn hz hf
    exact (pss_cons (ps_if (pt_cmpR g_is (pv 1) pe_non (nomark _)) (pss_one (ps_ret pe_non)) pss_nil) (pss_cons (ps_set (i := 3) sc__law_refused.nd rfl (.inl rfl) (pe_lst (pa_cons (pe_callB (call_isK (K := K) (by exact List.mem_cons_self) hz hf) (by rfl) T.z_isinstance bt_isinstance (pa_cons (pv 1) (pa_cons (pe_glob (v := .ref T.c_NoUrn) (by rfl) T.m_NoUrn rfl) pa_nil))) (pa_cons (pe_callB (call_isK (K := K) (by exact List.mem_cons_self) hz hf) (by rfl) T.z_isinstance bt_isinstance (pa_cons (pv 1) (pa_cons (pe_glob (v := .ref T.c_NoRule) (by rfl) T.m_NoRule rfl) pa_nil))) (pa_cons (pe_callB (call_isK (K := K) (by exact List.mem_cons_self) hz hf) (by rfl) T.z_isinstance bt_isinstance (pa_cons (pv 1) (pa_cons (pe_glob (v := .ref T.c_NoKind) (by rfl) T.m_NoKind rfl) pa_nil))) pa_nil))))) (pss_cons (ps_set (i := 3) sc__law_refused.nd rfl (.inl rfl) (pe_op (k_add (K := K)) (pv 3) (pe_lst (pa_cons (pe_callB (call_isK (K := K) (by exact List.mem_cons_self) hz hf) (by rfl) T.z_isinstance bt_isinstance (pa_cons (pv 1) (pa_cons (pe_glob (v := .ref T.c_NoBall) (by rfl) T.m_NoBall rfl) pa_nil))) (pa_cons (pe_callB (call_isK (K := K) (by exact List.mem_cons_self) hz hf) (by rfl) T.z_isinstance bt_isinstance (pa_cons (pv 1) (pa_cons (pe_glob (v := .ref T.c_NoDraws) (by rfl) T.m_NoDraws rfl) pa_nil))) (pa_cons (pe_callB (call_isK (K := K) (by exact List.mem_cons_self) hz hf) (by rfl) T.z_isinstance bt_isinstance (pa_cons (pv 1) (pa_cons (pe_glob (v := .ref T.c_NoNumber) (by rfl) T.m_NoNumber rfl) pa_nil))) pa_nil)))))) (pss_cons (ps_set (i := 3) sc__law_refused.nd rfl (.inl rfl) (pe_op (k_add (K := K)) (pv 3) (pe_lst (pa_cons (pe_callB (call_isK (K := K) (by exact List.mem_cons_self) hz hf) (by rfl) T.z_isinstance bt_isinstance (pa_cons (pv 1) (pa_cons (pe_glob (v := .ref T.c_NotEven) (by rfl) T.m_NotEven rfl) pa_nil))) (pa_cons (pe_callB (call_isK (K := K) (by exact List.mem_cons_self) hz hf) (by rfl) T.z_isinstance bt_isinstance (pa_cons (pv 1) (pa_cons (pe_glob (v := .ref T.c_NoCounts) (by rfl) T.m_NoCounts rfl) pa_nil))) (pa_cons (pe_callB (call_isK (K := K) (by exact List.mem_cons_self) hz hf) (by rfl) T.z_isinstance bt_isinstance (pa_cons (pv 1) (pa_cons (pe_glob (v := .ref T.c_NotAlike) (by rfl) T.m_NotAlike rfl) pa_nil))) pa_nil)))))) (pss_cons (ps_expr (kpe_bm (K := K) PySem.F.plainAttrs_list PySem.F.slot_list_append PySem.F.type_list_append mt_append (pv 3) (pa_cons (pe_callB (call_isK (K := K) (by exact List.mem_cons_self) hz hf) (by rfl) T.z_isinstance bt_isinstance (pa_cons (pv 1) (pa_cons (pe_glob (v := .ref T.c_BadNote) (by rfl) T.m_BadNote rfl) pa_nil))) pa_nil))) (pss_cons (ps_if (PW.pt (pw_or (pt_not (pt_val (pe_callB (call_isK (K := K) (by exact List.mem_cons_self) hz hf) (by rfl) T.z_isinstance bt_isinstance (pa_cons (pv 1) (pa_cons (pe_bltn (v := .ty "ValueError") (by rfl) T.z_ValueError bt_ValueError rfl) pa_nil))))) (pw_or1 (pt_cmpR (k_ne (K := K) hr.units) (pe_callB (k_sum (K := K) rfl) (by rfl) T.z_sum bt_sum (pa_cons (pe_lc (own := [("_law_one", 4)]) rfl sc__law_refused.nd (kpi_any (K := K) (pv 3)) (blkOk_by (N := N__law_refused) (sc := (defScope s__law_refused)) (by decide +kernel)) (fun _ _ _ _ _ => (pg_name (i := 4) sc__law_refused.nd rfl (.inl rfl))) (fun _ _ _ _ _ => pts_nil) (fun _ _ _ _ _ => (pe_callTy g_int (by rfl) T.z_int bt_int (pa_cons (pv 4) pa_nil)))) pa_nil)) pe_int (nomark _))))) (pss_one (ps_ret (pe_un g_neg pe_int))) pss_nil) (pss_one (ps_ret (kpe_bm (K := K) PySem.F.plainAttrs_list PySem.F.slot_list_index PySem.F.type_list_index (k_index (K := K) (hu65 hr)) (pv 3) (pa_cons pe_bl pa_nil))))))))))
  · exact (sn_seq (sn_if (dt_val (dn_op d_is (dn_var (i := 1)) dn_non)) (sn_ret dn_non) sn_next) (sn_seq (sn_asg (dn_lst (da_cons (dn_isx (tab := tab_NoUrn) rfl (fun _ h => h) (ht_NoUrn T) (dn_var (i := 1))) (da_cons (dn_isx (tab := tab_NoRule) rfl (fun _ h => h) (ht_NoRule T) (dn_var (i := 1))) (da_cons (dn_isx (tab := tab_NoKind) rfl (fun _ h => h) (ht_NoKind T) (dn_var (i := 1))) da_nil)))) dg_own) (sn_seq (sn_asg (dn_op d_add (dn_var (i := 3)) (dn_lst (da_cons (dn_isx (tab := tab_NoBall) rfl (fun _ h => h) (ht_NoBall T) (dn_var (i := 1))) (da_cons (dn_isx (tab := tab_NoDraws) rfl (fun _ h => h) (ht_NoDraws T) (dn_var (i := 1))) (da_cons (dn_isx (tab := tab_NoNumber) rfl (fun _ h => h) (ht_NoNumber T) (dn_var (i := 1))) da_nil))))) dg_own) (sn_seq (sn_asg (dn_op d_add (dn_var (i := 3)) (dn_lst (da_cons (dn_isx (tab := tab_NotEven) rfl (fun _ h => h) (ht_NotEven T) (dn_var (i := 1))) (da_cons (dn_isx (tab := tab_NoCounts) rfl (fun _ h => h) (ht_NoCounts T) (dn_var (i := 1))) (da_cons (dn_isx (tab := tab_NotAlike) rfl (fun _ h => h) (ht_NotAlike T) (dn_var (i := 1))) da_nil))))) dg_own) (sn_seq (sn_app (dn_var (i := 3)) (dn_isx (tab := tab_BadNote) rfl (fun _ h => h) (ht_BadNote T) (dn_var (i := 1)))) (sn_seq (sn_frz 3 (sn_if (dt_or (dt_not (dt_B (dn_isx (tab := tab_ValueError) rfl (fun _ h => h) (ht_ValueError T) (dn_var (i := 1))))) (dt_val (dn_op d_ne (dn_cb d_sum (da_cons (dn_lc (di_any (dn_var (i := 3))) (dc_name (by decide)) dt_yes (dn_cb d_int (da_cons (dn_var (i := 4)) da_nil))) da_nil)) dn_int))) (sn_ret (dn_un d_neg dn_int)) sn_next)) (sn_ret (dn_me ty_list d_index (dn_var (i := 3)) (da_cons dn_bl da_nil)))))))))
theorem gives_ref {X : Cx} (T : Tx X.K X.mg) (q : Str) (hr0 : Room 2 X.A) (cdv : Value) : LamX.GivesTo X N__law_refused "_law_refused" (defScope s__law_refused) T.f__law_refused cdv (defBody s__law_refused) "_law_call" q (TTr X.mg ans_ref) := by
  intro f z s H Q tl act hz h
  have hr : Room 1 (X.A.deeper (envOfC "_law_refused" (defScope s__law_refused) s.heap.objs.size T.f__law_refused cdv)) := hr0.deeper _
  have R := fun a C => rest_ref (P := X.prog) (w := X.w) (base := X.base) T X.A X.stack cdv s H hr a C
  let tr : Addr → Value → Option Addr → TS := fun a cls d => match cls, d with
    | .ref C, none => Classical.choose (R a C)
    | _, _ => fun _ _ _ => False
  refine ⟨_, pss_cons (ps_set (i := 1) sc__law_refused.nd rfl (.inl rfl) pe_non) (pss_try_keep (X := (cxOf C8.CX0 X.prog X.w X.K X.mg X.base N__law_refused "_law_refused" (defScope s__law_refused) T.f__law_refused cdv X.A X.stack s H C8.E0).nox) (n := "e") (i := 2) (c := .ref T.c_UrnError) (tr := tr) rfl rfl sc__law_refused.nd rfl rfl ⟨by rfl, by decide, .inl T.m_UrnError⟩ (fun W pn xe tk _ => try_body (n := 5) rfl tk fun W E p1 p2 tk hW => act W pn xe E p1 p2 tk hW) (fun a oe cls d pn _ _ => pss_one (ps_set (i := 1) sc__law_refused.nd rfl (.inl rfl) (pv 2))) (fun a oe cls d pn h1 h2 => ?_) (pss_cons (ps_if (pt_cmpR g_is (pv 1) pe_non (nomark _)) (pss_one (ps_ret pe_non)) pss_nil) pss_false)), ?_⟩
  · match cls, d, h1 with
    | .ref C, none, h1 => exact (Classical.choose_spec (R a C)).1 oe pn h1 h2
    | .ref C, some _, _ => exact pss_false
    | .none, _, _ => exact pss_false
    | .ellipsis, _, _ => exact pss_false
    | .notImplemented, _, _ => exact pss_false
    | .bool _, _, _ => exact pss_false
    | .int _ _, _, _ => exact pss_false
    | .float _ _, _, _ => exact pss_false
    | .str _ _, _, _ => exact pss_false
    | .bytes _ _, _, _ => exact pss_false
    | .builtin _, _, _ => exact pss_false
    | .type _, _, _ => exact pss_false
  · exact ref_read (P := X.prog) (w := X.w) (K := X.K) (mg := X.mg) (E := C8.E0) (f0 := seqS (ifS (tB' (op2 isD (vE 1) (cE .none))) (retS (cE .none)) nextS) neverS) (σ := (L2.start N__law_refused [.ref f]).set 1 (some .non)) rfl rfl rfl hz (hx_ref T) hans0_ref (fun a C => sn_asg dn_var dg_name) (fun a C => (Classical.choose_spec (R a C)).2) (sn_seq (sn_if (dt_val (dn_op d_is (dn_var (i := 1)) dn_non)) (sn_ret dn_non) sn_next) sn_false) ⟨_, rfl⟩ (by decide) (by decide) h
abbrev N__law_urn : List Str := ["_law_state_here", "_law_kinds", "_law_most", "_law_found", "_law_kind"]
theorem sc__law_urn : FnScope N__law_urn ["_law_state_here", "_law_kinds"] (defScope s__law_urn) := ⟨rfl, rfl, rfl, by decide +kernel, rfl, by decide +kernel, by decide +kernel⟩
theorem b__law_urn (T : Tx K mg) : Binds K T.fd__law_urn ["_law_state_here", "_law_kinds"] [] := T.F__law_urn.binds fun _ _ _ _ _ _ us hl => match us, hl with | [_, _], _ => rfl
theorem ok__law_urn (T : Tx K mg) : FnOk P w K mg base (L2.CX P w) 2 T.f__law_urn T.fd__law_urn ["_law_state_here", "_law_kinds"] (spS ⟨P, w, K, mg, [], none⟩ m__law_urn) :=
  okS (N := N__law_urn) (fb := d__law_urn) T.F__law_urn sc__law_urn fun cdv A outer s H E hr => by
    have ps : Passes (L2.CX P w) (cxOf (L2.CX P w) P w K mg base N__law_urn "_law_urn" (defScope s__law_urn) T.f__law_urn cdv A outer s H E) E := pass_on (takes_of rfl rfl rfl rfl)
    refine ⟨_, (by exact (pss_cons (ps_set (i := 2) sc__law_urn.nd rfl (.inr rfl) (pe_ix (k_ix (K := K)) (pe_lst (pa_cons pe_int (pa_cons pe_int (pa_cons pe_int pa_nil)))) (pe_call (ok__law_take (P := P) (w := w) (base := base) T) (hr.mono (by decide)) (by rfl) T.g__law_take T.F__law_take.kp (b__law_take T) .nil ps (pa_cons (pv 0) (pa_cons pe_int pa_nil))) (fun _ _ => rfl))) (pss_cons (ps_setLc (own := [("_law_kind", 4)]) (i := 3) rfl sc__law_urn.nd rfl rfl (sw_true rfl rfl rfl (by decide +kernel)) (pi_range1 (by rfl) T.z_range (pa_cons (pv 1) pa_nil)) (blkOk_by (N := N__law_urn) (sc := (defScope s__law_urn)) (by decide +kernel)) (fun _ _ _ _ _ => (pg_name (i := 4) sc__law_urn.nd rfl (.inl rfl))) (fun _ _ _ _ _ => pts_nil) (fun _ _ _ _ _ => (pe_call (ok__law_take (P := P) (w := w) (base := base) T) (hr.mono (by decide)) (by rfl) T.g__law_take T.F__law_take.kp (b__law_take T) .nil passL (pa_cons (pv 0) (pa_cons (pv 2) pa_nil))))) (pss_cons (ps_if (pt_cmpR (k_eq (K := K) hr.units) (pe_callB (k_sum (K := K) rfl) (by rfl) T.z_sum bt_sum (pa_cons (pv 3) pa_nil)) pe_int (nomark _)) (pss_one (ps_asg (pe_op (k_add (K := K)) pe_int (pe_call (ok__law_take (P := P) (w := w) (base := base) T) (hr.mono (by decide)) (by rfl) T.g__law_take T.F__law_take.kp (b__law_take T) .nil ps (pa_cons (pv 0) (pa_cons pe_int pa_nil)))) (pg_sub (pv 3) (pe_call (ok__law_take (P := P) (w := w) (base := base) T) (hr.mono (by decide)) (by rfl) T.g__law_take T.F__law_take.kp (b__law_take T) .nil passL (pa_cons (pv 0) (pa_cons (pv 1) pa_nil))) set_list))) pss_nil) (pss_one (ps_ret (pe_callTy (k_tuple (K := K)) (by rfl) T.z_tuple bt_tuple (pa_cons (pv 3) pa_nil)))))))), ?_⟩
    exact (sn_seq (sn_asg (dn_op d_ix (dn_lst (da_cons dn_int (da_cons dn_int (da_cons dn_int da_nil)))) (dn_callS (da_cons (dn_var (i := 0)) (da_cons dn_int da_nil)))) dg_name) (sn_seq (sn_asg (dn_lc (di_rng1 (da_cons (dn_var (i := 1)) da_nil) (aC_len aN_len)) (dc_name (by decide)) dt_yes (dn_callS (da_cons (dn_var (i := 0)) (da_cons (dn_var (i := 2)) da_nil)))) dg_own) (sn_seq (sn_if (dt_val (dn_op d_eq (dn_cb d_sum (da_cons (dn_var (i := 3)) da_nil)) dn_int)) (sn_asg (dn_op d_add dn_int (dn_callS (da_cons (dn_var (i := 0)) (da_cons dn_int da_nil)))) (dg_sub (dn_var (i := 3)) (dn_callS (da_cons (dn_var (i := 0)) (da_cons (dn_var (i := 1)) da_nil))))) sn_next) (sn_ret (dn_cb d_tuple (da_cons (dn_var (i := 3)) da_nil))))))
abbrev N__law_cut : List Str := ["_law_top", "_law_bottom", "_law_one", "_law_other"]
theorem sc__law_cut : FnScope N__law_cut ["_law_top", "_law_bottom"] (defScope s__law_cut) := ⟨rfl, rfl, rfl, by decide +kernel, rfl, by decide +kernel, by decide +kernel⟩
theorem b__law_cut (T : Tx K mg) : Binds K T.fd__law_cut ["_law_top", "_law_bottom"] [] := T.F__law_cut.binds fun _ _ _ _ _ _ us hl => match us, hl with | [_, _], _ => rfl
theorem ok__law_cut (T : Tx K mg) : FnOk P w K mg base (L2.CX P w) 1 T.f__law_cut T.fd__law_cut ["_law_top", "_law_bottom"] (spP ⟨P, w, K, mg, [], none⟩ m__law_cut) :=
  okP (N := N__law_cut) (fb := d__law_cut) T.F__law_cut sc__law_cut fun cdv A outer s H E hr => by
    have ps : Passes (L2.CX P w) (cxOf (L2.CX P w) P w K mg base N__law_cut "_law_cut" (defScope s__law_cut) T.f__law_cut cdv A outer s H E) E := pass_on (takes_of rfl rfl rfl rfl)
    refine ⟨_, (by exact (pss_cons (ps_par (i := 2) (j := 3) rfl sc__law_cut.nd rfl rfl (by decide) rfl rfl (pa_cons (pe_callB g_abs (by rfl) T.z_abs bt_abs (pa_cons (pv 0) pa_nil)) (pa_cons (pv 1) pa_nil)) (by rfl)) (pss_cons (ps_while (passes_of rfl) (pt_cmpR g_gt (pv 3) pe_int (nomark _)) (pss_one (ps_par (i := 2) (j := 3) rfl sc__law_cut.nd rfl rfl (by decide) rfl rfl (pa_cons (pv 3) (pa_cons (pe_op g_mod (pv 2) (pv 3)) pa_nil)) (by rfl)))) (pss_one (ps_ret (pe_tup (pa_cons (pe_op g_fdiv (pv 0) (pv 2)) (pa_cons (pe_op g_fdiv (pv 1) (pv 2)) pa_nil)))))))), ?_⟩
    exact (sn_seq (sn_par (da_cons (dn_cb d_abs (da_cons (dn_var (i := 0)) da_nil)) (da_cons (dn_var (i := 1)) da_nil))) (sn_seq (sn_while fu__law_cut (dt_val (dn_op d_gt (dn_var (i := 3)) dn_int)) (sn_par (da_cons (dn_var (i := 3)) (da_cons (dn_op d_mod (dn_var (i := 2)) (dn_var (i := 3))) da_nil)))) (sn_ret (dn_tup (da_cons (dn_op d_fdiv (dn_var (i := 0)) (dn_var (i := 2))) (da_cons (dn_op d_fdiv (dn_var (i := 1)) (dn_var (i := 2))) da_nil))))))
abbrev N__law_whole : List Str := ["_law_thing", "_law_least", "_law_most"]
theorem sc__law_whole : FnScope N__law_whole ["_law_thing", "_law_least", "_law_most"] (defScope s__law_whole) := ⟨rfl, rfl, rfl, by decide +kernel, rfl, by decide +kernel, by decide +kernel⟩
theorem b__law_whole (T : Tx K mg) : Binds K T.fd__law_whole ["_law_thing", "_law_least", "_law_most"] [] := T.F__law_whole.binds fun _ _ _ _ _ _ us hl => match us, hl with | [_, _, _], _ => rfl
theorem ok__law_whole (T : Tx K mg) : FnOk P w K mg base (L2.CX P w) 1 T.f__law_whole T.fd__law_whole ["_law_thing", "_law_least", "_law_most"] (spP ⟨P, w, K, mg, [], none⟩ m__law_whole) :=
  okP (N := N__law_whole) (fb := d__law_whole) T.F__law_whole sc__law_whole fun cdv A outer s H E hr => by
    have ps : Passes (L2.CX P w) (cxOf (L2.CX P w) P w K mg base N__law_whole "_law_whole" (defScope s__law_whole) T.f__law_whole cdv A outer s H E) E := pass_on (takes_of rfl rfl rfl rfl)
    refine ⟨_, (by exact (pss_one (ps_ret (pe_and (pe_callB (k_isi (K := K)) (by rfl) T.z_isinstance bt_isinstance (pa_cons (pv 0) (pa_cons (pe_bltn (v := .ty "int") (by rfl) T.z_int bt_int rfl) pa_nil))) (pe_and (pe_not (pe_callB (k_isi (K := K)) (by rfl) T.z_isinstance bt_isinstance (pa_cons (pv 0) (pa_cons (pe_bltn (v := .ty "bool") (by rfl) T.z_bool bt_bool rfl) pa_nil)))) (pe_one (pe_chain g_le g_le (pv 1) (pv 0) (pv 2)))))))), ?_⟩
    exact (sn_ret (dn_andV (dn_isi (T := "int") (by decide) (dn_var (i := 0))) (dn_andV (dn_notV (dn_isi (T := "bool") (by decide) (dn_var (i := 0)))) (dn_chain d_le d_le (dn_var (i := 1)) (dn_var (i := 0)) (dn_var (i := 2))))))
abbrev N__law_is_urn : List Str := ["_law_thing", "_law_many"]
theorem sc__law_is_urn : FnScope N__law_is_urn ["_law_thing"] (defScope s__law_is_urn) := ⟨rfl, rfl, rfl, by decide +kernel, rfl, by decide +kernel, by decide +kernel⟩
theorem b__law_is_urn (T : Tx K mg) : Binds K T.fd__law_is_urn ["_law_thing"] [] := T.F__law_is_urn.binds fun _ _ _ _ _ _ us hl => match us, hl with | [_], _ => rfl
theorem ok__law_is_urn (T : Tx K mg) : FnOk P w K mg base (L2.CX P w) 2 T.f__law_is_urn T.fd__law_is_urn ["_law_thing"] (spP ⟨P, w, K, mg, [], none⟩ m__law_is_urn) :=
  okP (N := N__law_is_urn) (fb := d__law_is_urn) T.F__law_is_urn sc__law_is_urn fun cdv A outer s H E hr => by
    have ps : Passes (L2.CX P w) (cxOf (L2.CX P w) P w K mg base N__law_is_urn "_law_is_urn" (defScope s__law_is_urn) T.f__law_is_urn cdv A outer s H E) E := pass_on (takes_of rfl rfl rfl rfl)
    refine ⟨_, (by exact (pss_cons (ps_if (PW.pt (pw_or (pt_not (pt_val (pe_callB (k_isi (K := K)) (by rfl) T.z_isinstance bt_isinstance (pa_cons (pv 0) (pa_cons (pe_bltn (v := .ty "tuple") (by rfl) T.z_tuple bt_tuple rfl) pa_nil))))) (pw_or1 (pt_not (pt_chain g_le g_le pe_int (pe_callB (k_len (K := K)) (by rfl) T.z_len bt_len (pa_cons (pv 0) pa_nil)) pe_int))))) (pss_one (ps_ret pe_bl)) pss_nil) (pss_cons (ps_for (passes_of rfl) rfl (kpi_any (K := K) (pv 0)) (pg_name (i := 1) sc__law_is_urn.nd rfl (.inl rfl)) (pss_one (ps_if (pt_not (pt_val (pe_call (ok__law_whole (P := P) (w := w) (base := base) T) (hr.mono (by decide)) (by rfl) T.g__law_whole T.F__law_whole.kp (b__law_whole T) .nil ps (pa_cons (pv 1) (pa_cons pe_int (pa_cons pe_int pa_nil)))))) (pss_one (ps_ret pe_bl)) pss_nil))) (pss_one (ps_ret (pe_cmpR g_gt (pe_callB (k_max (K := K) rfl) (by rfl) T.z_max bt_max (pa_cons (pv 0) pa_nil)) pe_int (nomark _))))))), ?_⟩
    exact (sn_seq (sn_if (dt_or (dt_not (dt_B (dn_isi (T := "tuple") (by decide) (dn_var (i := 0))))) (dt_not (dt_val (dn_chain d_le d_le dn_int (dn_cb d_len (da_cons (dn_var (i := 0)) da_nil)) dn_int)))) (sn_ret dn_bl) sn_next) (sn_seq (sn_for (di_any (dn_var (i := 0))) dg_name (sn_if (dt_not (dt_B (dn_call (da_cons (dn_var (i := 1)) (da_cons dn_int (da_cons dn_int da_nil)))))) (sn_ret dn_bl) sn_next)) (sn_ret (dn_op d_gt (dn_cb d_max (da_cons (dn_var (i := 0)) da_nil)) dn_int))))
abbrev N__law_bent_urn : List Str := ["_law_state_here", "_law_urn_here", "_law_at", "_law_odd", "_law_some"]
theorem sc__law_bent_urn : FnScope N__law_bent_urn ["_law_state_here", "_law_urn_here"] (defScope s__law_bent_urn) := ⟨rfl, rfl, rfl, by decide +kernel, rfl, by decide +kernel, by decide +kernel⟩
theorem b__law_bent_urn (T : Tx K mg) : Binds K T.fd__law_bent_urn ["_law_state_here", "_law_urn_here"] [] := T.F__law_bent_urn.binds fun _ _ _ _ _ _ us hl => match us, hl with | [_, _], _ => rfl
theorem ok__law_bent_urn (T : Tx K mg) : FnOk P w K mg base (L2.CX P w) 2 T.f__law_bent_urn T.fd__law_bent_urn ["_law_state_here", "_law_urn_here"] (spS ⟨P, w, K, mg, [], none⟩ m__law_bent_urn) :=
  okS (N := N__law_bent_urn) (fb := d__law_bent_urn) T.F__law_bent_urn sc__law_bent_urn fun cdv A outer s H E hr => by
    have ps : Passes (L2.CX P w) (cxOf (L2.CX P w) P w K mg base N__law_bent_urn "_law_bent_urn" (defScope s__law_bent_urn) T.f__law_bent_urn cdv A outer s H E) E := pass_on (takes_of rfl rfl rfl rfl)
    refine ⟨_, (by exact (pss_cons (ps_set (i := 2) sc__law_bent_urn.nd rfl (.inl rfl) (pe_call (ok__law_take (P := P) (w := w) (base := base) T) (hr.mono (by decide)) (by rfl) T.g__law_take T.F__law_take.kp (b__law_take T) .nil ps (pa_cons (pv 0) (pa_cons (pe_op (k_add (K := K)) (pe_callB (k_len (K := K)) (by rfl) T.z_len bt_len (pa_cons (pv 1) pa_nil)) pe_int) pa_nil)))) (pss_cons (ps_set (i := 3) sc__law_bent_urn.nd rfl (.inl rfl) (pe_ix (k_ix (K := K)) (pe_lst (pa_cons pe_int (pa_cons (pe_un g_neg pe_int) (pa_cons pe_bl (pa_cons pe_bl (pa_cons pe_non (pa_cons pe_str (pa_cons (pe_tup (pa_cons pe_int pa_nil)) (pa_cons (pe_op g_pow pe_int pe_int) (pa_cons pe_int (pa_cons pe_int pa_nil))))))))))) (pe_call (ok__law_take (P := P) (w := w) (base := base) T) (hr.mono (by decide)) (by rfl) T.g__law_take T.F__law_take.kp (b__law_take T) .nil ps (pa_cons (pv 0) (pa_cons pe_int pa_nil))) (fun _ _ => rfl))) (pss_cons (ps_set (i := 4) sc__law_bent_urn.nd rfl (.inl rfl) (pe_lst (pa_cons (pe_op (k_add (K := K)) (pe_op (k_add (K := K)) (pe_slice (k_sl (K := K)) (pv 1) po_none (po_some (pv 2))) (pe_tup (pa_cons (pv 3) pa_nil))) (pe_slice (k_sl (K := K)) (pv 1) (po_some (pe_op (k_add (K := K)) (pv 2) pe_int)) po_none)) (pa_cons (pe_op (k_add (K := K)) (pe_op (k_add (K := K)) (pe_slice (k_sl (K := K)) (pv 1) po_none (po_some (pv 2))) (pe_tup (pa_cons (pv 3) pa_nil))) (pe_slice (k_sl (K := K)) (pv 1) (po_some (pv 2)) po_none)) (pa_cons (pe_op (k_add (K := K)) (pe_slice (k_sl (K := K)) (pv 1) po_none (po_some (pv 2))) (pe_slice (k_sl (K := K)) (pv 1) (po_some (pe_op (k_add (K := K)) (pv 2) pe_int)) po_none)) (pa_cons (pe_callTy (k_list (K := K)) (by rfl) T.z_list bt_list (pa_cons (pv 1) pa_nil)) pa_nil)))))) (pss_cons (ps_set (i := 4) sc__law_bent_urn.nd rfl (.inl rfl) (pe_op (k_add (K := K)) (pv 4) (pe_lst (pa_cons (pe_op (k_mul (K := K)) (pe_tup (pa_cons pe_int pa_nil)) (pe_callB (k_len (K := K)) (by rfl) T.z_len bt_len (pa_cons (pv 1) pa_nil))) (pa_cons pe_non (pa_cons pe_dnewK (pa_cons (pe_lst (pa_cons (pv 3) pa_nil)) (pa_cons (pe_tup (pa_cons (pv 1) pa_nil)) (pa_cons (pe_op (k_add (K := K)) (pe_op (k_add (K := K)) (pv 1) (pv 1)) (pe_tup (pa_cons pe_int pa_nil))) pa_nil))))))))) (pss_one (ps_ret (pe_ix (k_ix (K := K)) (pv 4) (pe_ix (k_ix (K := K)) (pe_lst (pa_cons pe_int (pa_cons pe_int (pa_cons pe_int (pa_cons pe_int (pa_cons pe_int (pa_cons pe_int (pa_cons pe_int (pa_cons pe_int (pa_cons pe_int (pa_cons pe_int (pa_cons pe_int (pa_cons pe_int (pa_cons pe_int pa_nil)))))))))))))) (pe_call (ok__law_take (P := P) (w := w) (base := base) T) (hr.mono (by decide)) (by rfl) T.g__law_take T.F__law_take.kp (b__law_take T) .nil ps (pa_cons (pv 0) (pa_cons pe_int pa_nil))) (fun _ _ => rfl)) (fun _ _ => rfl))))))))), ?_⟩
    exact (sn_seq (sn_asg (dn_callS (da_cons (dn_var (i := 0)) (da_cons (dn_op d_add (dn_cb d_len (da_cons (dn_var (i := 1)) da_nil)) dn_int) da_nil))) dg_name) (sn_seq (sn_asg (dn_op d_ix (dn_lst (da_cons dn_int (da_cons (dn_un d_neg dn_int) (da_cons dn_bl (da_cons dn_bl (da_cons dn_non (da_cons dn_str (da_cons (dn_tup (da_cons dn_int da_nil)) (da_cons (dn_op d_pow dn_int dn_int) (da_cons dn_int (da_cons dn_int da_nil))))))))))) (dn_callS (da_cons (dn_var (i := 0)) (da_cons dn_int da_nil)))) dg_name) (sn_seq (sn_asg (dn_lst (da_cons (dn_op d_add (dn_op d_add (dn_sl d_sl (dn_var (i := 1)) do_none (do_some (dn_var (i := 2)))) (dn_tup (da_cons (dn_var (i := 3)) da_nil))) (dn_sl d_sl (dn_var (i := 1)) (do_some (dn_op d_add (dn_var (i := 2)) dn_int)) do_none)) (da_cons (dn_op d_add (dn_op d_add (dn_sl d_sl (dn_var (i := 1)) do_none (do_some (dn_var (i := 2)))) (dn_tup (da_cons (dn_var (i := 3)) da_nil))) (dn_sl d_sl (dn_var (i := 1)) (do_some (dn_var (i := 2))) do_none)) (da_cons (dn_op d_add (dn_sl d_sl (dn_var (i := 1)) do_none (do_some (dn_var (i := 2)))) (dn_sl d_sl (dn_var (i := 1)) (do_some (dn_op d_add (dn_var (i := 2)) dn_int)) do_none)) (da_cons (dn_cb d_list (da_cons (dn_var (i := 1)) da_nil)) da_nil))))) dg_name) (sn_seq (sn_asg (dn_op d_add (dn_var (i := 4)) (dn_lst (da_cons (dn_op d_mul (dn_tup (da_cons dn_int da_nil)) (dn_cb d_len (da_cons (dn_var (i := 1)) da_nil))) (da_cons dn_non (da_cons dn_dict0 (da_cons (dn_lst (da_cons (dn_var (i := 3)) da_nil)) (da_cons (dn_tup (da_cons (dn_var (i := 1)) da_nil)) (da_cons (dn_op d_add (dn_op d_add (dn_var (i := 1)) (dn_var (i := 1))) (dn_tup (da_cons dn_int da_nil))) da_nil)))))))) dg_name) (sn_ret (dn_op d_ix (dn_var (i := 4)) (dn_op d_ix (dn_lst (da_cons dn_int (da_cons dn_int (da_cons dn_int (da_cons dn_int (da_cons dn_int (da_cons dn_int (da_cons dn_int (da_cons dn_int (da_cons dn_int (da_cons dn_int (da_cons dn_int (da_cons dn_int (da_cons dn_int da_nil)))))))))))))) (dn_callS (da_cons (dn_var (i := 0)) (da_cons dn_int da_nil))))))))))
abbrev N__law_no_urn : List Str := ["_law_state_here", "_law_turn", "_law_thing"]
theorem sc__law_no_urn : FnScope N__law_no_urn ["_law_state_here"] (defScope s__law_no_urn) := ⟨rfl, rfl, rfl, by decide +kernel, rfl, by decide +kernel, by decide +kernel⟩
theorem b__law_no_urn (T : Tx K mg) : Binds K T.fd__law_no_urn ["_law_state_here"] [] := T.F__law_no_urn.binds fun _ _ _ _ _ _ us hl => match us, hl with | [_], _ => rfl
theorem ok__law_no_urn (T : Tx K mg) : FnOk P w K mg base (L2.CX P w) 3 T.f__law_no_urn T.fd__law_no_urn ["_law_state_here"] (spS ⟨P, w, K, mg, [], none⟩ m__law_no_urn) :=
  okS (N := N__law_no_urn) (fb := d__law_no_urn) T.F__law_no_urn sc__law_no_urn fun cdv A outer s H E hr => by
    have ps : Passes (L2.CX P w) (cxOf (L2.CX P w) P w K mg base N__law_no_urn "_law_no_urn" (defScope s__law_no_urn) T.f__law_no_urn cdv A outer s H E) E := pass_on (takes_of rfl rfl rfl rfl)
    refine ⟨_, (by exact (pss_cons (ps_for (passes_of rfl) rfl (pi_range1 (by rfl) T.z_range (pa_cons pe_int pa_nil)) (pg_name (i := 1) sc__law_no_urn.nd rfl (.inl rfl)) (pss_cons (ps_set (i := 2) sc__law_no_urn.nd rfl (.inl rfl) (pe_call (ok__law_bent_urn (P := P) (w := w) (base := base) T) (hr.mono (by decide)) (by rfl) T.g__law_bent_urn T.F__law_bent_urn.kp (b__law_bent_urn T) .nil ps (pa_cons (pv 0) (pa_cons (pe_call (ok__law_urn (P := P) (w := w) (base := base) T) (hr.mono (by decide)) (by rfl) T.g__law_urn T.F__law_urn.kp (b__law_urn T) .nil ps (pa_cons (pv 0) (pa_cons (pe_op (k_add (K := K)) pe_int (pe_call (ok__law_take (P := P) (w := w) (base := base) T) (hr.mono (by decide)) (by rfl) T.g__law_take T.F__law_take.kp (b__law_take T) .nil ps (pa_cons (pv 0) (pa_cons pe_int pa_nil)))) pa_nil))) pa_nil)))) (pss_one (ps_if (pt_not (pt_val (pe_call (ok__law_is_urn (P := P) (w := w) (base := base) T) (hr.mono (by decide)) (by rfl) T.g__law_is_urn T.F__law_is_urn.kp (b__law_is_urn T) .nil ps (pa_cons (pv 2) pa_nil)))) (pss_one (ps_ret (pv 2))) pss_nil)))) (pss_one (ps_ret (pe_ix (k_ix (K := K)) (pe_lst (pa_cons pe_non (pa_cons (pe_tup pa_nil) (pa_cons (pe_tup (pa_cons pe_int pa_nil)) (pa_cons (pe_tup (pa_cons pe_int (pa_cons pe_bl pa_nil))) pa_nil))))) (pe_call (ok__law_take (P := P) (w := w) (base := base) T) (hr.mono (by decide)) (by rfl) T.g__law_take T.F__law_take.kp (b__law_take T) .nil ps (pa_cons (pv 0) (pa_cons pe_int pa_nil))) (fun _ _ => rfl)))))), ?_⟩
    exact (sn_seq (sn_for (di_rng1 (da_cons dn_int da_nil) (aC_len aN_len)) dg_name (sn_seq (sn_asg (dn_callS (da_cons (dn_var (i := 0)) (da_cons (dn_callS (da_cons (dn_var (i := 0)) (da_cons (dn_op d_add dn_int (dn_callS (da_cons (dn_var (i := 0)) (da_cons dn_int da_nil)))) da_nil))) da_nil))) dg_name) (sn_if (dt_not (dt_B (dn_call (da_cons (dn_var (i := 2)) da_nil)))) (sn_ret (dn_var (i := 2))) sn_next))) (sn_ret (dn_op d_ix (dn_lst (da_cons dn_non (da_cons (dn_tup da_nil) (da_cons (dn_tup (da_cons dn_int da_nil)) (da_cons (dn_tup (da_cons dn_int (da_cons dn_bl da_nil))) da_nil))))) (dn_callS (da_cons (dn_var (i := 0)) (da_cons dn_int da_nil))))))
abbrev N__law_counts : List Str := ["_law_state_here", "_law_kinds", "_law_spare", "_law_found", "_law_kind", "_law_many", "_law_at"]
theorem sc__law_counts : FnScope N__law_counts ["_law_state_here", "_law_kinds"] (defScope s__law_counts) := ⟨rfl, rfl, rfl, by decide +kernel, rfl, by decide +kernel, by decide +kernel⟩
theorem b__law_counts (T : Tx K mg) : Binds K T.fd__law_counts ["_law_state_here", "_law_kinds"] [] := T.F__law_counts.binds fun _ _ _ _ _ _ us hl => match us, hl with | [_, _], _ => rfl
theorem ok__law_counts (T : Tx K mg) : FnOk P w K mg base (L2.CX P w) 2 T.f__law_counts T.fd__law_counts ["_law_state_here", "_law_kinds"] (spS ⟨P, w, K, mg, [], none⟩ m__law_counts) :=
  okS (N := N__law_counts) (fb := d__law_counts) T.F__law_counts sc__law_counts fun cdv A outer s H E hr => by
    have ps : Passes (L2.CX P w) (cxOf (L2.CX P w) P w K mg base N__law_counts "_law_counts" (defScope s__law_counts) T.f__law_counts cdv A outer s H E) E := pass_on (takes_of rfl rfl rfl rfl)
    refine ⟨_, (by exact (pss_cons (ps_set (i := 2) sc__law_counts.nd rfl (.inl rfl) (pe_ix (k_ix (K := K)) (pe_lst (pa_cons pe_int (pa_cons pe_int (pa_cons pe_int pa_nil)))) (pe_call (ok__law_take (P := P) (w := w) (base := base) T) (hr.mono (by decide)) (by rfl) T.g__law_take T.F__law_take.kp (b__law_take T) .nil ps (pa_cons (pv 0) (pa_cons pe_int pa_nil))) (fun _ _ => rfl))) (pss_cons (ps_set (i := 3) sc__law_counts.nd rfl (.inl rfl) (pe_lst pa_nil)) (pss_cons (ps_for (passes_of rfl) rfl (pi_range1 (by rfl) T.z_range (pa_cons (pv 1) pa_nil)) (pg_name (i := 4) sc__law_counts.nd rfl (.inl rfl)) (pss_cons (ps_set (i := 5) sc__law_counts.nd rfl (.inl rfl) (pe_call (ok__law_take (P := P) (w := w) (base := base) T) (hr.mono (by decide)) (by rfl) T.g__law_take T.F__law_take.kp (b__law_take T) .nil ps (pa_cons (pv 0) (pa_cons (pe_op (k_add (K := K)) (pv 2) pe_int) pa_nil)))) (pss_cons (ps_expr (pe_bm PySem.F.plainAttrs_list PySem.F.slot_list_append PySem.F.type_list_append mt_append (pv 3) (pa_cons (pv 5) pa_nil))) (pss_one (ps_set (i := 2) sc__law_counts.nd rfl (.inl rfl) (pe_op g_sub (pv 2) (pv 5))))))) (pss_cons (ps_set (i := 6) sc__law_counts.nd rfl (.inl rfl) (pe_call (ok__law_take (P := P) (w := w) (base := base) T) (hr.mono (by decide)) (by rfl) T.g__law_take T.F__law_take.kp (b__law_take T) .nil ps (pa_cons (pv 0) (pa_cons (pv 1) pa_nil)))) (pss_one (ps_ret (pe_callTy (k_tuple (K := K)) (by rfl) T.z_tuple bt_tuple (pa_cons (pe_op (k_add (K := K)) (pe_slice (k_sl (K := K)) (pv 3) (po_some (pv 6)) po_none) (pe_slice (k_sl (K := K)) (pv 3) po_none (po_some (pv 6)))) pa_nil))))))))), ?_⟩
    exact (sn_seq (sn_asg (dn_op d_ix (dn_lst (da_cons dn_int (da_cons dn_int (da_cons dn_int da_nil)))) (dn_callS (da_cons (dn_var (i := 0)) (da_cons dn_int da_nil)))) dg_name) (sn_seq (sn_asg (dn_lst da_nil) dg_own) (sn_seq (sn_for (di_rng1 (da_cons (dn_var (i := 1)) da_nil) (aC_len aN_len)) dg_name (sn_seq (sn_asg (dn_callS (da_cons (dn_var (i := 0)) (da_cons (dn_op d_add (dn_var (i := 2)) dn_int) da_nil))) dg_name) (sn_seq (sn_app (dn_var (i := 3)) (dn_var (i := 5))) (sn_asg (dn_op d_sub (dn_var (i := 2)) (dn_var (i := 5))) dg_name)))) (sn_seq (sn_asg (dn_callS (da_cons (dn_var (i := 0)) (da_cons (dn_var (i := 1)) da_nil))) dg_name) (sn_ret (dn_cb d_tuple (da_cons (dn_op d_add (dn_sl d_sl (dn_var (i := 3)) (do_some (dn_var (i := 6))) do_none) (dn_sl d_sl (dn_var (i := 3)) do_none (do_some (dn_var (i := 6))))) da_nil)))))))
abbrev N__law_bent_counts : List Str := ["_law_state_here", "_law_counts_here", "_law_at", "_law_odd", "_law_some"]
theorem sc__law_bent_counts : FnScope N__law_bent_counts ["_law_state_here", "_law_counts_here"] (defScope s__law_bent_counts) := ⟨rfl, rfl, rfl, by decide +kernel, rfl, by decide +kernel, by decide +kernel⟩
theorem b__law_bent_counts (T : Tx K mg) : Binds K T.fd__law_bent_counts ["_law_state_here", "_law_counts_here"] [] := T.F__law_bent_counts.binds fun _ _ _ _ _ _ us hl => match us, hl with | [_, _], _ => rfl
theorem ok__law_bent_counts (T : Tx K mg) : FnOk P w K mg base (L2.CX P w) 2 T.f__law_bent_counts T.fd__law_bent_counts ["_law_state_here", "_law_counts_here"] (spS ⟨P, w, K, mg, [], none⟩ m__law_bent_counts) :=
  okS (N := N__law_bent_counts) (fb := d__law_bent_counts) T.F__law_bent_counts sc__law_bent_counts fun cdv A outer s H E hr => by
    have ps : Passes (L2.CX P w) (cxOf (L2.CX P w) P w K mg base N__law_bent_counts "_law_bent_counts" (defScope s__law_bent_counts) T.f__law_bent_counts cdv A outer s H E) E := pass_on (takes_of rfl rfl rfl rfl)
    refine ⟨_, (by exact (pss_cons (ps_set (i := 2) sc__law_bent_counts.nd rfl (.inl rfl) (pe_call (ok__law_take (P := P) (w := w) (base := base) T) (hr.mono (by decide)) (by rfl) T.g__law_take T.F__law_take.kp (b__law_take T) .nil ps (pa_cons (pv 0) (pa_cons (pe_callB (k_len (K := K)) (by rfl) T.z_len bt_len (pa_cons (pv 1) pa_nil)) pa_nil)))) (pss_cons (ps_set (i := 3) sc__law_bent_counts.nd rfl (.inl rfl) (pe_ix (k_ix (K := K)) (pe_lst (pa_cons (pe_un g_neg pe_int) (pa_cons pe_int (pa_cons pe_bl (pa_cons pe_non (pa_cons pe_str (pa_cons (pe_tup (pa_cons pe_int pa_nil)) (pa_cons (pe_op g_pow pe_int pe_int) (pa_cons (pe_lst (pa_cons pe_int pa_nil)) (pa_cons (pe_op (k_add (K := K)) (pe_op g_sub pe_int (pe_callB (k_sum (K := K) rfl) (by rfl) T.z_sum bt_sum (pa_cons (pv 1) pa_nil))) (pe_ix (k_ix (K := K)) (pv 1) (pv 2) (fun _ _ => rfl))) pa_nil)))))))))) (pe_call (ok__law_take (P := P) (w := w) (base := base) T) (hr.mono (by decide)) (by rfl) T.g__law_take T.F__law_take.kp (b__law_take T) .nil ps (pa_cons (pv 0) (pa_cons pe_int pa_nil))) (fun _ _ => rfl))) (pss_cons (ps_set (i := 4) sc__law_bent_counts.nd rfl (.inl rfl) (pe_lst (pa_cons (pe_op (k_add (K := K)) (pe_op (k_add (K := K)) (pe_slice (k_sl (K := K)) (pv 1) po_none (po_some (pv 2))) (pe_tup (pa_cons (pv 3) pa_nil))) (pe_slice (k_sl (K := K)) (pv 1) (po_some (pe_op (k_add (K := K)) (pv 2) pe_int)) po_none)) (pa_cons (pe_op (k_add (K := K)) (pv 1) (pe_tup (pa_cons pe_int pa_nil))) (pa_cons (pe_slice (k_sl (K := K)) (pv 1) po_none (po_some (pe_un g_neg pe_int))) (pa_cons (pe_callTy (k_list (K := K)) (by rfl) T.z_list bt_list (pa_cons (pv 1) pa_nil)) (pa_cons pe_non (pa_cons pe_dnewK (pa_cons (pe_lst (pa_cons (pv 3) pa_nil)) pa_nil))))))))) (pss_one (ps_ret (pe_ix (k_ix (K := K)) (pv 4) (pe_ix (k_ix (K := K)) (pe_lst (pa_cons pe_int (pa_cons pe_int (pa_cons pe_int (pa_cons pe_int (pa_cons pe_int (pa_cons pe_int (pa_cons pe_int (pa_cons pe_int (pa_cons pe_int (pa_cons pe_int pa_nil))))))))))) (pe_call (ok__law_take (P := P) (w := w) (base := base) T) (hr.mono (by decide)) (by rfl) T.g__law_take T.F__law_take.kp (b__law_take T) .nil ps (pa_cons (pv 0) (pa_cons pe_int pa_nil))) (fun _ _ => rfl)) (fun _ _ => rfl)))))))), ?_⟩
    exact (sn_seq (sn_asg (dn_callS (da_cons (dn_var (i := 0)) (da_cons (dn_cb d_len (da_cons (dn_var (i := 1)) da_nil)) da_nil))) dg_name) (sn_seq (sn_asg (dn_op d_ix (dn_lst (da_cons (dn_un d_neg dn_int) (da_cons dn_int (da_cons dn_bl (da_cons dn_non (da_cons dn_str (da_cons (dn_tup (da_cons dn_int da_nil)) (da_cons (dn_op d_pow dn_int dn_int) (da_cons (dn_lst (da_cons dn_int da_nil)) (da_cons (dn_op d_add (dn_op d_sub dn_int (dn_cb d_sum (da_cons (dn_var (i := 1)) da_nil))) (dn_op d_ix (dn_var (i := 1)) (dn_var (i := 2)))) da_nil)))))))))) (dn_callS (da_cons (dn_var (i := 0)) (da_cons dn_int da_nil)))) dg_name) (sn_seq (sn_asg (dn_lst (da_cons (dn_op d_add (dn_op d_add (dn_sl d_sl (dn_var (i := 1)) do_none (do_some (dn_var (i := 2)))) (dn_tup (da_cons (dn_var (i := 3)) da_nil))) (dn_sl d_sl (dn_var (i := 1)) (do_some (dn_op d_add (dn_var (i := 2)) dn_int)) do_none)) (da_cons (dn_op d_add (dn_var (i := 1)) (dn_tup (da_cons dn_int da_nil))) (da_cons (dn_sl d_sl (dn_var (i := 1)) do_none (do_some (dn_un d_neg dn_int))) (da_cons (dn_cb d_list (da_cons (dn_var (i := 1)) da_nil)) (da_cons dn_non (da_cons dn_dict0 (da_cons (dn_lst (da_cons (dn_var (i := 3)) da_nil)) da_nil)))))))) dg_name) (sn_ret (dn_op d_ix (dn_var (i := 4)) (dn_op d_ix (dn_lst (da_cons dn_int (da_cons dn_int (da_cons dn_int (da_cons dn_int (da_cons dn_int (da_cons dn_int (da_cons dn_int (da_cons dn_int (da_cons dn_int (da_cons dn_int da_nil))))))))))) (dn_callS (da_cons (dn_var (i := 0)) (da_cons dn_int da_nil)))))))))
abbrev N__law_same : List Str := ["_law_found", "_law_due_here", "_law_one", "_law_other"]
theorem sc__law_same : FnScope N__law_same ["_law_found", "_law_due_here"] (defScope s__law_same) := ⟨rfl, rfl, rfl, by decide +kernel, rfl, by decide +kernel, by decide +kernel⟩
theorem b__law_same (T : Tx K mg) : Binds K T.fd__law_same ["_law_found", "_law_due_here"] [] := T.F__law_same.binds fun _ _ _ _ _ _ us hl => match us, hl with | [_, _], _ => rfl
theorem ok__law_same (T : Tx K mg) : ∀ nn : Nat, FnOk P w K mg base (L2.CX P w) (1 + nn) T.f__law_same T.fd__law_same ["_law_found", "_law_due_here"] (spP ⟨P, w, K, mg, [], none⟩ (m__law_same nn))
  | 0 => ⟨fun vs H Q E h => False.elim (let ⟨_, _, _, _, z⟩ := h; z), fun _ _ _ _ _ _ _ _ _ _ _ _ _ h => False.elim (let ⟨_, _, _, _, z⟩ := h; z)⟩
  | nn + 1 => okP (N := N__law_same) (fb := d__law_same (m__law_same nn)) T.F__law_same sc__law_same fun cdv A outer s H E hr => by
    have ps : Passes (L2.CX P w) (cxOf (L2.CX P w) P w K mg base N__law_same "_law_same" (defScope s__law_same) T.f__law_same cdv A outer s H E) E := pass_on (takes_of rfl rfl rfl rfl)
    refine ⟨_, (by exact (pss_cons (ps_if (pt_val (pe_callB (k_isiT (K := K)) (by rfl) T.z_isinstance bt_isinstance (pa_cons (pv 1) (pa_cons (pe_tup (pa_cons (pe_bltn (v := .ty "list") (by rfl) T.z_list bt_list rfl) (pa_cons (pe_bltn (v := .ty "tuple") (by rfl) T.z_tuple bt_tuple rfl) pa_nil))) pa_nil)))) (pss_cons (ps_if (PW.pt (pw_or (pt_cmpR (k_ne (K := K) hr.units) (pe_callB (k_isi (K := K)) (by rfl) T.z_isinstance bt_isinstance (pa_cons (pv 0) (pa_cons (pe_bltn (v := .ty "list") (by rfl) T.z_list bt_list rfl) pa_nil))) (pe_callB (k_isi (K := K)) (by rfl) T.z_isinstance bt_isinstance (pa_cons (pv 1) (pa_cons (pe_bltn (v := .ty "list") (by rfl) T.z_list bt_list rfl) pa_nil))) (nomark _)) (pw_or1 (pt_cmpR (k_ne (K := K) hr.units) (pe_callB (k_isi (K := K)) (by rfl) T.z_isinstance bt_isinstance (pa_cons (pv 0) (pa_cons (pe_bltn (v := .ty "tuple") (by rfl) T.z_tuple bt_tuple rfl) pa_nil))) (pe_callB (k_isi (K := K)) (by rfl) T.z_isinstance bt_isinstance (pa_cons (pv 1) (pa_cons (pe_bltn (v := .ty "tuple") (by rfl) T.z_tuple bt_tuple rfl) pa_nil))) (nomark _))))) (pss_one (ps_ret pe_bl)) pss_nil) (pss_one (ps_ret (pe_and (pe_cmpR (k_eq (K := K) hr.units) (pe_callB (k_len (K := K)) (by rfl) T.z_len bt_len (pa_cons (pv 0) pa_nil)) (pe_callB (k_len (K := K)) (by rfl) T.z_len bt_len (pa_cons (pv 1) pa_nil)) (nomark _)) (pe_one (pe_callB (k_all (K := K) rfl) (by rfl) T.z_all bt_all (pa_cons (pe_lc (own := [("_law_one", 2), ("_law_other", 3)]) rfl sc__law_same.nd (kpi_zip (K := K) (by rfl) T.z_zip (pa_cons (pv 0) (pa_cons (pv 1) pa_nil))) (blkOk_by (N := N__law_same) (sc := (defScope s__law_same)) (by decide +kernel)) (fun _ _ _ _ _ => (kpg_tup (K := K) (n := 2) rfl (pgs_cons (pg_name (i := 2) sc__law_same.nd rfl (.inl rfl)) (pgs_cons (pg_name (i := 3) sc__law_same.nd rfl (.inl rfl)) pgs_nil)))) (fun _ _ _ _ _ => pts_nil) (fun _ _ _ _ _ => (pe_call (ok__law_same T nn) (hr.mono (Nat.le_refl _)) (by rfl) T.g__law_same T.F__law_same.kp (b__law_same T) .nil passL (pa_cons (pv 2) (pa_cons (pv 3) pa_nil))))) pa_nil))))))) pss_nil) (pss_one (ps_ret (pe_and (pe_cmpR (k_eq (K := K) hr.units) (pe_callB (k_isi (K := K)) (by rfl) T.z_isinstance bt_isinstance (pa_cons (pv 0) (pa_cons (pe_bltn (v := .ty "bool") (by rfl) T.z_bool bt_bool rfl) pa_nil))) (pe_callB (k_isi (K := K)) (by rfl) T.z_isinstance bt_isinstance (pa_cons (pv 1) (pa_cons (pe_bltn (v := .ty "bool") (by rfl) T.z_bool bt_bool rfl) pa_nil))) (nomark _)) (pe_one (pe_cmpR (k_eq (K := K) hr.units) (pv 0) (pv 1) (nomark _)))))))), ?_⟩
    exact (sn_seq (sn_if (dt_B (dn_isi2 (T1 := "list") (T2 := "tuple") (by decide) (by decide) (dn_var (i := 1)))) (sn_seq (sn_if (dt_or (dt_val (dn_op d_ne (dn_isi (T := "list") (by decide) (dn_var (i := 0))) (dn_isi (T := "list") (by decide) (dn_var (i := 1))))) (dt_val (dn_op d_ne (dn_isi (T := "tuple") (by decide) (dn_var (i := 0))) (dn_isi (T := "tuple") (by decide) (dn_var (i := 1)))))) (sn_ret dn_bl) sn_next) (sn_ret (dn_andV (dn_op d_eq (dn_cb d_len (da_cons (dn_var (i := 0)) da_nil)) (dn_cb d_len (da_cons (dn_var (i := 1)) da_nil))) (dn_cb d_all (da_cons (dn_lc (di_zip (da_cons (dn_var (i := 0)) (da_cons (dn_var (i := 1)) da_nil))) (dc_tup rfl (dcs_cons (dc_name (by decide)) (dcs_cons (dc_name (by decide)) dcs_nil))) dt_yes (dn_call (da_cons (dn_var (i := 2)) (da_cons (dn_var (i := 3)) da_nil)))) da_nil))))) sn_next) (sn_ret (dn_andV (dn_op d_eq (dn_isi (T := "bool") (by decide) (dn_var (i := 0))) (dn_isi (T := "bool") (by decide) (dn_var (i := 1)))) (dn_op d_eq (dn_var (i := 0)) (dn_var (i := 1))))))
abbrev N__law_due : List Str := ["_law_urn_here", "_law_more", "_law_counts_here", "_law_whole_here", "_law_kind"]
theorem sc__law_due : FnScope N__law_due ["_law_urn_here", "_law_more", "_law_counts_here"] (defScope s__law_due) := ⟨rfl, rfl, rfl, by decide +kernel, rfl, by decide +kernel, by decide +kernel⟩
theorem b__law_due (T : Tx K mg) : Binds K T.fd__law_due ["_law_urn_here", "_law_more", "_law_counts_here"] [] := T.F__law_due.binds fun _ _ _ _ _ _ us hl => match us, hl with | [_, _, _], _ => rfl
theorem ok__law_due (T : Tx K mg) : FnOk P w K mg base (L2.CX P w) 2 T.f__law_due T.fd__law_due ["_law_urn_here", "_law_more", "_law_counts_here"] (spP ⟨P, w, K, mg, [], none⟩ m__law_due) :=
  okP (N := N__law_due) (fb := d__law_due) T.F__law_due sc__law_due fun cdv A outer s H E hr => by
    have ps : Passes (L2.CX P w) (cxOf (L2.CX P w) P w K mg base N__law_due "_law_due" (defScope s__law_due) T.f__law_due cdv A outer s H E) E := pass_on (takes_of rfl rfl rfl rfl)
    refine ⟨_, (by exact (pss_cons (ps_if (pt_cmpR (k_ne (K := K) hr.units) (pe_lc (own := [("_law_kind", 4)]) rfl sc__law_due.nd (pi_range1 (by rfl) T.z_range (pa_cons (pe_callB (k_len (K := K)) (by rfl) T.z_len bt_len (pa_cons (pv 0) pa_nil)) pa_nil)) (blkOk_by (N := N__law_due) (sc := (defScope s__law_due)) (by decide +kernel)) (fun _ _ _ _ _ => (pg_name (i := 4) sc__law_due.nd rfl (.inl rfl))) (fun _ _ _ _ _ => (pts_one (PW.pt (pw_and (pt_cmpR (k_eq (K := K) hr.units) (pe_ix (k_ix (K := K)) (pv 0) (pv 4) (fun _ _ => rfl)) pe_int (nomark _)) (pw_and1 (pt_cmpR g_gt (pe_ix (k_ix (K := K)) (pv 2) (pv 4) (fun _ _ => rfl)) pe_int (nomark _))))))) (fun _ _ _ _ _ => (pv 4))) (pe_lst pa_nil) (nomark _)) (pss_one (ps_ret pe_non)) pss_nil) (pss_cons (ps_set (i := 3) sc__law_due.nd rfl (.inr rfl) (pe_op (k_add (K := K)) (pe_callB (k_sum (K := K) rfl) (by rfl) T.z_sum bt_sum (pa_cons (pv 0) pa_nil)) (pe_op (k_mul (K := K)) (pv 1) (pe_callB (k_sum (K := K) rfl) (by rfl) T.z_sum bt_sum (pa_cons (pv 2) pa_nil))))) (pss_one (ps_ret (pe_callTy (k_tuple (K := K)) (by rfl) T.z_tuple bt_tuple (pa_cons (pe_lc (own := [("_law_kind", 4)]) rfl sc__law_due.nd (pi_range1 (by rfl) T.z_range (pa_cons (pe_callB (k_len (K := K)) (by rfl) T.z_len bt_len (pa_cons (pv 0) pa_nil)) pa_nil)) (blkOk_by (N := N__law_due) (sc := (defScope s__law_due)) (by decide +kernel)) (fun _ _ _ _ _ => (pg_name (i := 4) sc__law_due.nd rfl (.inl rfl))) (fun _ _ _ _ _ => pts_nil) (fun _ _ _ _ _ => (pe_call (ok__law_cut (P := P) (w := w) (base := base) T) (hr.mono (by decide)) (by rfl) T.g__law_cut T.F__law_cut.kp (b__law_cut T) .nil passL (pa_cons (pe_op (k_add (K := K)) (pe_ix (k_ix (K := K)) (pv 0) (pv 4) (fun _ _ => rfl)) (pe_op (k_mul (K := K)) (pv 1) (pe_ix (k_ix (K := K)) (pv 2) (pv 4) (fun _ _ => rfl)))) (pa_cons (pv 3) pa_nil))))) pa_nil))))))), ?_⟩
    exact (sn_seq (sn_if (dt_val (dn_op d_ne (dn_lc (di_rng1 (da_cons (dn_cb d_len (da_cons (dn_var (i := 0)) da_nil)) da_nil) (aC_len aN_len)) (dc_name (by decide)) (dt_and (dt_val (dn_op d_eq (dn_op d_ix (dn_var (i := 0)) (dn_var (i := 4))) dn_int)) (dt_val (dn_op d_gt (dn_op d_ix (dn_var (i := 2)) (dn_var (i := 4))) dn_int))) (dn_var (i := 4))) (dn_lst da_nil))) (sn_ret dn_non) sn_next) (sn_seq (sn_asg (dn_op d_add (dn_cb d_sum (da_cons (dn_var (i := 0)) da_nil)) (dn_op d_mul (dn_var (i := 1)) (dn_cb d_sum (da_cons (dn_var (i := 2)) da_nil)))) dg_name) (sn_ret (dn_cb d_tuple (da_cons (dn_lc (di_rng1 (da_cons (dn_cb d_len (da_cons (dn_var (i := 0)) da_nil)) da_nil) (aC_len aN_len)) (dc_name (by decide)) dt_yes (dn_call (da_cons (dn_op d_add (dn_op d_ix (dn_var (i := 0)) (dn_var (i := 4))) (dn_op d_mul (dn_var (i := 1)) (dn_op d_ix (dn_var (i := 2)) (dn_var (i := 4))))) (da_cons (dn_var (i := 3)) da_nil)))) da_nil)))))
abbrev N_law : List Str := ["_law_script", "_law_k", "_law_state_here", "_law_kinds", "_law_counts_here", "_law_alone", "_law_some", "_law_bad", "_law_more", "_law_none", "_law_odd", "_law_urn_here", "_law_kind"]
theorem sc_law : FnScope N_law ["_law_script"] (defScope s_law) := ⟨rfl, rfl, rfl, by decide +kernel, rfl, by decide +kernel, by decide +kernel⟩
theorem b_law (T : Tx K mg) : Binds K T.fd_law ["_law_script"] [] := T.F_law.binds fun _ _ _ _ _ _ us hl => match us, hl with | [_], _ => rfl
theorem ok_law (T : Tx K mg) {Pt cc : Addr} {oc : Value} {od an : Option Addr} {sl : Array (Option Value)} {kV dc pm ct : Value} (lk : K.lookup T.f_law = some ⟨oc, od, .func (PySem.W.fnOf "law" "law" (defArgs s_law) (defBody s_law) (defScope s_law) .none kV dc pm an (.ref cc) ct), sl⟩) (hcd : PySem.W.codeIn K (.ref cc) "law" = true) (TB : LamX.TabB base mg cc Pt) :
  FnOk P w K mg base (L2.CX P w) 9 T.f_law (PySem.W.fnOf "law" "law" (defArgs s_law) (defBody s_law) (defScope s_law) .none kV dc pm an (.ref cc) ct) ["_law_script"] (spT ⟨P, w, K, mg, [(Pt, qLam)], none⟩ Pt qLam m_law) :=
  okT (N := N_law) (fb := d_law) lk hcd sc_law fun A outer s H E hr => by
    have ps : Passes (L2.CX P w) (cxOf (L2.CX P w) P w K mg base N_law "law" (defScope s_law) T.f_law (.ref cc) A outer s H E) E := pass_on (takes_of rfl rfl rfl rfl)
    refine ⟨_, (by exact (pss_cons (ps_for (passes_of rfl) rfl (pi_range1 (by rfl) T.z_range (pa_cons (pe_callB (k_max (K := K) rfl) (by rfl) T.z_max bt_max (pa_cons pe_int (pa_cons (pe_callB (k_min (K := K) rfl) (by rfl) T.z_min bt_min (pa_cons (pe_callB (k_len (K := K)) (by rfl) T.z_len bt_len (pa_cons (pv 0) pa_nil)) (pa_cons pe_int pa_nil))) pa_nil))) pa_nil)) (pg_name (i := 1) sc_law.nd rfl (.inl rfl)) (pss_cons (ps_set (i := 2) sc_law.nd rfl (.inl rfl) (pe_call (ok__law_state (P := P) (w := w) (base := base) T) (hr.mono (by decide)) (by rfl) T.g__law_state T.F__law_state.kp (b__law_state T) .nil ps (pa_cons (pv 0) (pa_cons (pv 1) pa_nil)))) (pss_cons (ps_set (i := 3) sc_law.nd rfl (.inl rfl) (pe_op (k_add (K := K)) pe_int (pe_call (ok__law_take (P := P) (w := w) (base := base) T) (hr.mono (by decide)) (by rfl) T.g__law_take T.F__law_take.kp (b__law_take T) .nil ps (pa_cons (pv 2) (pa_cons pe_int pa_nil))))) (pss_cons (ps_asg (pe_tup (pa_cons (pe_call (ok__law_urn (P := P) (w := w) (base := base) T) (hr.mono (by decide)) (by rfl) T.g__law_urn T.F__law_urn.kp (b__law_urn T) .nil ps (pa_cons (pv 2) (pa_cons (pv 3) pa_nil))) (pa_cons (pe_call (ok__law_take (P := P) (w := w) (base := base) T) (hr.mono (by decide)) (by rfl) T.g__law_take T.F__law_take.kp (b__law_take T) .nil ps (pa_cons (pv 2) (pa_cons pe_int pa_nil))) (pa_cons (pe_call (ok__law_counts (P := P) (w := w) (base := base) T) (hr.mono (by decide)) (by rfl) T.g__law_counts T.F__law_counts.kp (b__law_counts T) .nil ps (pa_cons (pv 2) (pa_cons (pv 3) pa_nil))) pa_nil)))) (kpg_tup (K := K) (n := 3) rfl (pgs_cons (pg_name (i := 11) sc_law.nd rfl (.inr rfl)) (pgs_cons (pg_name (i := 8) sc_law.nd rfl (.inr rfl)) (pgs_cons (pg_name (i := 4) sc_law.nd rfl (.inr rfl)) pgs_nil))))) (pss_cons (ps_set (i := 5) sc_law.nd rfl (.inl rfl) (pe_callTy (k_tuple (K := K)) (by rfl) T.z_tuple bt_tuple (pa_cons (pe_lc (own := [("_law_kind", 12)]) rfl sc_law.nd (pi_range1 (by rfl) T.z_range (pa_cons (pv 3) pa_nil)) (blkOk_by (N := N_law) (sc := (defScope s_law)) (by decide +kernel)) (fun _ _ _ _ _ => (pg_name (i := 12) sc_law.nd rfl (.inl rfl))) (fun _ _ _ _ _ => pts_nil) (fun _ _ _ _ _ => (pe_op (k_mul (K := K)) (pe_ix (k_ix (K := K)) (pv 4) (pv 12) (fun _ _ => rfl)) (pe_callTy g_int (by rfl) T.z_int bt_int (pa_cons (pe_cmpR g_gt (pe_ix (k_ix (K := K)) (pv 11) (pv 12) (fun _ _ => rfl)) pe_int (nomark _)) pa_nil))))) pa_nil))) (pss_cons (ps_for (passes_of rfl) rfl (kpi_any (K := K) (pe_lst (pa_cons (pv 4) (pa_cons (pe_op (k_mul (K := K)) (pe_tup (pa_cons pe_int pa_nil)) (pv 3)) (pa_cons (pv 5) (pa_cons (pe_backT (K := K) (pv 4)) pa_nil)))))) (pg_name (i := 6) sc_law.nd rfl (.inl rfl)) (pss_one (ps_if (pt_not (pt_val (pe_call (ok__law_same (P := P) (w := w) (base := base) T 6) (hr.mono (by decide)) (by rfl) T.g__law_same T.F__law_same.kp (b__law_same T) .nil ps (pa_cons (pe_call (ok_next_shares (P := P) (w := w) (base := base) T) (hr.mono (by decide)) (by rfl) T.g_next_shares T.F_next_shares.kp (b_next_shares T) .nil ps (pa_cons (pv 11) (pa_cons (pv 8) (pa_cons (pv 6) pa_nil)))) (pa_cons (pe_call (ok__law_due (P := P) (w := w) (base := base) T) (hr.mono (by decide)) (by rfl) T.g__law_due T.F__law_due.kp (b__law_due T) .nil ps (pa_cons (pv 11) (pa_cons (pv 8) (pa_cons (pv 6) pa_nil)))) pa_nil))))) (pss_one (ps_ret pe_bl)) pss_nil))) (pss_cons (ps_set (i := 10) sc_law.nd rfl (.inr rfl) (pe_ix (k_ix (K := K)) (pe_lst (pa_cons (pe_un g_neg pe_int) (pa_cons pe_int (pa_cons pe_bl (pa_cons pe_bl (pa_cons pe_non (pa_cons pe_str (pa_cons (pe_tup (pa_cons pe_int pa_nil)) (pa_cons (pe_op g_pow pe_int pe_int) (pa_cons (pe_lst (pa_cons pe_int pa_nil)) pa_nil)))))))))) (pe_call (ok__law_take (P := P) (w := w) (base := base) T) (hr.mono (by decide)) (by rfl) T.g__law_take T.F__law_take.kp (b__law_take T) .nil ps (pa_cons (pv 2) (pa_cons pe_int pa_nil))) (fun _ _ => rfl))) (pss_cons (ps_asg (pe_tup (pa_cons (pe_call (ok__law_no_urn (P := P) (w := w) (base := base) T) (hr.mono (by decide)) (by rfl) T.g__law_no_urn T.F__law_no_urn.kp (b__law_no_urn T) .nil ps (pa_cons (pv 2) pa_nil)) (pa_cons (pe_call (ok__law_bent_counts (P := P) (w := w) (base := base) T) (hr.mono (by decide)) (by rfl) T.g__law_bent_counts T.F__law_bent_counts.kp (b__law_bent_counts T) .nil ps (pa_cons (pv 2) (pa_cons (pv 4) pa_nil))) pa_nil))) (kpg_tup (K := K) (n := 2) rfl (pgs_cons (pg_name (i := 9) sc_law.nd rfl (.inr rfl)) (pgs_cons (pg_name (i := 7) sc_law.nd rfl (.inr rfl)) pgs_nil)))) (pss_cons (ps_if (pt_cmpR (k_ne (K := K) hr.units) (pe_refd (P := Pt) (c := cc) (k := 6) (q := qLam) T.F__law_refused T.g__law_refused (by rfl) (b__law_refused T) sc__law_refused rfl (.inl rfl) (gives_ref (X := (cxOf (L2.CX P w) P w K mg base N_law "law" (defScope s_law) T.f_law (.ref cc) A outer s H E)) T qLam (hr.mono (by decide))) TB (by exact rfl) rfl (hr.mono (by decide)) (by show LamX.lamSB (defScope s_law) _ = true; decide +kernel) rfl (fun _ _ _ _ _ => rfl) (fun A2 outer2 s2 H2 E2 f z hr => by have ps : Passes (L2.CX P w) (LamX.lamCx (cxOf (L2.CX P w) P w K mg base N_law "law" (defScope s_law) T.f_law (.ref cc) A outer s H E) A2 outer2 s2 H2 E2 ({ kind := PySem.ScopeKind.function, names := [(PySem.Str.ofString "_law_bad", PySem.NameKind.free), (PySem.Str.ofString "_law_none", PySem.NameKind.free), (PySem.Str.ofString "_law_odd", PySem.NameKind.free), (PySem.Str.ofString "next_shares", PySem.NameKind.globalImplicit)], isGenerator := false, isCoroutine := false, more := [] : PySem.Scope }) f z) E2 := pass_on (takes_of rfl rfl rfl rfl); exact (pe_call (ok_next_shares (P := P) (w := w) (base := base) T) (hr.mono (by decide)) (by rfl) T.g_next_shares T.F_next_shares.kp (b_next_shares T) .nil ps (pa_cons (pv 9) (pa_cons (pv 10) (pa_cons (pv 7) pa_nil)))))) pe_int (nomark _)) (pss_one (ps_ret pe_bl)) pss_nil) (pss_cons (ps_if (pt_cmpR (k_ne (K := K) hr.units) (pe_refd (P := Pt) (c := cc) (k := 6) (q := qLam) T.F__law_refused T.g__law_refused (by rfl) (b__law_refused T) sc__law_refused rfl (.inl rfl) (gives_ref (X := (cxOf (L2.CX P w) P w K mg base N_law "law" (defScope s_law) T.f_law (.ref cc) A outer s H E)) T qLam (hr.mono (by decide))) TB (by exact rfl) rfl (hr.mono (by decide)) (by show LamX.lamSB (defScope s_law) _ = true; decide +kernel) rfl (fun _ _ _ _ _ => rfl) (fun A2 outer2 s2 H2 E2 f z hr => by have ps : Passes (L2.CX P w) (LamX.lamCx (cxOf (L2.CX P w) P w K mg base N_law "law" (defScope s_law) T.f_law (.ref cc) A outer s H E) A2 outer2 s2 H2 E2 ({ kind := PySem.ScopeKind.function, names := [(PySem.Str.ofString "_law_bad", PySem.NameKind.free), (PySem.Str.ofString "_law_odd", PySem.NameKind.free), (PySem.Str.ofString "_law_urn_here", PySem.NameKind.free), (PySem.Str.ofString "next_shares", PySem.NameKind.globalImplicit)], isGenerator := false, isCoroutine := false, more := [] : PySem.Scope }) f z) E2 := pass_on (takes_of rfl rfl rfl rfl); exact (pe_call (ok_next_shares (P := P) (w := w) (base := base) T) (hr.mono (by decide)) (by rfl) T.g_next_shares T.F_next_shares.kp (b_next_shares T) .nil ps (pa_cons (pv 11) (pa_cons (pv 10) (pa_cons (pv 7) pa_nil)))))) pe_int (nomark _)) (pss_one (ps_ret pe_bl)) pss_nil) (pss_one (ps_if (pt_cmpR (k_ne (K := K) hr.units) (pe_refd (P := Pt) (c := cc) (k := 6) (q := qLam) T.F__law_refused T.g__law_refused (by rfl) (b__law_refused T) sc__law_refused rfl (.inl rfl) (gives_ref (X := (cxOf (L2.CX P w) P w K mg base N_law "law" (defScope s_law) T.f_law (.ref cc) A outer s H E)) T qLam (hr.mono (by decide))) TB (by exact rfl) rfl (hr.mono (by decide)) (by show LamX.lamSB (defScope s_law) _ = true; decide +kernel) rfl (fun _ _ _ _ _ => rfl) (fun A2 outer2 s2 H2 E2 f z hr => by have ps : Passes (L2.CX P w) (LamX.lamCx (cxOf (L2.CX P w) P w K mg base N_law "law" (defScope s_law) T.f_law (.ref cc) A outer s H E) A2 outer2 s2 H2 E2 ({ kind := PySem.ScopeKind.function, names := [(PySem.Str.ofString "_law_bad", PySem.NameKind.free), (PySem.Str.ofString "_law_more", PySem.NameKind.free), (PySem.Str.ofString "_law_urn_here", PySem.NameKind.free), (PySem.Str.ofString "next_shares", PySem.NameKind.globalImplicit)], isGenerator := false, isCoroutine := false, more := [] : PySem.Scope }) f z) E2 := pass_on (takes_of rfl rfl rfl rfl); exact (pe_call (ok_next_shares (P := P) (w := w) (base := base) T) (hr.mono (by decide)) (by rfl) T.g_next_shares T.F_next_shares.kp (b_next_shares T) .nil ps (pa_cons (pv 11) (pa_cons (pv 8) (pa_cons (pv 7) pa_nil)))))) pe_int (nomark _)) (pss_one (ps_ret pe_bl)) pss_nil)))))))))))) (pss_one (ps_ret (pe_and (pe_cmpR (k_eq (K := K) hr.units) (pe_call (ok_next_shares (P := P) (w := w) (base := base) T) (hr.mono (by decide)) (by rfl) T.g_next_shares T.F_next_shares.kp (b_next_shares T) .nil ps (pa_cons (pe_tup (pa_cons pe_int (pa_cons pe_int pa_nil))) (pa_cons pe_int (pa_cons (pe_tup (pa_cons pe_int (pa_cons pe_int pa_nil))) pa_nil)))) (pe_tup (pa_cons (pe_tup (pa_cons pe_int (pa_cons pe_int pa_nil))) (pa_cons (pe_tup (pa_cons pe_int (pa_cons pe_int pa_nil))) pa_nil))) (nomark _)) (pe_one (pe_cmpR g_is (pe_call (ok_next_shares (P := P) (w := w) (base := base) T) (hr.mono (by decide)) (by rfl) T.g_next_shares T.F_next_shares.kp (b_next_shares T) .nil ps (pa_cons (pe_tup (pa_cons pe_int (pa_cons pe_int pa_nil))) (pa_cons pe_int (pa_cons (pe_tup (pa_cons pe_int (pa_cons pe_int pa_nil))) pa_nil)))) pe_non (nomark _)))))))), ?_⟩
    exact (sn_seq (sn_for (di_rng1 (da_cons (dn_cb d_max (da_cons dn_int (da_cons (dn_cb d_min (da_cons (dn_cb d_len (da_cons (dn_var (i := 0)) da_nil)) (da_cons dn_int da_nil))) da_nil))) da_nil) (aC_len aN_len)) dg_name (sn_seq (sn_asg (dn_call (da_cons (dn_var (i := 0)) (da_cons (dn_var (i := 1)) da_nil))) dg_own) (sn_seq (sn_asg (dn_op d_add dn_int (dn_callS (da_cons (dn_var (i := 2)) (da_cons dn_int da_nil)))) dg_name) (sn_seq (sn_asg (dn_tup (da_cons (dn_callS (da_cons (dn_var (i := 2)) (da_cons (dn_var (i := 3)) da_nil))) (da_cons (dn_callS (da_cons (dn_var (i := 2)) (da_cons dn_int da_nil))) (da_cons (dn_callS (da_cons (dn_var (i := 2)) (da_cons (dn_var (i := 3)) da_nil))) da_nil)))) (dg_tup rfl (dgs_cons dg_name (dgs_cons dg_name (dgs_cons dg_name dgs_nil))))) (sn_seq (sn_asg (dn_cb d_tuple (da_cons (dn_lc (di_rng1 (da_cons (dn_var (i := 3)) da_nil) (aC_len aN_len)) (dc_name (by decide)) dt_yes (dn_op d_mul (dn_op d_ix (dn_var (i := 4)) (dn_var (i := 12))) (dn_cb d_int (da_cons (dn_op d_gt (dn_op d_ix (dn_var (i := 11)) (dn_var (i := 12))) dn_int) da_nil)))) da_nil)) dg_name) (sn_seq (sn_for (di_any (dn_lst (da_cons (dn_var (i := 4)) (da_cons (dn_op d_mul (dn_tup (da_cons dn_int da_nil)) (dn_var (i := 3))) (da_cons (dn_var (i := 5)) (da_cons (dn_backT (dn_var (i := 4))) da_nil)))))) dg_name (sn_if (dt_not (dt_B (dn_call (da_cons (dn_call (da_cons (dn_var (i := 11)) (da_cons (dn_var (i := 8)) (da_cons (dn_var (i := 6)) da_nil)))) (da_cons (dn_call (da_cons (dn_var (i := 11)) (da_cons (dn_var (i := 8)) (da_cons (dn_var (i := 6)) da_nil)))) da_nil))))) (sn_ret dn_bl) sn_next)) (sn_seq (sn_asg (dn_op d_ix (dn_lst (da_cons (dn_un d_neg dn_int) (da_cons dn_int (da_cons dn_bl (da_cons dn_bl (da_cons dn_non (da_cons dn_str (da_cons (dn_tup (da_cons dn_int da_nil)) (da_cons (dn_op d_pow dn_int dn_int) (da_cons (dn_lst (da_cons dn_int da_nil)) da_nil)))))))))) (dn_callS (da_cons (dn_var (i := 2)) (da_cons dn_int da_nil)))) dg_name) (sn_seq (sn_asg (dn_tup (da_cons (dn_callS (da_cons (dn_var (i := 2)) da_nil)) (da_cons (dn_callS (da_cons (dn_var (i := 2)) (da_cons (dn_var (i := 4)) da_nil))) da_nil))) (dg_tup rfl (dgs_cons dg_name (dgs_cons dg_name dgs_nil)))) (sn_seq (sn_if (dt_val (dn_op d_ne (dn_lam (c' := ⟨P, w, K, mg, [], none⟩) (List.mem_singleton.mpr rfl) (fun p hp _ => by cases List.mem_singleton.mp hp; rfl) (hans_ref T) (fun E' => (dn_call (da_cons (dn_var (i := 9)) (da_cons (dn_var (i := 10)) (da_cons (dn_var (i := 7)) da_nil)))))) dn_int)) (sn_ret dn_bl) sn_next) (sn_seq (sn_if (dt_val (dn_op d_ne (dn_lam (c' := ⟨P, w, K, mg, [], none⟩) (List.mem_singleton.mpr rfl) (fun p hp _ => by cases List.mem_singleton.mp hp; rfl) (hans_ref T) (fun E' => (dn_call (da_cons (dn_var (i := 11)) (da_cons (dn_var (i := 10)) (da_cons (dn_var (i := 7)) da_nil)))))) dn_int)) (sn_ret dn_bl) sn_next) (sn_if (dt_val (dn_op d_ne (dn_lam (c' := ⟨P, w, K, mg, [], none⟩) (List.mem_singleton.mpr rfl) (fun p hp _ => by cases List.mem_singleton.mp hp; rfl) (hans_ref T) (fun E' => (dn_call (da_cons (dn_var (i := 11)) (da_cons (dn_var (i := 8)) (da_cons (dn_var (i := 7)) da_nil)))))) dn_int)) (sn_ret dn_bl) sn_next))))))))))) (sn_ret (dn_andV (dn_op d_eq (dn_call (da_cons (dn_tup (da_cons dn_int (da_cons dn_int da_nil))) (da_cons dn_int (da_cons (dn_tup (da_cons dn_int (da_cons dn_int da_nil))) da_nil)))) (dn_tup (da_cons (dn_tup (da_cons dn_int (da_cons dn_int da_nil))) (da_cons (dn_tup (da_cons dn_int (da_cons dn_int da_nil))) da_nil)))) (dn_op d_is (dn_call (da_cons (dn_tup (da_cons dn_int (da_cons dn_int da_nil))) (da_cons dn_int (da_cons (dn_tup (da_cons dn_int (da_cons dn_int da_nil))) da_nil)))) dn_non))))
end
theorem all_mkL (law_true : ∀ ns : List Int, ns.length ≤ 63 → m_law [scrD ns] = .ok (.da (.bool true))) {l : PySem.W.OpenLaw} {w : World} {K : PySem.W.Frag} {h : Heap} {mg : Str → Option Value} {fa : Addr} {Pt cc : Addr} (X : K.In h) (G : h.Ns mainGlobals mg) (hfa : mg "law" = some (.ref fa))
    {f_is_whole : Addr} {od_is_whole an_is_whole : Option Addr} {sl_is_whole : Array (Option Value)} {oc_is_whole kV_is_whole dc_is_whole pm_is_whole cd_is_whole ct_is_whole : Value} {f_is_between : Addr} {od_is_between an_is_between : Option Addr} {sl_is_between : Array (Option Value)} {oc_is_between kV_is_between dc_is_between pm_is_between cd_is_between ct_is_between : Value} {f_divisor : Addr} {od_divisor an_divisor : Option Addr} {sl_divisor : Array (Option Value)} {oc_divisor kV_divisor dc_divisor pm_divisor cd_divisor ct_divisor : Value} {f_fraction : Addr} {od_fraction an_fraction : Option Addr} {sl_fraction : Array (Option Value)} {oc_fraction kV_fraction dc_fraction pm_fraction cd_fraction ct_fraction : Value} {f_is_urn : Addr} {od_is_urn an_is_urn : Option Addr} {sl_is_urn : Array (Option Value)} {oc_is_urn kV_is_urn dc_is_urn pm_is_urn cd_is_urn ct_is_urn : Value} {f_need_number : Addr} {od_need_number an_need_number : Option Addr} {sl_need_number : Array (Option Value)} {oc_need_number kV_need_number dc_need_number pm_need_number cd_need_number ct_need_number : Value} {f_need_urn : Addr} {od_need_urn an_need_urn : Option Addr} {sl_need_urn : Array (Option Value)} {oc_need_urn kV_need_urn dc_need_urn pm_need_urn cd_need_urn ct_need_urn : Value} {f_need_counts : Addr} {od_need_counts an_need_counts : Option Addr} {sl_need_counts : Array (Option Value)} {oc_need_counts kV_need_counts dc_need_counts pm_need_counts cd_need_counts ct_need_counts : Value} {f_rising_product : Addr} {od_rising_product an_rising_product : Option Addr} {sl_rising_product : Array (Option Value)} {oc_rising_product kV_rising_product dc_rising_product pm_rising_product cd_rising_product ct_rising_product : Value} {f_orders_of : Addr} {od_orders_of an_orders_of : Option Addr} {sl_orders_of : Array (Option Value)} {oc_orders_of kV_orders_of dc_orders_of pm_orders_of cd_orders_of ct_orders_of : Value} {f_chance_by : Addr} {od_chance_by an_chance_by : Option Addr} {sl_chance_by : Array (Option Value)} {oc_chance_by kV_chance_by dc_chance_by pm_chance_by cd_chance_by ct_chance_by : Value} {f_counts_chance : Addr} {od_counts_chance an_counts_chance : Option Addr} {sl_counts_chance : Array (Option Value)} {oc_counts_chance kV_counts_chance dc_counts_chance pm_counts_chance cd_counts_chance ct_counts_chance : Value} {f_next_shares : Addr} {od_next_shares an_next_shares : Option Addr} {sl_next_shares : Array (Option Value)} {oc_next_shares kV_next_shares dc_next_shares pm_next_shares cd_next_shares ct_next_shares : Value} {f__law_cell_at : Addr} {od__law_cell_at an__law_cell_at : Option Addr} {sl__law_cell_at : Array (Option Value)} {oc__law_cell_at kV__law_cell_at dc__law_cell_at pm__law_cell_at cd__law_cell_at ct__law_cell_at : Value} {f__law_state : Addr} {od__law_state an__law_state : Option Addr} {sl__law_state : Array (Option Value)} {oc__law_state kV__law_state dc__law_state pm__law_state cd__law_state ct__law_state : Value} {f__law_take : Addr} {od__law_take an__law_take : Option Addr} {sl__law_take : Array (Option Value)} {oc__law_take kV__law_take dc__law_take pm__law_take cd__law_take ct__law_take : Value} {f__law_refused : Addr} {od__law_refused an__law_refused : Option Addr} {sl__law_refused : Array (Option Value)} {oc__law_refused kV__law_refused dc__law_refused pm__law_refused cd__law_refused ct__law_refused : Value} {f__law_urn : Addr} {od__law_urn an__law_urn : Option Addr} {sl__law_urn : Array (Option Value)} {oc__law_urn kV__law_urn dc__law_urn pm__law_urn cd__law_urn ct__law_urn : Value} {f__law_cut : Addr} {od__law_cut an__law_cut : Option Addr} {sl__law_cut : Array (Option Value)} {oc__law_cut kV__law_cut dc__law_cut pm__law_cut cd__law_cut ct__law_cut : Value} {f__law_whole : Addr} {od__law_whole an__law_whole : Option Addr} {sl__law_whole : Array (Option Value)} {oc__law_whole kV__law_whole dc__law_whole pm__law_whole cd__law_whole ct__law_whole : Value} {f__law_is_urn : Addr} {od__law_is_urn an__law_is_urn : Option Addr} {sl__law_is_urn : Array (Option Value)} {oc__law_is_urn kV__law_is_urn dc__law_is_urn pm__law_is_urn cd__law_is_urn ct__law_is_urn : Value} {f__law_bent_urn : Addr} {od__law_bent_urn an__law_bent_urn : Option Addr} {sl__law_bent_urn : Array (Option Value)} {oc__law_bent_urn kV__law_bent_urn dc__law_bent_urn pm__law_bent_urn cd__law_bent_urn ct__law_bent_urn : Value} {f__law_no_urn : Addr} {od__law_no_urn an__law_no_urn : Option Addr} {sl__law_no_urn : Array (Option Value)} {oc__law_no_urn kV__law_no_urn dc__law_no_urn pm__law_no_urn cd__law_no_urn ct__law_no_urn : Value} {f__law_counts : Addr} {od__law_counts an__law_counts : Option Addr} {sl__law_counts : Array (Option Value)} {oc__law_counts kV__law_counts dc__law_counts pm__law_counts cd__law_counts ct__law_counts : Value} {f__law_bent_counts : Addr} {od__law_bent_counts an__law_bent_counts : Option Addr} {sl__law_bent_counts : Array (Option Value)} {oc__law_bent_counts kV__law_bent_counts dc__law_bent_counts pm__law_bent_counts cd__law_bent_counts ct__law_bent_counts : Value} {f__law_same : Addr} {od__law_same an__law_same : Option Addr} {sl__law_same : Array (Option Value)} {oc__law_same kV__law_same dc__law_same pm__law_same cd__law_same ct__law_same : Value} {f__law_due : Addr} {od__law_due an__law_due : Option Addr} {sl__law_due : Array (Option Value)} {oc__law_due kV__law_due dc__law_due pm__law_due cd__law_due ct__law_due : Value} {f_law : Addr} {od_law an_law : Option Addr} {sl_law : Array (Option Value)} {oc_law kV_law dc_law pm_law ct_law : Value} {t_MOST_BALLS : Tok} {t_MOST_COUNTED : Tok} {t_MOST_KINDS : Tok} {t_MOST_PUT : Tok} {c_BadNote : Addr} {c_NoBall : Addr} {c_NoCounts : Addr} {c_NoDraws : Addr} {c_NoKind : Addr} {c_NoNumber : Addr} {c_NoRule : Addr} {c_NoUrn : Addr} {c_NotAlike : Addr} {c_NotEven : Addr} {c_UrnError : Addr}
    (tb : h.get? Pt = some (PySem.W.tabObj #[]))
    (a_is_whole : PySem.W.nsIn K mainGlobals "is_whole" = some (some (.ref f_is_whole))) (l_is_whole : K.lookup f_is_whole = some ⟨oc_is_whole, od_is_whole, .func (PySem.W.fnOf "is_whole" "is_whole" (defArgs s_is_whole) (defBody s_is_whole) (defScope s_is_whole) .none kV_is_whole dc_is_whole pm_is_whole an_is_whole cd_is_whole ct_is_whole), sl_is_whole⟩) (c_is_whole : PySem.W.codeIn K cd_is_whole "is_whole" = true) (k_is_whole : PySem.W.keepIn K (.ref f_is_whole) = true)
    (a_is_between : PySem.W.nsIn K mainGlobals "is_between" = some (some (.ref f_is_between))) (l_is_between : K.lookup f_is_between = some ⟨oc_is_between, od_is_between, .func (PySem.W.fnOf "is_between" "is_between" (defArgs s_is_between) (defBody s_is_between) (defScope s_is_between) .none kV_is_between dc_is_between pm_is_between an_is_between cd_is_between ct_is_between), sl_is_between⟩) (c_is_between : PySem.W.codeIn K cd_is_between "is_between" = true) (k_is_between : PySem.W.keepIn K (.ref f_is_between) = true)
    (a_divisor : PySem.W.nsIn K mainGlobals "divisor" = some (some (.ref f_divisor))) (l_divisor : K.lookup f_divisor = some ⟨oc_divisor, od_divisor, .func (PySem.W.fnOf "divisor" "divisor" (defArgs s_divisor) (defBody s_divisor) (defScope s_divisor) .none kV_divisor dc_divisor pm_divisor an_divisor cd_divisor ct_divisor), sl_divisor⟩) (c_divisor : PySem.W.codeIn K cd_divisor "divisor" = true) (k_divisor : PySem.W.keepIn K (.ref f_divisor) = true)
    (a_fraction : PySem.W.nsIn K mainGlobals "fraction" = some (some (.ref f_fraction))) (l_fraction : K.lookup f_fraction = some ⟨oc_fraction, od_fraction, .func (PySem.W.fnOf "fraction" "fraction" (defArgs s_fraction) (defBody s_fraction) (defScope s_fraction) .none kV_fraction dc_fraction pm_fraction an_fraction cd_fraction ct_fraction), sl_fraction⟩) (c_fraction : PySem.W.codeIn K cd_fraction "fraction" = true) (k_fraction : PySem.W.keepIn K (.ref f_fraction) = true)
    (a_is_urn : PySem.W.nsIn K mainGlobals "is_urn" = some (some (.ref f_is_urn))) (l_is_urn : K.lookup f_is_urn = some ⟨oc_is_urn, od_is_urn, .func (PySem.W.fnOf "is_urn" "is_urn" (defArgs s_is_urn) (defBody s_is_urn) (defScope s_is_urn) .none kV_is_urn dc_is_urn pm_is_urn an_is_urn cd_is_urn ct_is_urn), sl_is_urn⟩) (c_is_urn : PySem.W.codeIn K cd_is_urn "is_urn" = true) (k_is_urn : PySem.W.keepIn K (.ref f_is_urn) = true)
    (a_need_number : PySem.W.nsIn K mainGlobals "need_number" = some (some (.ref f_need_number))) (l_need_number : K.lookup f_need_number = some ⟨oc_need_number, od_need_number, .func (PySem.W.fnOf "need_number" "need_number" (defArgs s_need_number) (defBody s_need_number) (defScope s_need_number) .none kV_need_number dc_need_number pm_need_number an_need_number cd_need_number ct_need_number), sl_need_number⟩) (c_need_number : PySem.W.codeIn K cd_need_number "need_number" = true) (k_need_number : PySem.W.keepIn K (.ref f_need_number) = true)
    (a_need_urn : PySem.W.nsIn K mainGlobals "need_urn" = some (some (.ref f_need_urn))) (l_need_urn : K.lookup f_need_urn = some ⟨oc_need_urn, od_need_urn, .func (PySem.W.fnOf "need_urn" "need_urn" (defArgs s_need_urn) (defBody s_need_urn) (defScope s_need_urn) .none kV_need_urn dc_need_urn pm_need_urn an_need_urn cd_need_urn ct_need_urn), sl_need_urn⟩) (c_need_urn : PySem.W.codeIn K cd_need_urn "need_urn" = true) (k_need_urn : PySem.W.keepIn K (.ref f_need_urn) = true)
    (a_need_counts : PySem.W.nsIn K mainGlobals "need_counts" = some (some (.ref f_need_counts))) (l_need_counts : K.lookup f_need_counts = some ⟨oc_need_counts, od_need_counts, .func (PySem.W.fnOf "need_counts" "need_counts" (defArgs s_need_counts) (defBody s_need_counts) (defScope s_need_counts) .none kV_need_counts dc_need_counts pm_need_counts an_need_counts cd_need_counts ct_need_counts), sl_need_counts⟩) (c_need_counts : PySem.W.codeIn K cd_need_counts "need_counts" = true) (k_need_counts : PySem.W.keepIn K (.ref f_need_counts) = true)
    (a_rising_product : PySem.W.nsIn K mainGlobals "rising_product" = some (some (.ref f_rising_product))) (l_rising_product : K.lookup f_rising_product = some ⟨oc_rising_product, od_rising_product, .func (PySem.W.fnOf "rising_product" "rising_product" (defArgs s_rising_product) (defBody s_rising_product) (defScope s_rising_product) .none kV_rising_product dc_rising_product pm_rising_product an_rising_product cd_rising_product ct_rising_product), sl_rising_product⟩) (c_rising_product : PySem.W.codeIn K cd_rising_product "rising_product" = true) (k_rising_product : PySem.W.keepIn K (.ref f_rising_product) = true)
    (a_orders_of : PySem.W.nsIn K mainGlobals "orders_of" = some (some (.ref f_orders_of))) (l_orders_of : K.lookup f_orders_of = some ⟨oc_orders_of, od_orders_of, .func (PySem.W.fnOf "orders_of" "orders_of" (defArgs s_orders_of) (defBody s_orders_of) (defScope s_orders_of) .none kV_orders_of dc_orders_of pm_orders_of an_orders_of cd_orders_of ct_orders_of), sl_orders_of⟩) (c_orders_of : PySem.W.codeIn K cd_orders_of "orders_of" = true) (k_orders_of : PySem.W.keepIn K (.ref f_orders_of) = true)
    (a_chance_by : PySem.W.nsIn K mainGlobals "chance_by" = some (some (.ref f_chance_by))) (l_chance_by : K.lookup f_chance_by = some ⟨oc_chance_by, od_chance_by, .func (PySem.W.fnOf "chance_by" "chance_by" (defArgs s_chance_by) (defBody s_chance_by) (defScope s_chance_by) .none kV_chance_by dc_chance_by pm_chance_by an_chance_by cd_chance_by ct_chance_by), sl_chance_by⟩) (c_chance_by : PySem.W.codeIn K cd_chance_by "chance_by" = true) (k_chance_by : PySem.W.keepIn K (.ref f_chance_by) = true)
    (a_counts_chance : PySem.W.nsIn K mainGlobals "counts_chance" = some (some (.ref f_counts_chance))) (l_counts_chance : K.lookup f_counts_chance = some ⟨oc_counts_chance, od_counts_chance, .func (PySem.W.fnOf "counts_chance" "counts_chance" (defArgs s_counts_chance) (defBody s_counts_chance) (defScope s_counts_chance) .none kV_counts_chance dc_counts_chance pm_counts_chance an_counts_chance cd_counts_chance ct_counts_chance), sl_counts_chance⟩) (c_counts_chance : PySem.W.codeIn K cd_counts_chance "counts_chance" = true) (k_counts_chance : PySem.W.keepIn K (.ref f_counts_chance) = true)
    (a_next_shares : PySem.W.nsIn K mainGlobals "next_shares" = some (some (.ref f_next_shares))) (l_next_shares : K.lookup f_next_shares = some ⟨oc_next_shares, od_next_shares, .func (PySem.W.fnOf "next_shares" "next_shares" (defArgs s_next_shares) (defBody s_next_shares) (defScope s_next_shares) .none kV_next_shares dc_next_shares pm_next_shares an_next_shares cd_next_shares ct_next_shares), sl_next_shares⟩) (c_next_shares : PySem.W.codeIn K cd_next_shares "next_shares" = true) (k_next_shares : PySem.W.keepIn K (.ref f_next_shares) = true)
    (a__law_cell_at : PySem.W.nsIn K mainGlobals "_law_cell_at" = some (some (.ref f__law_cell_at))) (l__law_cell_at : K.lookup f__law_cell_at = some ⟨oc__law_cell_at, od__law_cell_at, .func (PySem.W.fnOf "_law_cell_at" "_law_cell_at" (defArgs s__law_cell_at) (defBody s__law_cell_at) (defScope s__law_cell_at) .none kV__law_cell_at dc__law_cell_at pm__law_cell_at an__law_cell_at cd__law_cell_at ct__law_cell_at), sl__law_cell_at⟩) (c__law_cell_at : PySem.W.codeIn K cd__law_cell_at "_law_cell_at" = true) (k__law_cell_at : PySem.W.keepIn K (.ref f__law_cell_at) = true)
    (a__law_state : PySem.W.nsIn K mainGlobals "_law_state" = some (some (.ref f__law_state))) (l__law_state : K.lookup f__law_state = some ⟨oc__law_state, od__law_state, .func (PySem.W.fnOf "_law_state" "_law_state" (defArgs s__law_state) (defBody s__law_state) (defScope s__law_state) .none kV__law_state dc__law_state pm__law_state an__law_state cd__law_state ct__law_state), sl__law_state⟩) (c__law_state : PySem.W.codeIn K cd__law_state "_law_state" = true) (k__law_state : PySem.W.keepIn K (.ref f__law_state) = true)
    (a__law_take : PySem.W.nsIn K mainGlobals "_law_take" = some (some (.ref f__law_take))) (l__law_take : K.lookup f__law_take = some ⟨oc__law_take, od__law_take, .func (PySem.W.fnOf "_law_take" "_law_take" (defArgs s__law_take) (defBody s__law_take) (defScope s__law_take) .none kV__law_take dc__law_take pm__law_take an__law_take cd__law_take ct__law_take), sl__law_take⟩) (c__law_take : PySem.W.codeIn K cd__law_take "_law_take" = true) (k__law_take : PySem.W.keepIn K (.ref f__law_take) = true)
    (a__law_refused : PySem.W.nsIn K mainGlobals "_law_refused" = some (some (.ref f__law_refused))) (l__law_refused : K.lookup f__law_refused = some ⟨oc__law_refused, od__law_refused, .func (PySem.W.fnOf "_law_refused" "_law_refused" (defArgs s__law_refused) (defBody s__law_refused) (defScope s__law_refused) .none kV__law_refused dc__law_refused pm__law_refused an__law_refused cd__law_refused ct__law_refused), sl__law_refused⟩) (c__law_refused : PySem.W.codeIn K cd__law_refused "_law_refused" = true) (k__law_refused : PySem.W.keepIn K (.ref f__law_refused) = true)
    (a__law_urn : PySem.W.nsIn K mainGlobals "_law_urn" = some (some (.ref f__law_urn))) (l__law_urn : K.lookup f__law_urn = some ⟨oc__law_urn, od__law_urn, .func (PySem.W.fnOf "_law_urn" "_law_urn" (defArgs s__law_urn) (defBody s__law_urn) (defScope s__law_urn) .none kV__law_urn dc__law_urn pm__law_urn an__law_urn cd__law_urn ct__law_urn), sl__law_urn⟩) (c__law_urn : PySem.W.codeIn K cd__law_urn "_law_urn" = true) (k__law_urn : PySem.W.keepIn K (.ref f__law_urn) = true)
    (a__law_cut : PySem.W.nsIn K mainGlobals "_law_cut" = some (some (.ref f__law_cut))) (l__law_cut : K.lookup f__law_cut = some ⟨oc__law_cut, od__law_cut, .func (PySem.W.fnOf "_law_cut" "_law_cut" (defArgs s__law_cut) (defBody s__law_cut) (defScope s__law_cut) .none kV__law_cut dc__law_cut pm__law_cut an__law_cut cd__law_cut ct__law_cut), sl__law_cut⟩) (c__law_cut : PySem.W.codeIn K cd__law_cut "_law_cut" = true) (k__law_cut : PySem.W.keepIn K (.ref f__law_cut) = true)
    (a__law_whole : PySem.W.nsIn K mainGlobals "_law_whole" = some (some (.ref f__law_whole))) (l__law_whole : K.lookup f__law_whole = some ⟨oc__law_whole, od__law_whole, .func (PySem.W.fnOf "_law_whole" "_law_whole" (defArgs s__law_whole) (defBody s__law_whole) (defScope s__law_whole) .none kV__law_whole dc__law_whole pm__law_whole an__law_whole cd__law_whole ct__law_whole), sl__law_whole⟩) (c__law_whole : PySem.W.codeIn K cd__law_whole "_law_whole" = true) (k__law_whole : PySem.W.keepIn K (.ref f__law_whole) = true)
    (a__law_is_urn : PySem.W.nsIn K mainGlobals "_law_is_urn" = some (some (.ref f__law_is_urn))) (l__law_is_urn : K.lookup f__law_is_urn = some ⟨oc__law_is_urn, od__law_is_urn, .func (PySem.W.fnOf "_law_is_urn" "_law_is_urn" (defArgs s__law_is_urn) (defBody s__law_is_urn) (defScope s__law_is_urn) .none kV__law_is_urn dc__law_is_urn pm__law_is_urn an__law_is_urn cd__law_is_urn ct__law_is_urn), sl__law_is_urn⟩) (c__law_is_urn : PySem.W.codeIn K cd__law_is_urn "_law_is_urn" = true) (k__law_is_urn : PySem.W.keepIn K (.ref f__law_is_urn) = true)
    (a__law_bent_urn : PySem.W.nsIn K mainGlobals "_law_bent_urn" = some (some (.ref f__law_bent_urn))) (l__law_bent_urn : K.lookup f__law_bent_urn = some ⟨oc__law_bent_urn, od__law_bent_urn, .func (PySem.W.fnOf "_law_bent_urn" "_law_bent_urn" (defArgs s__law_bent_urn) (defBody s__law_bent_urn) (defScope s__law_bent_urn) .none kV__law_bent_urn dc__law_bent_urn pm__law_bent_urn an__law_bent_urn cd__law_bent_urn ct__law_bent_urn), sl__law_bent_urn⟩) (c__law_bent_urn : PySem.W.codeIn K cd__law_bent_urn "_law_bent_urn" = true) (k__law_bent_urn : PySem.W.keepIn K (.ref f__law_bent_urn) = true)
    (a__law_no_urn : PySem.W.nsIn K mainGlobals "_law_no_urn" = some (some (.ref f__law_no_urn))) (l__law_no_urn : K.lookup f__law_no_urn = some ⟨oc__law_no_urn, od__law_no_urn, .func (PySem.W.fnOf "_law_no_urn" "_law_no_urn" (defArgs s__law_no_urn) (defBody s__law_no_urn) (defScope s__law_no_urn) .none kV__law_no_urn dc__law_no_urn pm__law_no_urn an__law_no_urn cd__law_no_urn ct__law_no_urn), sl__law_no_urn⟩) (c__law_no_urn : PySem.W.codeIn K cd__law_no_urn "_law_no_urn" = true) (k__law_no_urn : PySem.W.keepIn K (.ref f__law_no_urn) = true)
    (a__law_counts : PySem.W.nsIn K mainGlobals "_law_counts" = some (some (.ref f__law_counts))) (l__law_counts : K.lookup f__law_counts = some ⟨oc__law_counts, od__law_counts, .func (PySem.W.fnOf "_law_counts" "_law_counts" (defArgs s__law_counts) (defBody s__law_counts) (defScope s__law_counts) .none kV__law_counts dc__law_counts pm__law_counts an__law_counts cd__law_counts ct__law_counts), sl__law_counts⟩) (c__law_counts : PySem.W.codeIn K cd__law_counts "_law_counts" = true) (k__law_counts : PySem.W.keepIn K (.ref f__law_counts) = true)
    (a__law_bent_counts : PySem.W.nsIn K mainGlobals "_law_bent_counts" = some (some (.ref f__law_bent_counts))) (l__law_bent_counts : K.lookup f__law_bent_counts = some ⟨oc__law_bent_counts, od__law_bent_counts, .func (PySem.W.fnOf "_law_bent_counts" "_law_bent_counts" (defArgs s__law_bent_counts) (defBody s__law_bent_counts) (defScope s__law_bent_counts) .none kV__law_bent_counts dc__law_bent_counts pm__law_bent_counts an__law_bent_counts cd__law_bent_counts ct__law_bent_counts), sl__law_bent_counts⟩) (c__law_bent_counts : PySem.W.codeIn K cd__law_bent_counts "_law_bent_counts" = true) (k__law_bent_counts : PySem.W.keepIn K (.ref f__law_bent_counts) = true)
    (a__law_same : PySem.W.nsIn K mainGlobals "_law_same" = some (some (.ref f__law_same))) (l__law_same : K.lookup f__law_same = some ⟨oc__law_same, od__law_same, .func (PySem.W.fnOf "_law_same" "_law_same" (defArgs s__law_same) (defBody s__law_same) (defScope s__law_same) .none kV__law_same dc__law_same pm__law_same an__law_same cd__law_same ct__law_same), sl__law_same⟩) (c__law_same : PySem.W.codeIn K cd__law_same "_law_same" = true) (k__law_same : PySem.W.keepIn K (.ref f__law_same) = true)
    (a__law_due : PySem.W.nsIn K mainGlobals "_law_due" = some (some (.ref f__law_due))) (l__law_due : K.lookup f__law_due = some ⟨oc__law_due, od__law_due, .func (PySem.W.fnOf "_law_due" "_law_due" (defArgs s__law_due) (defBody s__law_due) (defScope s__law_due) .none kV__law_due dc__law_due pm__law_due an__law_due cd__law_due ct__law_due), sl__law_due⟩) (c__law_due : PySem.W.codeIn K cd__law_due "_law_due" = true) (k__law_due : PySem.W.keepIn K (.ref f__law_due) = true)
    (a_law : PySem.W.nsIn K mainGlobals "law" = some (some (.ref f_law))) (l_law : K.lookup f_law = some ⟨oc_law, od_law, .func (PySem.W.fnOf "law" "law" (defArgs s_law) (defBody s_law) (defScope s_law) .none kV_law dc_law pm_law an_law (.ref cc) ct_law), sl_law⟩) (c_law : PySem.W.codeIn K (.ref cc) "law" = true) (k_law : PySem.W.keepIn K (.ref f_law) = true)
    (z_ValueError : PySem.W.nsIn K mainGlobals "ValueError" = some none)
    (z_abs : PySem.W.nsIn K mainGlobals "abs" = some none)
    (z_all : PySem.W.nsIn K mainGlobals "all" = some none)
    (z_bool : PySem.W.nsIn K mainGlobals "bool" = some none)
    (z_int : PySem.W.nsIn K mainGlobals "int" = some none)
    (z_isinstance : PySem.W.nsIn K mainGlobals "isinstance" = some none)
    (z_len : PySem.W.nsIn K mainGlobals "len" = some none)
    (z_list : PySem.W.nsIn K mainGlobals "list" = some none)
    (z_max : PySem.W.nsIn K mainGlobals "max" = some none)
    (z_min : PySem.W.nsIn K mainGlobals "min" = some none)
    (z_range : PySem.W.nsIn K mainGlobals "range" = some none)
    (z_sum : PySem.W.nsIn K mainGlobals "sum" = some none)
    (z_tuple : PySem.W.nsIn K mainGlobals "tuple" = some none)
    (z_zip : PySem.W.nsIn K mainGlobals "zip" = some none)
    (m_MOST_BALLS : PySem.W.nsIn K mainGlobals "MOST_BALLS" = some (some (.int 20 t_MOST_BALLS)))
    (m_MOST_COUNTED : PySem.W.nsIn K mainGlobals "MOST_COUNTED" = some (some (.int 40 t_MOST_COUNTED)))
    (m_MOST_KINDS : PySem.W.nsIn K mainGlobals "MOST_KINDS" = some (some (.int 4 t_MOST_KINDS)))
    (m_MOST_PUT : PySem.W.nsIn K mainGlobals "MOST_PUT" = some (some (.int 5 t_MOST_PUT)))
    (m_BadNote : PySem.W.nsIn K mainGlobals "BadNote" = some (some (.ref c_BadNote)))
    (m_NoBall : PySem.W.nsIn K mainGlobals "NoBall" = some (some (.ref c_NoBall)))
    (m_NoCounts : PySem.W.nsIn K mainGlobals "NoCounts" = some (some (.ref c_NoCounts)))
    (m_NoDraws : PySem.W.nsIn K mainGlobals "NoDraws" = some (some (.ref c_NoDraws)))
    (m_NoKind : PySem.W.nsIn K mainGlobals "NoKind" = some (some (.ref c_NoKind)))
    (m_NoNumber : PySem.W.nsIn K mainGlobals "NoNumber" = some (some (.ref c_NoNumber)))
    (m_NoRule : PySem.W.nsIn K mainGlobals "NoRule" = some (some (.ref c_NoRule)))
    (m_NoUrn : PySem.W.nsIn K mainGlobals "NoUrn" = some (some (.ref c_NoUrn)))
    (m_NotAlike : PySem.W.nsIn K mainGlobals "NotAlike" = some (some (.ref c_NotAlike)))
    (m_NotEven : PySem.W.nsIn K mainGlobals "NotEven" = some (some (.ref c_NotEven)))
    (m_UrnError : PySem.W.nsIn K mainGlobals "UrnError" = some (some (.ref c_UrnError)))
    (x_NoCounts : PySem.W.excIn K c_NoCounts [.type "ValueError", .type "Exception", .type "BaseException", .type "object"] "ValueError.__new__" = true)
    (k_NoCounts : PySem.W.keepIn K (.ref c_NoCounts) = true)
    (b_NoCounts : PySem.W.subIn K (.ref c_NoCounts) (.type "BaseException") = some true)
    (ty_NoCounts : PySem.W.typeIn K (.ref c_NoCounts) = some (.type "type"))
    (u_NoCounts : PySem.W.subIn K (.ref c_NoCounts) (.ref c_UrnError) = some true)
    (i_NoCounts_NoKind : PySem.W.kitOne K (.ref c_NoCounts) (.ref c_NoKind) = some false)
    (i_NoCounts_NoRule : PySem.W.kitOne K (.ref c_NoCounts) (.ref c_NoRule) = some false)
    (i_NoCounts_NoUrn : PySem.W.kitOne K (.ref c_NoCounts) (.ref c_NoUrn) = some false)
    (i_NoCounts_NoNumber : PySem.W.kitOne K (.ref c_NoCounts) (.ref c_NoNumber) = some false)
    (i_NoCounts_NoDraws : PySem.W.kitOne K (.ref c_NoCounts) (.ref c_NoDraws) = some false)
    (i_NoCounts_NoBall : PySem.W.kitOne K (.ref c_NoCounts) (.ref c_NoBall) = some false)
    (i_NoCounts_NotAlike : PySem.W.kitOne K (.ref c_NoCounts) (.ref c_NotAlike) = some false)
    (i_NoCounts_NoCounts : PySem.W.kitOne K (.ref c_NoCounts) (.ref c_NoCounts) = some true)
    (i_NoCounts_NotEven : PySem.W.kitOne K (.ref c_NoCounts) (.ref c_NotEven) = some false)
    (i_NoCounts_BadNote : PySem.W.kitOne K (.ref c_NoCounts) (.ref c_BadNote) = some false)
    (i_NoCounts_ValueError : PySem.W.kitOne K (.ref c_NoCounts) (.type "ValueError") = some true)
    (x_NoNumber : PySem.W.excIn K c_NoNumber [.type "ValueError", .type "Exception", .type "BaseException", .type "object"] "ValueError.__new__" = true)
    (k_NoNumber : PySem.W.keepIn K (.ref c_NoNumber) = true)
    (b_NoNumber : PySem.W.subIn K (.ref c_NoNumber) (.type "BaseException") = some true)
    (ty_NoNumber : PySem.W.typeIn K (.ref c_NoNumber) = some (.type "type"))
    (u_NoNumber : PySem.W.subIn K (.ref c_NoNumber) (.ref c_UrnError) = some true)
    (i_NoNumber_NoKind : PySem.W.kitOne K (.ref c_NoNumber) (.ref c_NoKind) = some false)
    (i_NoNumber_NoRule : PySem.W.kitOne K (.ref c_NoNumber) (.ref c_NoRule) = some false)
    (i_NoNumber_NoUrn : PySem.W.kitOne K (.ref c_NoNumber) (.ref c_NoUrn) = some false)
    (i_NoNumber_NoNumber : PySem.W.kitOne K (.ref c_NoNumber) (.ref c_NoNumber) = some true)
    (i_NoNumber_NoDraws : PySem.W.kitOne K (.ref c_NoNumber) (.ref c_NoDraws) = some false)
    (i_NoNumber_NoBall : PySem.W.kitOne K (.ref c_NoNumber) (.ref c_NoBall) = some false)
    (i_NoNumber_NotAlike : PySem.W.kitOne K (.ref c_NoNumber) (.ref c_NotAlike) = some false)
    (i_NoNumber_NoCounts : PySem.W.kitOne K (.ref c_NoNumber) (.ref c_NoCounts) = some false)
    (i_NoNumber_NotEven : PySem.W.kitOne K (.ref c_NoNumber) (.ref c_NotEven) = some false)
    (i_NoNumber_BadNote : PySem.W.kitOne K (.ref c_NoNumber) (.ref c_BadNote) = some false)
    (i_NoNumber_ValueError : PySem.W.kitOne K (.ref c_NoNumber) (.type "ValueError") = some true)
    (x_NoUrn : PySem.W.excIn K c_NoUrn [.type "ValueError", .type "Exception", .type "BaseException", .type "object"] "ValueError.__new__" = true)
    (k_NoUrn : PySem.W.keepIn K (.ref c_NoUrn) = true)
    (b_NoUrn : PySem.W.subIn K (.ref c_NoUrn) (.type "BaseException") = some true)
    (ty_NoUrn : PySem.W.typeIn K (.ref c_NoUrn) = some (.type "type"))
    (u_NoUrn : PySem.W.subIn K (.ref c_NoUrn) (.ref c_UrnError) = some true)
    (i_NoUrn_NoKind : PySem.W.kitOne K (.ref c_NoUrn) (.ref c_NoKind) = some false)
    (i_NoUrn_NoRule : PySem.W.kitOne K (.ref c_NoUrn) (.ref c_NoRule) = some false)
    (i_NoUrn_NoUrn : PySem.W.kitOne K (.ref c_NoUrn) (.ref c_NoUrn) = some true)
    (i_NoUrn_NoNumber : PySem.W.kitOne K (.ref c_NoUrn) (.ref c_NoNumber) = some false)
    (i_NoUrn_NoDraws : PySem.W.kitOne K (.ref c_NoUrn) (.ref c_NoDraws) = some false)
    (i_NoUrn_NoBall : PySem.W.kitOne K (.ref c_NoUrn) (.ref c_NoBall) = some false)
    (i_NoUrn_NotAlike : PySem.W.kitOne K (.ref c_NoUrn) (.ref c_NotAlike) = some false)
    (i_NoUrn_NoCounts : PySem.W.kitOne K (.ref c_NoUrn) (.ref c_NoCounts) = some false)
    (i_NoUrn_NotEven : PySem.W.kitOne K (.ref c_NoUrn) (.ref c_NotEven) = some false)
    (i_NoUrn_BadNote : PySem.W.kitOne K (.ref c_NoUrn) (.ref c_BadNote) = some false)
    (i_NoUrn_ValueError : PySem.W.kitOne K (.ref c_NoUrn) (.type "ValueError") = some true)
    (b_UrnError : PySem.W.subIn K (.ref c_UrnError) (.type "BaseException") = some true)
    (hd_UrnError : PySem.W.hasDictIn K c_UrnError = true)
    (ty_UrnError : PySem.W.typeIn K (.ref c_UrnError) = some (.type "type"))
    (ehg_NoCounts : PySem.W.findIn K (.ref c_NoCounts) "__getattribute__" = some (some (.builtin "BaseException.__getattribute__")))
    (ehk_NoCounts : PySem.W.findIn K (.ref c_NoCounts) "__getattr__" = some none)
    (ehs_NoCounts : PySem.W.subIn K (.ref c_NoCounts) (.type "BaseException") = some true)
    (ehd_NoCounts : PySem.W.hasDictIn K c_NoCounts = true)
    (eha_NoCounts : PySem.W.findIn K (.ref c_NoCounts) "__class__" = some (some (.builtin "object.__class__")))
    (ehn_NoCounts : PySem.W.specialIn K (.builtin "object.__class__") "__get__" = some (some (.builtin "getset_descriptor.__get__")))
    (eht_NoCounts : PySem.W.takesIn K (.builtin "object.__class__") = some true)
    (ehm_NoCounts : PySem.W.mroIn K c_NoCounts (.type "object") = some true)
    (ehg_NoNumber : PySem.W.findIn K (.ref c_NoNumber) "__getattribute__" = some (some (.builtin "BaseException.__getattribute__")))
    (ehk_NoNumber : PySem.W.findIn K (.ref c_NoNumber) "__getattr__" = some none)
    (ehs_NoNumber : PySem.W.subIn K (.ref c_NoNumber) (.type "BaseException") = some true)
    (ehd_NoNumber : PySem.W.hasDictIn K c_NoNumber = true)
    (eha_NoNumber : PySem.W.findIn K (.ref c_NoNumber) "__class__" = some (some (.builtin "object.__class__")))
    (ehn_NoNumber : PySem.W.specialIn K (.builtin "object.__class__") "__get__" = some (some (.builtin "getset_descriptor.__get__")))
    (eht_NoNumber : PySem.W.takesIn K (.builtin "object.__class__") = some true)
    (ehm_NoNumber : PySem.W.mroIn K c_NoNumber (.type "object") = some true)
    (ehg_NoUrn : PySem.W.findIn K (.ref c_NoUrn) "__getattribute__" = some (some (.builtin "BaseException.__getattribute__")))
    (ehk_NoUrn : PySem.W.findIn K (.ref c_NoUrn) "__getattr__" = some none)
    (ehs_NoUrn : PySem.W.subIn K (.ref c_NoUrn) (.type "BaseException") = some true)
    (ehd_NoUrn : PySem.W.hasDictIn K c_NoUrn = true)
    (eha_NoUrn : PySem.W.findIn K (.ref c_NoUrn) "__class__" = some (some (.builtin "object.__class__")))
    (ehn_NoUrn : PySem.W.specialIn K (.builtin "object.__class__") "__get__" = some (some (.builtin "getset_descriptor.__get__")))
    (eht_NoUrn : PySem.W.takesIn K (.builtin "object.__class__") = some true)
    (ehm_NoUrn : PySem.W.mroIn K c_NoUrn (.type "object") = some true)
    (nT : K.lookup Pt = none) (cT : PySem.W.codeHdIn K cc Pt = true) :
    LamX.LawAtS l w K (L2.CX l.prog w) 9 63 "_law_script" mg fa h := by
  have e := hfa.symm.trans (PySem.W.mg_of X G a_law)
  cases e
  let T : Tx K mg := {
    f_is_whole := f_is_whole
    fd_is_whole := _
    F_is_whole := fun_mk (st := s_is_whole) l_is_whole c_is_whole k_is_whole
    g_is_whole := PySem.W.mg_of X G a_is_whole
    f_is_between := f_is_between
    fd_is_between := _
    F_is_between := fun_mk (st := s_is_between) l_is_between c_is_between k_is_between
    g_is_between := PySem.W.mg_of X G a_is_between
    f_divisor := f_divisor
    fd_divisor := _
    F_divisor := fun_mk (st := s_divisor) l_divisor c_divisor k_divisor
    g_divisor := PySem.W.mg_of X G a_divisor
    f_fraction := f_fraction
    fd_fraction := _
    F_fraction := fun_mk (st := s_fraction) l_fraction c_fraction k_fraction
    g_fraction := PySem.W.mg_of X G a_fraction
    f_is_urn := f_is_urn
    fd_is_urn := _
    F_is_urn := fun_mk (st := s_is_urn) l_is_urn c_is_urn k_is_urn
    g_is_urn := PySem.W.mg_of X G a_is_urn
    f_need_number := f_need_number
    fd_need_number := _
    F_need_number := fun_mk (st := s_need_number) l_need_number c_need_number k_need_number
    g_need_number := PySem.W.mg_of X G a_need_number
    f_need_urn := f_need_urn
    fd_need_urn := _
    F_need_urn := fun_mk (st := s_need_urn) l_need_urn c_need_urn k_need_urn
    g_need_urn := PySem.W.mg_of X G a_need_urn
    f_need_counts := f_need_counts
    fd_need_counts := _
    F_need_counts := fun_mk (st := s_need_counts) l_need_counts c_need_counts k_need_counts
    g_need_counts := PySem.W.mg_of X G a_need_counts
    f_rising_product := f_rising_product
    fd_rising_product := _
    F_rising_product := fun_mk (st := s_rising_product) l_rising_product c_rising_product k_rising_product
    g_rising_product := PySem.W.mg_of X G a_rising_product
    f_orders_of := f_orders_of
    fd_orders_of := _
    F_orders_of := fun_mk (st := s_orders_of) l_orders_of c_orders_of k_orders_of
    g_orders_of := PySem.W.mg_of X G a_orders_of
    f_chance_by := f_chance_by
    fd_chance_by := _
    F_chance_by := fun_mk (st := s_chance_by) l_chance_by c_chance_by k_chance_by
    g_chance_by := PySem.W.mg_of X G a_chance_by
    f_counts_chance := f_counts_chance
    fd_counts_chance := _
    F_counts_chance := fun_mk (st := s_counts_chance) l_counts_chance c_counts_chance k_counts_chance
    g_counts_chance := PySem.W.mg_of X G a_counts_chance
    f_next_shares := f_next_shares
    fd_next_shares := _
    F_next_shares := fun_mk (st := s_next_shares) l_next_shares c_next_shares k_next_shares
    g_next_shares := PySem.W.mg_of X G a_next_shares
    f__law_cell_at := f__law_cell_at
    fd__law_cell_at := _
    F__law_cell_at := fun_mk (st := s__law_cell_at) l__law_cell_at c__law_cell_at k__law_cell_at
    g__law_cell_at := PySem.W.mg_of X G a__law_cell_at
    f__law_state := f__law_state
    fd__law_state := _
    F__law_state := fun_mk (st := s__law_state) l__law_state c__law_state k__law_state
    g__law_state := PySem.W.mg_of X G a__law_state
    f__law_take := f__law_take
    fd__law_take := _
    F__law_take := fun_mk (st := s__law_take) l__law_take c__law_take k__law_take
    g__law_take := PySem.W.mg_of X G a__law_take
    f__law_refused := f__law_refused
    fd__law_refused := _
    F__law_refused := fun_mk (st := s__law_refused) l__law_refused c__law_refused k__law_refused
    g__law_refused := PySem.W.mg_of X G a__law_refused
    f__law_urn := f__law_urn
    fd__law_urn := _
    F__law_urn := fun_mk (st := s__law_urn) l__law_urn c__law_urn k__law_urn
    g__law_urn := PySem.W.mg_of X G a__law_urn
    f__law_cut := f__law_cut
    fd__law_cut := _
    F__law_cut := fun_mk (st := s__law_cut) l__law_cut c__law_cut k__law_cut
    g__law_cut := PySem.W.mg_of X G a__law_cut
    f__law_whole := f__law_whole
    fd__law_whole := _
    F__law_whole := fun_mk (st := s__law_whole) l__law_whole c__law_whole k__law_whole
    g__law_whole := PySem.W.mg_of X G a__law_whole
    f__law_is_urn := f__law_is_urn
    fd__law_is_urn := _
    F__law_is_urn := fun_mk (st := s__law_is_urn) l__law_is_urn c__law_is_urn k__law_is_urn
    g__law_is_urn := PySem.W.mg_of X G a__law_is_urn
    f__law_bent_urn := f__law_bent_urn
    fd__law_bent_urn := _
    F__law_bent_urn := fun_mk (st := s__law_bent_urn) l__law_bent_urn c__law_bent_urn k__law_bent_urn
    g__law_bent_urn := PySem.W.mg_of X G a__law_bent_urn
    f__law_no_urn := f__law_no_urn
    fd__law_no_urn := _
    F__law_no_urn := fun_mk (st := s__law_no_urn) l__law_no_urn c__law_no_urn k__law_no_urn
    g__law_no_urn := PySem.W.mg_of X G a__law_no_urn
    f__law_counts := f__law_counts
    fd__law_counts := _
    F__law_counts := fun_mk (st := s__law_counts) l__law_counts c__law_counts k__law_counts
    g__law_counts := PySem.W.mg_of X G a__law_counts
    f__law_bent_counts := f__law_bent_counts
    fd__law_bent_counts := _
    F__law_bent_counts := fun_mk (st := s__law_bent_counts) l__law_bent_counts c__law_bent_counts k__law_bent_counts
    g__law_bent_counts := PySem.W.mg_of X G a__law_bent_counts
    f__law_same := f__law_same
    fd__law_same := _
    F__law_same := fun_mk (st := s__law_same) l__law_same c__law_same k__law_same
    g__law_same := PySem.W.mg_of X G a__law_same
    f__law_due := f__law_due
    fd__law_due := _
    F__law_due := fun_mk (st := s__law_due) l__law_due c__law_due k__law_due
    g__law_due := PySem.W.mg_of X G a__law_due
    f_law := fa
    fd_law := _
    F_law := fun_mk (st := s_law) l_law c_law k_law
    g_law := PySem.W.mg_of X G a_law
    z_ValueError := PySem.W.mg_none_of X G z_ValueError
    z_abs := PySem.W.mg_none_of X G z_abs
    z_all := PySem.W.mg_none_of X G z_all
    z_bool := PySem.W.mg_none_of X G z_bool
    z_int := PySem.W.mg_none_of X G z_int
    z_isinstance := PySem.W.mg_none_of X G z_isinstance
    z_len := PySem.W.mg_none_of X G z_len
    z_list := PySem.W.mg_none_of X G z_list
    z_max := PySem.W.mg_none_of X G z_max
    z_min := PySem.W.mg_none_of X G z_min
    z_range := PySem.W.mg_none_of X G z_range
    z_sum := PySem.W.mg_none_of X G z_sum
    z_tuple := PySem.W.mg_none_of X G z_tuple
    z_zip := PySem.W.mg_none_of X G z_zip
    t_MOST_BALLS := t_MOST_BALLS
    m_MOST_BALLS := PySem.W.mg_of X G m_MOST_BALLS
    t_MOST_COUNTED := t_MOST_COUNTED
    m_MOST_COUNTED := PySem.W.mg_of X G m_MOST_COUNTED
    t_MOST_KINDS := t_MOST_KINDS
    m_MOST_KINDS := PySem.W.mg_of X G m_MOST_KINDS
    t_MOST_PUT := t_MOST_PUT
    m_MOST_PUT := PySem.W.mg_of X G m_MOST_PUT
    c_BadNote := c_BadNote
    m_BadNote := PySem.W.mg_of X G m_BadNote
    c_NoBall := c_NoBall
    m_NoBall := PySem.W.mg_of X G m_NoBall
    c_NoCounts := c_NoCounts
    m_NoCounts := PySem.W.mg_of X G m_NoCounts
    c_NoDraws := c_NoDraws
    m_NoDraws := PySem.W.mg_of X G m_NoDraws
    c_NoKind := c_NoKind
    m_NoKind := PySem.W.mg_of X G m_NoKind
    c_NoNumber := c_NoNumber
    m_NoNumber := PySem.W.mg_of X G m_NoNumber
    c_NoRule := c_NoRule
    m_NoRule := PySem.W.mg_of X G m_NoRule
    c_NoUrn := c_NoUrn
    m_NoUrn := PySem.W.mg_of X G m_NoUrn
    c_NotAlike := c_NotAlike
    m_NotAlike := PySem.W.mg_of X G m_NotAlike
    c_NotEven := c_NotEven
    m_NotEven := PySem.W.mg_of X G m_NotEven
    c_UrnError := c_UrnError
    m_UrnError := PySem.W.mg_of X G m_UrnError
    x_NoCounts := x_NoCounts
    k_NoCounts := k_NoCounts
    b_NoCounts := b_NoCounts
    ty_NoCounts := ty_NoCounts
    u_NoCounts := u_NoCounts
    i_NoCounts_NoKind := i_NoCounts_NoKind
    i_NoCounts_NoRule := i_NoCounts_NoRule
    i_NoCounts_NoUrn := i_NoCounts_NoUrn
    i_NoCounts_NoNumber := i_NoCounts_NoNumber
    i_NoCounts_NoDraws := i_NoCounts_NoDraws
    i_NoCounts_NoBall := i_NoCounts_NoBall
    i_NoCounts_NotAlike := i_NoCounts_NotAlike
    i_NoCounts_NoCounts := i_NoCounts_NoCounts
    i_NoCounts_NotEven := i_NoCounts_NotEven
    i_NoCounts_BadNote := i_NoCounts_BadNote
    i_NoCounts_ValueError := i_NoCounts_ValueError
    x_NoNumber := x_NoNumber
    k_NoNumber := k_NoNumber
    b_NoNumber := b_NoNumber
    ty_NoNumber := ty_NoNumber
    u_NoNumber := u_NoNumber
    i_NoNumber_NoKind := i_NoNumber_NoKind
    i_NoNumber_NoRule := i_NoNumber_NoRule
    i_NoNumber_NoUrn := i_NoNumber_NoUrn
    i_NoNumber_NoNumber := i_NoNumber_NoNumber
    i_NoNumber_NoDraws := i_NoNumber_NoDraws
    i_NoNumber_NoBall := i_NoNumber_NoBall
    i_NoNumber_NotAlike := i_NoNumber_NotAlike
    i_NoNumber_NoCounts := i_NoNumber_NoCounts
    i_NoNumber_NotEven := i_NoNumber_NotEven
    i_NoNumber_BadNote := i_NoNumber_BadNote
    i_NoNumber_ValueError := i_NoNumber_ValueError
    x_NoUrn := x_NoUrn
    k_NoUrn := k_NoUrn
    b_NoUrn := b_NoUrn
    ty_NoUrn := ty_NoUrn
    u_NoUrn := u_NoUrn
    i_NoUrn_NoKind := i_NoUrn_NoKind
    i_NoUrn_NoRule := i_NoUrn_NoRule
    i_NoUrn_NoUrn := i_NoUrn_NoUrn
    i_NoUrn_NoNumber := i_NoUrn_NoNumber
    i_NoUrn_NoDraws := i_NoUrn_NoDraws
    i_NoUrn_NoBall := i_NoUrn_NoBall
    i_NoUrn_NotAlike := i_NoUrn_NotAlike
    i_NoUrn_NoCounts := i_NoUrn_NoCounts
    i_NoUrn_NotEven := i_NoUrn_NotEven
    i_NoUrn_BadNote := i_NoUrn_BadNote
    i_NoUrn_ValueError := i_NoUrn_ValueError
    b_UrnError := b_UrnError
    hd_UrnError := hd_UrnError
    ty_UrnError := ty_UrnError
    e_NoCounts := ⟨ehg_NoCounts, ehk_NoCounts, ehs_NoCounts, ehd_NoCounts, eha_NoCounts, ehn_NoCounts, eht_NoCounts, ehm_NoCounts⟩
    e_NoNumber := ⟨ehg_NoNumber, ehk_NoNumber, ehs_NoNumber, ehd_NoNumber, eha_NoNumber, ehn_NoNumber, eht_NoNumber, ehm_NoNumber⟩
    e_NoUrn := ⟨ehg_NoUrn, ehk_NoUrn, ehs_NoUrn, ehd_NoUrn, eha_NoUrn, ehn_NoUrn, eht_NoUrn, ehm_NoUrn⟩ }
  refine ⟨T.fd_law, [(cc, Pt)], spLawT K Pt, fun p hp => ?_, fun p hp => ?_, fun p hp => ?_, fun s v => .of_eq rfl, fun H a ns hl _ hT hS => ⟨a, ns, rfl, hS, hl, hT (cc, Pt) (List.mem_singleton.mpr rfl), fun _ => rfl⟩, fun base _ _ hTB => law_impT (ok_law T l_law c_law (hTB (cc, Pt) (List.mem_singleton.mpr rfl))) law_true⟩
  · cases List.mem_singleton.mp hp; exact tb
  · cases List.mem_singleton.mp hp; exact nT
  · cases List.mem_singleton.mp hp; exact PySem.W.codeHd_of_K X cT
end LawHere

open PySem PySem.W PyProof.Rows
set_option maxHeartbeats 0 in
theorem PySem.Challenge.cw_growurns_k52_the_next_draw_holds : PySem.Challenge.rw_growurns_k52_the_next_draw.Holds := by
  w_on; o_law; k_head; (case hw => w_witness2)
  k_fill
  refine LamX.walk_ofTs (l := PySem.Challenge.rw_growurns_k52_the_next_draw) (n := 63) (k := 9) (x := "_law_script") (CX := fun w => L2.CX PySem.Challenge.rw_growurns_k52_the_next_draw.prog w) rfl (by decide) rfl ⟨rfl, by decide, by decide⟩ (fun w h Y => PySem.W.km_in_of Y) ?F (fun _ _ _ _ _ h => GD.cx_none h)
  case F =>
    intro w mg fa h Y KX G hmg
    refine' LawHere.all_mkL LawHere.law_true KX G hmg (PySem.W.km_tabs_of Y _ (List.Mem.head _)) ?a_is_whole ?l_is_whole ?c_is_whole ?k_is_whole ?a_is_between ?l_is_between ?c_is_between ?k_is_between ?a_divisor ?l_divisor ?c_divisor ?k_divisor ?a_fraction ?l_fraction ?c_fraction ?k_fraction ?a_is_urn ?l_is_urn ?c_is_urn ?k_is_urn ?a_need_number ?l_need_number ?c_need_number ?k_need_number ?a_need_urn ?l_need_urn ?c_need_urn ?k_need_urn ?a_need_counts ?l_need_counts ?c_need_counts ?k_need_counts ?a_rising_product ?l_rising_product ?c_rising_product ?k_rising_product ?a_orders_of ?l_orders_of ?c_orders_of ?k_orders_of ?a_chance_by ?l_chance_by ?c_chance_by ?k_chance_by ?a_counts_chance ?l_counts_chance ?c_counts_chance ?k_counts_chance ?a_next_shares ?l_next_shares ?c_next_shares ?k_next_shares ?a__law_cell_at ?l__law_cell_at ?c__law_cell_at ?k__law_cell_at ?a__law_state ?l__law_state ?c__law_state ?k__law_state ?a__law_take ?l__law_take ?c__law_take ?k__law_take ?a__law_refused ?l__law_refused ?c__law_refused ?k__law_refused ?a__law_urn ?l__law_urn ?c__law_urn ?k__law_urn ?a__law_cut ?l__law_cut ?c__law_cut ?k__law_cut ?a__law_whole ?l__law_whole ?c__law_whole ?k__law_whole ?a__law_is_urn ?l__law_is_urn ?c__law_is_urn ?k__law_is_urn ?a__law_bent_urn ?l__law_bent_urn ?c__law_bent_urn ?k__law_bent_urn ?a__law_no_urn ?l__law_no_urn ?c__law_no_urn ?k__law_no_urn ?a__law_counts ?l__law_counts ?c__law_counts ?k__law_counts ?a__law_bent_counts ?l__law_bent_counts ?c__law_bent_counts ?k__law_bent_counts ?a__law_same ?l__law_same ?c__law_same ?k__law_same ?a__law_due ?l__law_due ?c__law_due ?k__law_due ?a_law ?l_law ?c_law ?k_law ?z_ValueError ?z_abs ?z_all ?z_bool ?z_int ?z_isinstance ?z_len ?z_list ?z_max ?z_min ?z_range ?z_sum ?z_tuple ?z_zip ?m_MOST_BALLS ?m_MOST_COUNTED ?m_MOST_KINDS ?m_MOST_PUT ?m_BadNote ?m_NoBall ?m_NoCounts ?m_NoDraws ?m_NoKind ?m_NoNumber ?m_NoRule ?m_NoUrn ?m_NotAlike ?m_NotEven ?m_UrnError ?x_NoCounts ?k_NoCounts ?b_NoCounts ?ty_NoCounts ?u_NoCounts ?i_NoCounts_NoKind ?i_NoCounts_NoRule ?i_NoCounts_NoUrn ?i_NoCounts_NoNumber ?i_NoCounts_NoDraws ?i_NoCounts_NoBall ?i_NoCounts_NotAlike ?i_NoCounts_NoCounts ?i_NoCounts_NotEven ?i_NoCounts_BadNote ?i_NoCounts_ValueError ?x_NoNumber ?k_NoNumber ?b_NoNumber ?ty_NoNumber ?u_NoNumber ?i_NoNumber_NoKind ?i_NoNumber_NoRule ?i_NoNumber_NoUrn ?i_NoNumber_NoNumber ?i_NoNumber_NoDraws ?i_NoNumber_NoBall ?i_NoNumber_NotAlike ?i_NoNumber_NoCounts ?i_NoNumber_NotEven ?i_NoNumber_BadNote ?i_NoNumber_ValueError ?x_NoUrn ?k_NoUrn ?b_NoUrn ?ty_NoUrn ?u_NoUrn ?i_NoUrn_NoKind ?i_NoUrn_NoRule ?i_NoUrn_NoUrn ?i_NoUrn_NoNumber ?i_NoUrn_NoDraws ?i_NoUrn_NoBall ?i_NoUrn_NotAlike ?i_NoUrn_NoCounts ?i_NoUrn_NotEven ?i_NoUrn_BadNote ?i_NoUrn_ValueError ?b_UrnError ?hd_UrnError ?ty_UrnError ?ehg_NoCounts ?ehk_NoCounts ?ehs_NoCounts ?ehd_NoCounts ?eha_NoCounts ?ehn_NoCounts ?eht_NoCounts ?ehm_NoCounts ?ehg_NoNumber ?ehk_NoNumber ?ehs_NoNumber ?ehd_NoNumber ?eha_NoNumber ?ehn_NoNumber ?eht_NoNumber ?ehm_NoNumber ?ehg_NoUrn ?ehk_NoUrn ?ehs_NoUrn ?ehd_NoUrn ?eha_NoUrn ?ehn_NoUrn ?eht_NoUrn ?ehm_NoUrn ?nT ?cT
    (case a_is_whole => k_is); (case l_is_whole => k_is); (case c_is_whole => k_is); (case k_is_whole => k_is); (case a_is_between => k_is); (case l_is_between => k_is); (case c_is_between => k_is); (case k_is_between => k_is); (case a_divisor => k_is); (case l_divisor => k_is); (case c_divisor => k_is); (case k_divisor => k_is); (case a_fraction => k_is); (case l_fraction => k_is); (case c_fraction => k_is); (case k_fraction => k_is); (case a_is_urn => k_is); (case l_is_urn => k_is); (case c_is_urn => k_is); (case k_is_urn => k_is); (case a_need_number => k_is); (case l_need_number => k_is); (case c_need_number => k_is); (case k_need_number => k_is); (case a_need_urn => k_is); (case l_need_urn => k_is); (case c_need_urn => k_is); (case k_need_urn => k_is); (case a_need_counts => k_is); (case l_need_counts => k_is); (case c_need_counts => k_is); (case k_need_counts => k_is); (case a_rising_product => k_is); (case l_rising_product => k_is); (case c_rising_product => k_is); (case k_rising_product => k_is); (case a_orders_of => k_is); (case l_orders_of => k_is); (case c_orders_of => k_is); (case k_orders_of => k_is); (case a_chance_by => k_is); (case l_chance_by => k_is); (case c_chance_by => k_is); (case k_chance_by => k_is); (case a_counts_chance => k_is); (case l_counts_chance => k_is); (case c_counts_chance => k_is); (case k_counts_chance => k_is); (case a_next_shares => k_is); (case l_next_shares => k_is); (case c_next_shares => k_is); (case k_next_shares => k_is); (case a__law_cell_at => k_is); (case l__law_cell_at => k_is); (case c__law_cell_at => k_is); (case k__law_cell_at => k_is); (case a__law_state => k_is); (case l__law_state => k_is); (case c__law_state => k_is); (case k__law_state => k_is); (case a__law_take => k_is); (case l__law_take => k_is); (case c__law_take => k_is); (case k__law_take => k_is); (case a__law_refused => k_is); (case l__law_refused => k_is); (case c__law_refused => k_is); (case k__law_refused => k_is); (case a__law_urn => k_is); (case l__law_urn => k_is); (case c__law_urn => k_is); (case k__law_urn => k_is); (case a__law_cut => k_is); (case l__law_cut => k_is); (case c__law_cut => k_is); (case k__law_cut => k_is); (case a__law_whole => k_is); (case l__law_whole => k_is); (case c__law_whole => k_is); (case k__law_whole => k_is); (case a__law_is_urn => k_is); (case l__law_is_urn => k_is); (case c__law_is_urn => k_is); (case k__law_is_urn => k_is); (case a__law_bent_urn => k_is); (case l__law_bent_urn => k_is); (case c__law_bent_urn => k_is); (case k__law_bent_urn => k_is); (case a__law_no_urn => k_is); (case l__law_no_urn => k_is); (case c__law_no_urn => k_is); (case k__law_no_urn => k_is); (case a__law_counts => k_is); (case l__law_counts => k_is); (case c__law_counts => k_is); (case k__law_counts => k_is); (case a__law_bent_counts => k_is); (case l__law_bent_counts => k_is); (case c__law_bent_counts => k_is); (case k__law_bent_counts => k_is); (case a__law_same => k_is); (case l__law_same => k_is); (case c__law_same => k_is); (case k__law_same => k_is); (case a__law_due => k_is); (case l__law_due => k_is); (case c__law_due => k_is); (case k__law_due => k_is); (case a_law => k_is); (case l_law => k_is); (case c_law => k_is); (case k_law => k_is); (case z_ValueError => k_is); (case z_abs => k_is); (case z_all => k_is); (case z_bool => k_is); (case z_int => k_is); (case z_isinstance => k_is); (case z_len => k_is); (case z_list => k_is); (case z_max => k_is); (case z_min => k_is); (case z_range => k_is); (case z_sum => k_is); (case z_tuple => k_is); (case z_zip => k_is); (case m_MOST_BALLS => k_is); (case m_MOST_COUNTED => k_is); (case m_MOST_KINDS => k_is); (case m_MOST_PUT => k_is); (case m_BadNote => k_is); (case m_NoBall => k_is); (case m_NoCounts => k_is); (case m_NoDraws => k_is); (case m_NoKind => k_is); (case m_NoNumber => k_is); (case m_NoRule => k_is); (case m_NoUrn => k_is); (case m_NotAlike => k_is); (case m_NotEven => k_is); (case m_UrnError => k_is); (case x_NoCounts => k_exc); (case k_NoCounts => k_is); (case b_NoCounts => k_is); (case ty_NoCounts => k_is); (case u_NoCounts => k_is); (case i_NoCounts_NoKind => kernel_rfl); (case i_NoCounts_NoRule => kernel_rfl); (case i_NoCounts_NoUrn => kernel_rfl); (case i_NoCounts_NoNumber => kernel_rfl); (case i_NoCounts_NoDraws => kernel_rfl); (case i_NoCounts_NoBall => kernel_rfl); (case i_NoCounts_NotAlike => kernel_rfl); (case i_NoCounts_NoCounts => kernel_rfl); (case i_NoCounts_NotEven => kernel_rfl); (case i_NoCounts_BadNote => kernel_rfl); (case i_NoCounts_ValueError => kernel_rfl); (case x_NoNumber => k_exc); (case k_NoNumber => k_is); (case b_NoNumber => k_is); (case ty_NoNumber => k_is); (case u_NoNumber => k_is); (case i_NoNumber_NoKind => kernel_rfl); (case i_NoNumber_NoRule => kernel_rfl); (case i_NoNumber_NoUrn => kernel_rfl); (case i_NoNumber_NoNumber => kernel_rfl); (case i_NoNumber_NoDraws => kernel_rfl); (case i_NoNumber_NoBall => kernel_rfl); (case i_NoNumber_NotAlike => kernel_rfl); (case i_NoNumber_NoCounts => kernel_rfl); (case i_NoNumber_NotEven => kernel_rfl); (case i_NoNumber_BadNote => kernel_rfl); (case i_NoNumber_ValueError => kernel_rfl); (case x_NoUrn => k_exc); (case k_NoUrn => k_is); (case b_NoUrn => k_is); (case ty_NoUrn => k_is); (case u_NoUrn => k_is); (case i_NoUrn_NoKind => kernel_rfl); (case i_NoUrn_NoRule => kernel_rfl); (case i_NoUrn_NoUrn => kernel_rfl); (case i_NoUrn_NoNumber => kernel_rfl); (case i_NoUrn_NoDraws => kernel_rfl); (case i_NoUrn_NoBall => kernel_rfl); (case i_NoUrn_NotAlike => kernel_rfl); (case i_NoUrn_NoCounts => kernel_rfl); (case i_NoUrn_NotEven => kernel_rfl); (case i_NoUrn_BadNote => kernel_rfl); (case i_NoUrn_ValueError => kernel_rfl); (case b_UrnError => k_is); (case hd_UrnError => k_is); (case ty_UrnError => k_is); (case ehg_NoCounts => k_is); (case ehk_NoCounts => k_is); (case ehs_NoCounts => k_is); (case ehd_NoCounts => k_is); (case eha_NoCounts => k_is); (case ehn_NoCounts => k_is); (case eht_NoCounts => k_is); (case ehm_NoCounts => k_is); (case ehg_NoNumber => k_is); (case ehk_NoNumber => k_is); (case ehs_NoNumber => k_is); (case ehd_NoNumber => k_is); (case eha_NoNumber => k_is); (case ehn_NoNumber => k_is); (case eht_NoNumber => k_is); (case ehm_NoNumber => k_is); (case ehg_NoUrn => k_is); (case ehk_NoUrn => k_is); (case ehs_NoUrn => k_is); (case ehd_NoUrn => k_is); (case eha_NoUrn => k_is); (case ehn_NoUrn => k_is); (case eht_NoUrn => k_is); (case ehm_NoUrn => k_is)
    (case nT => kernel_rfl)
    (case cT => kernel_rfl)
