import PyProof.Rows.All
import HandS.ForMost
import HandS.WordsExc
import HandS.IsInst
import HandS.TupAny
import HandS.TupMul
import HandS.Wide
import HandS.Style
import HandS.Zip
import HandS.Deep
import PySem.Challenge.RW_growurns_k14_whole_draws
set_option Elab.async false
set_option linter.all false
set_option maxRecDepth 100000
set_option maxHeartbeats 4000000
/-! GD: readings of the hand layer answered by plain functions over data trees. -/
namespace GD
open PySem PySem.Spec PyProof.Rows L2

abbrev D := PyData

structure CT where
  P : Program
  w : World
  K : PySem.W.Frag
  mg : Str → Option Value

/-! ### results -/
inductive Re (α : Type) where
  | ok (a : α)
  | ex (c : Str)
  | no
def Re.bind {α β : Type} (x : Re α) (f : α → Re β) : Re β := match x with
  | .ok a => f a
  | .ex c => .ex c
  | .no => .no
instance : Monad Re where
  pure := Re.ok
  bind := Re.bind
@[simp] theorem Re.ok_bind {α β : Type} (a : α) (f : α → Re β) : (Re.ok a >>= f) = f a := rfl
@[simp] theorem Re.ex_bind {α β : Type} (c : Str) (f : α → Re β) : (Re.ex c >>= f) = Re.ex c := rfl
@[simp] theorem Re.no_bind {α β : Type} (f : α → Re β) : (Re.no >>= f) = Re.no := rfl
@[simp] theorem Re.pure_eq {α : Type} (a : α) : (pure a : Re α) = Re.ok a := rfl
@[simp] theorem Re.bind_def {α β : Type} (x : Re α) (f : α → Re β) : Re.bind x f = (x >>= f) := rfl

/-- a slot: nothing known; a datum; a list of one's own that may be changed (own: made here; else the caller's) -/
inductive Sl where
  | un
  | da (d : D)
  | ml (own : Bool) (ds : List D)
/-- a value: a datum; a list just made; the list that stands in slot i -/
inductive Rv where
  | da (d : D)
  | fl (ds : List D)
  | bl (i : Nat)
abbrev G := List Sl
def Rv.dat (g : G) : Rv → Option D
  | .da d => some d
  | .fl ds => some (.list ds)
  | .bl i => match g[i]? with
    | some (.ml _ ds) => some (.list ds)
    | _ => none
@[simp] theorem Rv.dat_da (g : G) (d : D) : (Rv.da d).dat g = some d := rfl
@[simp] theorem Rv.dat_fl (g : G) (ds : List D) : (Rv.fl ds).dat g = some (.list ds) := rfl
def datL (g : G) : List Rv → Option (List D)
  | [] => some []
  | r :: rs => match r.dat g with
    | some d => (datL g rs).map (d :: ·)
    | none => none
@[simp] theorem datL_nil (g : G) : datL g [] = some [] := rfl
abbrev M (α : Type) := G → Re (α × G)

/-! ### data in the abstract heap -/
mutual
inductive Rp (c : CT) (H : Hp) : V → D → Prop
  | non : Rp c H .non .none
  | bl (b : Bool) : Rp c H (.bl b) (.bool b)
  | int (i : Int) : Rp c H (.int i) (.int i)
  | str (x : Str) : Rp c H (.str x) (.str x)
  | lst {a : Addr} {xs : List V} {ds : List D} : Rd H a (.lst xs) → RpL c H xs ds → Rp c H (.ref a) (.list ds)
  | tup {a : Addr} {xs : List V} {ds : List D} : SqT c.K H a xs → RpL c H xs ds → Rp c H (.ref a) (.tuple ds)
  | dct0 {a : Addr} : H a = some (.dK []) → Rp c H (.ref a) (.dict [])
  /-- the law's script: a list that may stand in the written part -/
  | scr {a : Addr} {xs : List V} {ds : List D} : SqL c.K H a xs → RpL c H xs ds → Rp c H (.ref a) (.dict [(.none, .list ds)])
inductive RpL (c : CT) (H : Hp) : List V → List D → Prop
  | nil : RpL c H [] []
  | cons {v : V} {vs : List V} {d : D} {ds : List D} : Rp c H v d → RpL c H vs ds → RpL c H (v :: vs) (d :: ds)
end

theorem same_rd {H H' : Hp} {a : Addr} {u : HO} (e : Same H H') (h : Rd H a u) : Rd H' a u := by
  rcases h with h | ⟨o, h⟩
  · exact .inl (e _ _ h)
  · exact .inr ⟨o, e _ _ h⟩
theorem same_l {K : PySem.W.Frag} {H H' : Hp} {a : Addr} {xs : List V} (e : Same H H') (h : SqL K H a xs) : SqL K H' a xs := by
  rcases h with h | h
  · exact .inl (same_rd e h)
  · exact .inr h
theorem same_t {K : PySem.W.Frag} {H H' : Hp} {a : Addr} {xs : List V} (e : Same H H') (h : SqT K H a xs) : SqT K H' a xs := by
  rcases h with h | h
  · exact .inl (same_rd e h)
  · exact .inr h

mutual
theorem Rp.same {c : CT} {H H' : Hp} (e : Same H H') : ∀ {d : D} {v : V}, Rp c H v d → Rp c H' v d
  | .none, _, .non => .non
  | .bool _, _, .bl b => .bl b
  | .int _, _, .int i => .int i
  | .str _, _, .str x => .str x
  | .list _, _, .lst h r => .lst (same_rd e h) (RpL.same e r)
  | .tuple _, _, .tup h r => .tup (same_t e h) (RpL.same e r)
  | .dict _, _, .dct0 h => .dct0 (e _ _ h)
  | .dict _, _, .scr h r => .scr (same_l e h) (RpL.same e r)
theorem RpL.same {c : CT} {H H' : Hp} (e : Same H H') : ∀ {ds : List D} {vs : List V}, RpL c H vs ds → RpL c H' vs ds
  | [], _, .nil => .nil
  | _ :: _, _, .cons h r => .cons (Rp.same e h) (RpL.same e r)
end
theorem RpL.length {c : CT} {H : Hp} : ∀ {vs : List V} {ds : List D}, RpL c H vs ds → vs.length = ds.length
  | _, _, .nil => rfl
  | _, _, .cons _ r => by rw [List.length_cons, List.length_cons, r.length]
theorem RpL.append {c : CT} {H : Hp} : ∀ {vs us : List V} {ds es : List D}, RpL c H vs ds → RpL c H us es → RpL c H (vs ++ us) (ds ++ es)
  | _, _, _, _, .nil, r => r
  | _, _, _, _, .cons h r, q => .cons h (r.append q)
theorem RpL.get {c : CT} {H : Hp} : ∀ {vs : List V} {ds : List D} {i : Nat} {d : D}, RpL c H vs ds → ds[i]? = some d → ∃ v, vs[i]? = some v ∧ Rp c H v d
  | _, _, _, _, .nil, e => by simp at e
  | _, _, 0, _, .cons h r, e => by simp at e; subst e; exact ⟨_, rfl, h⟩
  | _, _, i + 1, d, .cons h r, e => by
    obtain ⟨v, h1, h2⟩ := RpL.get (i := i) (d := d) r (by simpa using e)
    exact ⟨v, by simpa using h1, h2⟩
theorem RpL.take {c : CT} {H : Hp} : ∀ {vs : List V} {ds : List D} (n : Nat), RpL c H vs ds → RpL c H (vs.take n) (ds.take n)
  | _, _, 0, _ => .nil
  | _, _, _ + 1, .nil => .nil
  | _, _, n + 1, .cons h r => .cons h (r.take n)
theorem RpL.drop {c : CT} {H : Hp} : ∀ {vs : List V} {ds : List D} (n : Nat), RpL c H vs ds → RpL c H (vs.drop n) (ds.drop n)
  | _, _, 0, r => r
  | _, _, _ + 1, .nil => .nil
  | _, _, n + 1, .cons _ r => r.drop n
theorem RpL.set {c : CT} {H : Hp} {v : V} {d : D} (h : Rp c H v d) : ∀ {vs : List V} {ds : List D} (i : Nat), RpL c H vs ds → RpL c H (vs.set i v) (ds.set i d)
  | _, _, _, .nil => .nil
  | _, _, 0, .cons _ r => .cons h r
  | _, _, i + 1, .cons q r => .cons q (RpL.set h i r)
theorem RpL.erase {c : CT} {H : Hp} : ∀ {vs : List V} {ds : List D} (i : Nat), RpL c H vs ds → RpL c H (vs.eraseIdx i) (ds.eraseIdx i)
  | _, _, _, .nil => .nil
  | _, _, 0, .cons _ r => r
  | _, _, i + 1, .cons q r => .cons q (RpL.erase i r)

/-! data without dicts: as the library reads them -/
mutual
def nodict : D → Bool
  | .list ds => nodictL ds
  | .tuple ds => nodictL ds
  | .dict _ => false
  | _ => true
def nodictL : List D → Bool
  | [] => true
  | d :: ds => nodict d && nodictL ds
end
mutual
theorem Rp.dp {c : CT} {H : Hp} : ∀ {d : D} {v : V}, nodict d = true → Rp c H v d → Dp c.K H v d
  | .none, _, _, .non => .non
  | .bool _, _, _, .bl b => .bl b
  | .int _, _, _, .int i => .int i
  | .str _, _, _, .str x => .str x
  | .list _, _, n, .lst h r => .lst (.inl h) (RpL.dp (by simpa [nodict] using n) r)
  | .tuple _, _, n, .tup h r => .tup h (RpL.dp (by simpa [nodict] using n) r)
  | .dict _, _, n, _ => by simp [nodict] at n
theorem RpL.dp {c : CT} {H : Hp} : ∀ {ds : List D} {vs : List V}, nodictL ds = true → RpL c H vs ds → DpAll c.K H vs ds
  | [], _, _, .nil => .nil
  | _ :: _, _, n, .cons h r => by
    simp [nodictL] at n
    exact .cons (Rp.dp n.1 h) (RpL.dp n.2 r)
end
mutual
theorem nodict_of_lay : ∀ {d : D}, d.canLay0 = true → nodict d = true
  | .none, _ => by simp [nodict]
  | .bool _, _ => by simp [nodict]
  | .int _, _ => by simp [nodict]
  | .str _, _ => by simp [nodict]
  | .list xs, h => by
    simp only [nodict]
    exact nodictL_of_lay (by simpa [PyData.canLay0] using h)
  | .tuple xs, h => by
    simp only [nodict]
    exact nodictL_of_lay (by simpa [PyData.canLay0] using h)
  | .dict _, h => by simp [PyData.canLay0] at h
theorem nodictL_of_lay : ∀ {ds : List D}, PyData.canLayAll0 ds = true → nodictL ds = true
  | [], _ => by simp [nodictL]
  | d :: ds, h => by
    simp [PyData.canLayAll0] at h
    simp [nodictL, nodict_of_lay h.1, nodictL_of_lay h.2]
end
theorem nodict_of_shaped {d : D} (h : SeqAt.shaped d = true) : nodict d = true := nodict_of_lay (SeqAt.canLay_of_shaped h)

/-! ### what may not be seen: the lists that change -/
def hid (hs : List Addr) (H : Hp) : Hp := fun a => if a ∈ hs then none else H a
theorem hid_in {hs : List Addr} {H : Hp} {a : Addr} (h : a ∈ hs) : hid hs H a = none := if_pos h
theorem hid_out {hs : List Addr} {H : Hp} {a : Addr} (h : a ∉ hs) : hid hs H a = H a := if_neg h
theorem hid_le {hs : List Addr} {H : Hp} : Same (hid hs H) H := fun b o e => by
  unfold hid at e
  split at e
  · cases e
  · exact e
theorem hid_sub {hs hs' : List Addr} {H : Hp} (h : ∀ a ∈ hs', a ∈ hs) : Same (hid hs H) (hid hs' H) := fun b o e => by
  by_cases hb : b ∈ hs
  · rw [hid_in hb] at e; cases e
  · rw [hid_out hb] at e
    rw [hid_out fun z => hb (h b z)]
    exact e
theorem hid_mono {hs : List Addr} {H H' : Hp} (e : Same H H') : Same (hid hs H) (hid hs H') := fun b o q => by
  by_cases hb : b ∈ hs
  · rw [hid_in hb] at q; cases q
  · rw [hid_out hb] at q ⊢
    exact e b o q
theorem hid_upd {hs : List Addr} {H : Hp} {a : Addr} {o : HO} (h : a ∈ hs) : hid hs (upd H a o) = hid hs H := by
  funext b
  unfold hid
  split
  · rfl
  · rename_i hb
    exact upd_ne fun z => hb (z ▸ h)
theorem same_new {H : Hp} {p : Addr} {o : HO} (h : H p = none) : Same H (upd H p o) := fun a u e => by
  rw [upd_ne (ne_of_none e h)]
  exact e
theorem fresh_back {H H' : Hp} {p : Addr} (e : Same H H') (h : H' p = none) : H p = none := e.free h
theorem sz_of {n : Nat} (h : n ≤ 1000000) : n ≤ sizeLine := Nat.le_trans h (by decide)
theorem sz_lt {n : Nat} (h : n < 1000000) : n < sizeLine := Nat.lt_of_lt_of_le h (by decide)

/-- what stands around: the heap at the def's entry, the addresses it may change, what the caller hides -/
structure Fx where
  H0 : Hp
  ps : List Addr
  hc : List Addr

def SlOk (c : CT) (F : Fx) (ms hs : List Addr) (H : Hp) (s : Option (Option V)) : Sl → Prop
  | .un => True
  | .da d => ∃ v, s = some (some v) ∧ Rp c (hid hs H) v d
  | .ml own ds => ∃ a vs, s = some (some (.ref a)) ∧ a ∈ ms ∧ (own = true → F.H0 a = none) ∧ (own = false → a ∈ F.ps) ∧ H a = some (.lst vs) ∧ RpL c (hid hs H) vs ds

structure Rel (c : CT) (F : Fx) (ms hs : List Addr) (g : G) (σ : L2.St) (H : Hp) : Prop where
  len : g.length = σ.length
  sl : ∀ (i : Nat) (γ : Sl), g[i]? = some γ → SlOk c F ms hs H σ[i]? γ
  dis : ∀ (i j : Nat) (oi : Bool) (di : List D) (oj : Bool) (dj : List D) (a : Addr), g[i]? = some (.ml oi di) → g[j]? = some (.ml oj dj) → σ[i]? = some (some (.ref a)) → σ[j]? = some (some (.ref a)) → i = j
  fr : ∀ b o, F.H0 b = some o → b ∉ F.ps → H b = some o
  tr : ∀ a ∈ hs, H a ≠ none
  sub : ∀ a ∈ F.hc, a ∈ hs
  pc : ∀ a ∈ F.ps, a ∈ F.hc
  oc : ∀ a ∈ F.hc, F.H0 a ≠ none
  mh : ∀ a ∈ ms, a ∈ hs

theorem Rel.fresh {c : CT} {F : Fx} {ms hs : List Addr} {g : G} {σ : L2.St} {H : Hp} (r : Rel c F ms hs g σ H) {p : Addr} (h : H p = none) : p ∉ hs := fun z => r.tr p z h
theorem Rel.fresh0 {c : CT} {F : Fx} {ms hs : List Addr} {g : G} {σ : L2.St} {H : Hp} (r : Rel c F ms hs g σ H) {p : Addr} (h : H p = none) : F.H0 p = none := by
  cases e : F.H0 p with
  | none => rfl
  | some o =>
    by_cases hp : p ∈ F.ps
    · exact absurd h (r.tr p (r.sub p (r.pc p hp)))
    · rw [r.fr p o e hp] at h; cases h
theorem SlOk.grow {c : CT} {F : Fx} {ms hs : List Addr} {H H' : Hp} {s : Option (Option V)} {γ : Sl} (e : Same H H') (h : SlOk c F ms hs H s γ) : SlOk c F ms hs H' s γ := by
  cases γ with
  | un => exact True.intro
  | da d => obtain ⟨v, e1, r⟩ := h; exact ⟨v, e1, r.same (hid_mono e)⟩
  | ml own ds => obtain ⟨a, vs, e1, m, o1, o2, ha, r⟩ := h; exact ⟨a, vs, e1, m, o1, o2, e _ _ ha, r.same (hid_mono e)⟩
/-- new objects -/
theorem Rel.grow {c : CT} {F : Fx} {ms hs : List Addr} {g : G} {σ : L2.St} {H H' : Hp} (r : Rel c F ms hs g σ H) (e : Same H H') : Rel c F ms hs g σ H' where
  len := r.len
  sl := fun i γ h => (r.sl i γ h).grow e
  dis := r.dis
  fr := fun b o h hp => e _ _ (r.fr b o h hp)
  tr := fun a ha q => by
    cases z : H a with
    | none => exact r.tr a ha z
    | some o => rw [e _ _ z] at q; cases q
  sub := r.sub
  pc := r.pc
  oc := r.oc
  mh := r.mh
/-- a list of one's own is changed -/
theorem Rel.write {c : CT} {F : Fx} {ms hs : List Addr} {g : G} {σ : L2.St} {H : Hp} (r : Rel c F ms hs g σ H) {i : Nat} {own : Bool} {ds ds' : List D} {a : Addr} {vs' : List V}
    (hi : g[i]? = some (.ml own ds)) (ha : σ[i]? = some (some (.ref a))) (hr : RpL c (hid hs H) vs' ds') : Rel c F ms hs (g.set i (.ml own ds')) σ (upd H a (.lst vs')) := by
  obtain ⟨a', vs, e1, m, o1, o2, h1, _⟩ := r.sl i _ hi
  rw [ha] at e1
  cases e1
  refine ⟨by rw [List.length_set]; exact r.len, fun j γ hj => ?_, fun j k oj dj ok dk b hj hk e1 e2 => ?_, fun b o hb hp => ?_, fun b hb q => ?_, r.sub, r.pc, r.oc, r.mh⟩
  · by_cases e : i = j
    · subst e
      rw [List.getElem?_set_self (List.getElem?_eq_some_iff.mp hi).1] at hj
      cases hj
      exact ⟨a, vs', ha, m, o1, o2, upd_same, by rw [hid_upd (r.mh _ m)]; exact hr⟩
    · rw [List.getElem?_set_ne e] at hj
      have q := r.sl j γ hj
      cases γ with
      | un => exact True.intro
      | da d => obtain ⟨v, e1, x⟩ := q; exact ⟨v, e1, by rw [hid_upd (r.mh _ m)]; exact x⟩
      | ml oj dj =>
        obtain ⟨b, ws, e1, m', p1, p2, hb, x⟩ := q
        have hne : b ≠ a := fun z => e (r.dis i j own ds oj dj a hi hj ha (z ▸ e1))
        exact ⟨b, ws, e1, m', p1, p2, by rw [upd_ne hne]; exact hb, by rw [hid_upd (r.mh _ m)]; exact x⟩
  · have back : ∀ {j : Nat} {oj : Bool} {dj : List D}, (g.set i (.ml own ds'))[j]? = some (.ml oj dj) → ∃ o d, g[j]? = some (.ml o d) := fun {j oj dj} hj => by
      by_cases e : i = j
      · subst e; exact ⟨_, _, hi⟩
      · rw [List.getElem?_set_ne e] at hj; exact ⟨_, _, hj⟩
    obtain ⟨_, _, q1⟩ := back hj
    obtain ⟨_, _, q2⟩ := back hk
    exact r.dis _ _ _ _ _ _ b q1 q2 e1 e2
  · by_cases e : b = a
    · subst e
      cases own with
      | true => rw [o1 rfl] at hb; cases hb
      | false => exact absurd (o2 rfl) hp
    · rw [upd_ne e]; exact r.fr b o hb hp
  · by_cases e : b = a
    · subst e; rw [upd_same] at q; cases q
    · rw [upd_ne e] at q; exact r.tr b hb q

/-! ### judgements -/
/-- an operation's answer: a datum, a list just made -/
def RvOk (c : CT) (hs : List Addr) (H H' : Hp) (v : V) : Rv → Prop
  | .da d => Rp c (hid hs H') v d
  | .fl ds => ∃ a vs, v = .ref a ∧ H a = none ∧ H' a = some (.lst vs) ∧ RpL c (hid (a :: hs) H') vs ds
  | .bl _ => False
/-- a datum; its own list may be one that changes -/
inductive Rq (c : CT) (hs : List Addr) (H : Hp) : V → D → Prop
  | da {v : V} {d : D} : Rp c (hid hs H) v d → Rq c hs H v d
  | ml {a : Addr} {vs : List V} {ds : List D} : H a = some (.lst vs) → RpL c (hid hs H) vs ds → Rq c hs H (.ref a) (.list ds)
inductive RqL (c : CT) (hs : List Addr) (H : Hp) : List V → List D → Prop
  | nil : RqL c hs H [] []
  | cons {v : V} {vs : List V} {d : D} {ds : List D} : Rq c hs H v d → RqL c hs H vs ds → RqL c hs H (v :: vs) (d :: ds)
/-- an expression's answer -/
def RvR (c : CT) (F : Fx) (ms : List Addr) (g : G) (σ : L2.St) (hs : List Addr) (H H' : Hp) (v : V) : Rv → Prop
  | .da d => Rp c (hid hs H') v d
  | .fl ds => ∃ a vs, v = .ref a ∧ H a = none ∧ H' a = some (.lst vs) ∧ RpL c (hid (a :: hs) H') vs ds ∧ Rel c F ms (a :: hs) g σ H'
  | .bl i => σ[i]? = some (some v)
/-- .. as it may be used later -/
def RvL (c : CT) (σ : L2.St) (hs : List Addr) (H' : Hp) (v : V) : Rv → Prop
  | .da d => Rp c (hid hs H') v d
  | .fl ds => Rp c (hid hs H') v (.list ds)
  | .bl i => σ[i]? = some (some v)
inductive RvLs (c : CT) (σ : L2.St) (hs : List Addr) (H' : Hp) : List V → List Rv → Prop
  | nil : RvLs c σ hs H' [] []
  | cons {v : V} {vs : List V} {r : Rv} {rs : List Rv} : RvL c σ hs H' v r → RvLs c σ hs H' vs rs → RvLs c σ hs H' (v :: vs) (r :: rs)
theorem RvR.l {c : CT} {F : Fx} {ms : List Addr} {g : G} {σ : L2.St} {hs : List Addr} {H H' : Hp} {v : V} {r : Rv} (h : RvR c F ms g σ hs H H' v r) (tr : ∀ a ∈ hs, H a ≠ none) : RvL c σ hs H' v r := by
  cases r with
  | da d => exact h
  | fl ds =>
    obtain ⟨a, vs, rfl, h1, h2, h3, _⟩ := h
    exact .lst (.inl (by rw [hid_out fun z => tr a z h1]; exact h2)) (h3.same (hid_sub fun b hb => List.mem_cons_of_mem _ hb))
  | bl i => exact h
theorem RvL.same {c : CT} {σ : L2.St} {hs : List Addr} {H H' : Hp} {v : V} {r : Rv} (e : Same (hid hs H) (hid hs H')) (h : RvL c σ hs H v r) : RvL c σ hs H' v r := by
  cases r with
  | da d => exact Rp.same e h
  | fl ds => exact Rp.same e h
  | bl i => exact h
theorem RvLs.same {c : CT} {σ : L2.St} {hs : List Addr} {H H' : Hp} (e : Same (hid hs H) (hid hs H')) : ∀ {vs : List V} {rs : List Rv}, RvLs c σ hs H vs rs → RvLs c σ hs H' vs rs
  | _, _, .nil => .nil
  | _, _, .cons h r => .cons (h.same e) (r.same e)
theorem RvL.q {c : CT} {F : Fx} {ms : List Addr} {g : G} {σ : L2.St} {hs : List Addr} {H : Hp} {v : V} {r : Rv} {d : D} (h : RvL c σ hs H v r) (Y : Rel c F ms hs g σ H) (e : r.dat g = some d) : Rq c hs H v d := by
  cases r with
  | da d => cases e; exact .da h
  | fl ds => cases e; exact .da h
  | bl i =>
    unfold Rv.dat at e
    dsimp only at e
    split at e
    next own ds hi =>
      cases e
      obtain ⟨a, vs, e1, m, o1, o2, ha, rr⟩ := Y.sl i _ hi
      have h' : σ[i]? = some (some v) := h
      rw [h'] at e1
      cases e1
      exact .ml ha rr
    next => cases e
theorem RvLs.q {c : CT} {F : Fx} {ms : List Addr} {g : G} {σ : L2.St} {hs : List Addr} {H : Hp} (Y : Rel c F ms hs g σ H) : ∀ {vs : List V} {rs : List Rv} {ds : List D}, RvLs c σ hs H vs rs → datL g rs = some ds → RqL c hs H vs ds
  | _, _, _, .nil, e => by cases e; exact .nil
  | _, _, ds, .cons h r, e => by
    unfold datL at e
    split at e
    next d hd =>
      simp only [Option.map_eq_some_iff] at e
      obtain ⟨es, e1, rfl⟩ := e
      exact .cons (h.q Y hd) (r.q Y e1)
    next => cases e
theorem Rq.bl {c : CT} {hs : List Addr} {H : Hp} {v : V} {b : Bool} (h : Rq c hs H v (.bool b)) : v = .bl b := by
  cases h with | da h => cases h; rfl
theorem Rel.newHid {c : CT} {F : Fx} {ms hs : List Addr} {g : G} {σ : L2.St} {H H' : Hp} {a : Addr} (Y : Rel c F ms hs g σ H) (e : Same H H') (n : H a = none) (h : H' a ≠ none) : Rel c F ms (a :: hs) g σ H' := by
  have na := Y.fresh n
  have sm : Same (hid hs H) (hid (a :: hs) H') := fun b o q => by
    by_cases hb : b ∈ hs
    · rw [hid_in hb] at q; cases q
    · rw [hid_out hb] at q
      have hb2 : b ∉ a :: hs := fun z => (List.mem_cons.mp z).elim (fun z => by subst z; rw [n] at q; cases q) hb
      rw [hid_out hb2]
      exact e _ _ q
  refine ⟨Y.len, fun i γ hi => ?_, Y.dis, fun b o hb hp => e _ _ (Y.fr b o hb hp), fun b hb => ?_, fun b hb => List.mem_cons_of_mem _ (Y.sub b hb), Y.pc, Y.oc, fun b hb => List.mem_cons_of_mem _ (Y.mh b hb)⟩
  · have q := Y.sl i γ hi
    cases γ with
    | un => exact True.intro
    | da d => obtain ⟨v, e1, r⟩ := q; exact ⟨v, e1, r.same sm⟩
    | ml own ds => obtain ⟨b, vs, e1, m, o1, o2, hb, r⟩ := q; exact ⟨b, vs, e1, m, o1, o2, e _ _ hb, r.same sm⟩
  · rcases List.mem_cons.mp hb with rfl | hb
    · exact h
    · intro q
      cases z : H b with
      | none => exact Y.tr b hb z
      | some o => rw [e _ _ z] at q; cases q

abbrev TX (α : Type) := L2.St → Hp → (α → Hp → Prop) → Prop
/-- what a step leaves: all but the lists that change (ms); all that can be read -/
structure Sm (ms hs : List Addr) (H H' : Hp) : Prop where
  s : Same (hid hs H) (hid hs H')
  f : ∀ b o, H b = some o → b ∉ ms → H' b = some o
theorem Sm.refl {ms hs : List Addr} {H : Hp} : Sm ms hs H H := ⟨Same.refl _, fun _ _ h _ => h⟩
theorem Sm.trans {ms hs : List Addr} {H H1 H2 : Hp} (a : Sm ms hs H H1) (b : Sm ms hs H1 H2) : Sm ms hs H H2 := ⟨a.s.trans b.s, fun x o h n => b.f x o (a.f x o h n) n⟩
theorem Sm.grow {ms hs : List Addr} {H H' : Hp} (e : Same H H') : Sm ms hs H H' := ⟨hid_mono e, fun b o h _ => e b o h⟩
/-- the reading t is answered by the function f; ok tells what a value is -/
def Den (c : CT) (E : XK) {α β : Type} (ok : Fx → List Addr → G → L2.St → List Addr → Hp → Hp → α → β → Prop) (t : TX α) (f : M β) : Prop :=
  ∀ (F : Fx) (ms hs : List Addr) (g : G) (σ : L2.St) (H : Hp) (Q : α → Hp → Prop), Rel c F ms hs g σ H →
    (match f g with
      | .ok (r, g') => ∀ v H', Rel c F ms hs g' σ H' → Sm ms hs H H' → ok F ms g' σ hs H H' v r → Q v H'
      | .ex e => ∀ u H', c.mg e = some u → (∀ b o, F.H0 b = some o → b ∉ F.ps → H' b = some o) → E u none H'
      | .no => False) → t σ H Q
abbrev Dn (c : CT) (E : XK) (t : TE) (f : M Rv) : Prop := Den c E (RvR c) t f
def okB : Fx → List Addr → G → L2.St → List Addr → Hp → Hp → Bool → Bool → Prop := fun _ _ _ _ _ _ _ a b => a = b
abbrev Dt (c : CT) (E : XK) (t : TT) (f : M Bool) : Prop := Den c E okB t f
def okL (c : CT) : Fx → List Addr → G → L2.St → List Addr → Hp → Hp → List V → List Rv → Prop := fun _ _ _ σ hs _ H' vs rs => RvLs c σ hs H' vs rs
abbrev Da (c : CT) (E : XK) (t : TA) (f : M (List Rv)) : Prop := Den c E (okL c) t f
def okO : Fx → List Addr → G → L2.St → List Addr → Hp → Hp → Option Int → Option Int → Prop := fun _ _ _ _ _ _ _ a b => a = b
abbrev Do (c : CT) (E : XK) (t : TO) (f : M (Option Int)) : Prop := Den c E okO t f

/-- an operation on values is answered by a function of data -/
def OpD (c : CT) (r : R2) (f : D → D → Option Rv) : Prop :=
  ∀ (hs : List Addr) (H : Hp) (x y : V) (dx dy : D) (Q : VK), (∀ a ∈ hs, H a ≠ none) → Rq c hs H x dx → Rq c hs H y dy →
    (match f dx dy with
      | some rv => ∀ v H', Same H H' → RvOk c hs H H' v rv → Q v H'
      | none => False) → r x y H Q
def UnD (c : CT) (r : V → Hp → VK → Prop) (f : D → Option Rv) : Prop :=
  ∀ (hs : List Addr) (H : Hp) (x : V) (dx : D) (Q : VK), (∀ a ∈ hs, H a ≠ none) → Rq c hs H x dx →
    (match f dx with
      | some rv => ∀ v H', Same H H' → RvOk c hs H H' v rv → Q v H'
      | none => False) → r x H Q
def CaD (c : CT) (r : List V → Hp → VK → Prop) (f : List D → Option Rv) : Prop :=
  ∀ (hs : List Addr) (H : Hp) (xs : List V) (ds : List D) (Q : VK), (∀ a ∈ hs, H a ≠ none) → RqL c hs H xs ds →
    (match f ds with
      | some rv => ∀ v H', Same H H' → RvOk c hs H H' v rv → Q v H'
      | none => False) → r xs H Q
def SlD (c : CT) (r : V → Option Int → Option Int → Hp → VK → Prop) (f : D → Option Int → Option Int → Option Rv) : Prop :=
  ∀ (hs : List Addr) (H : Hp) (x : V) (dx : D) (lo hi : Option Int) (Q : VK), (∀ a ∈ hs, H a ≠ none) → Rq c hs H x dx →
    (match f dx lo hi with
      | some rv => ∀ v H', Same H H' → RvOk c hs H H' v rv → Q v H'
      | none => False) → r x lo hi H Q

/-! ### the functions -/
def ofO {α : Type} : Option α → Re α
  | some a => .ok a
  | none => .no
@[simp] theorem ofO_some {α : Type} (a : α) : ofO (some a) = Re.ok a := rfl
@[simp] theorem ofO_none {α : Type} : ofO (none : Option α) = Re.no := rfl
def vE (i : Nat) : M Rv := fun g => match g[i]? with
  | some (.da d) => .ok (.da d, g)
  | some (.ml _ _) => .ok (.bl i, g)
  | _ => .no
def cE (d : D) : M Rv := fun g => .ok (.da d, g)
def op2 (f : D → D → Option Rv) (a b : M Rv) : M Rv := fun g => do
  let (x, g1) ← a g
  let (y, g2) ← b g1
  let dx ← ofO (x.dat g2)
  let dy ← ofO (y.dat g2)
  let r ← ofO (f dx dy)
  pure (r, g2)
def op1 (f : D → Option Rv) (a : M Rv) : M Rv := fun g => do
  let (x, g1) ← a g
  let d ← ofO (x.dat g1)
  let r ← ofO (f d)
  pure (r, g1)
def aN : M (List Rv) := fun g => .ok ([], g)
def aC (a : M Rv) (r : M (List Rv)) : M (List Rv) := fun g => do
  let (x, g1) ← a g
  let (xs, g2) ← r g1
  pure (x :: xs, g2)
def toBool (g : G) : Rv → Option Bool
  | .da (.bool b) => some b
  | _ => none
@[simp] theorem toBool_bool (g : G) (b : Bool) : toBool g (.da (.bool b)) = some b := rfl
def tB' (a : M Rv) : M Bool := fun g => do
  let (x, g1) ← a g
  let b ← ofO (toBool g1 x)
  pure (b, g1)
def andT (a b : M Bool) : M Bool := fun g => do
  let (x, g1) ← a g
  if x = true then b g1 else pure (false, g1)
def orT (a b : M Bool) : M Bool := fun g => do
  let (x, g1) ← a g
  if x = true then pure (true, g1) else b g1
def notT (a : M Bool) : M Bool := fun g => do
  let (x, g1) ← a g
  pure (!x, g1)
def andV (a b : M Rv) : M Rv := fun g => do
  let (x, g1) ← a g
  let k ← ofO (toBool g1 x)
  if k = true then b g1 else pure (.da (.bool false), g1)
def orV (a b : M Rv) : M Rv := fun g => do
  let (x, g1) ← a g
  let k ← ofO (toBool g1 x)
  if k = true then pure (.da (.bool true), g1) else b g1
def notV (a : M Rv) : M Rv := fun g => do
  let (x, g1) ← a g
  let k ← ofO (toBool g1 x)
  pure (.da (.bool (!k)), g1)
def ifE (t : M Bool) (a b : M Rv) : M Rv := fun g => do
  let (x, g1) ← t g
  if x = true then a g1 else b g1
def rawL (g : G) : List Rv → Option (List D)
  | [] => some []
  | .da d :: rs => (rawL g rs).map (d :: ·)
  | .fl d :: rs => (rawL g rs).map (.list d :: ·)
  | .bl _ :: _ => none
@[simp] theorem rawL_nil (g : G) : rawL g [] = some [] := rfl
def tupE (a : M (List Rv)) : M Rv := fun g => do
  let (rs, g1) ← a g
  let xs ← ofO (rawL g1 rs)
  if xs.length ≤ 1000000 then pure (.da (.tuple xs), g1) else .no
def lstE (a : M (List Rv)) : M Rv := fun g => do
  let (rs, g1) ← a g
  let xs ← ofO (rawL g1 rs)
  if xs.length ≤ 1000000 then pure (.fl xs, g1) else .no
def caE (f : List D → Option Rv) (a : M (List Rv)) : M Rv := fun g => do
  let (rs, g1) ← a g
  let xs ← ofO (datL g1 rs)
  let r ← ofO (f xs)
  pure (r, g1)
theorem RvLs.raw {c : CT} {σ : L2.St} {hs : List Addr} {H : Hp} {g : G} : ∀ {vs : List V} {rs : List Rv} {ds : List D}, RvLs c σ hs H vs rs → rawL g rs = some ds → RpL c (hid hs H) vs ds
  | _, _, _, .nil, e => by cases e; exact .nil
  | _, .da d :: rs, _, .cons h r, e => by
    simp only [rawL, Option.map_eq_some_iff] at e
    obtain ⟨es, e1, rfl⟩ := e
    exact .cons h (r.raw e1)
  | _, .fl d :: rs, _, .cons h r, e => by
    simp only [rawL, Option.map_eq_some_iff] at e
    obtain ⟨es, e1, rfl⟩ := e
    exact .cons h (r.raw e1)
  | _, .bl i :: rs, _, .cons h r, e => by cases e
end GD

/-! GD2: rules for expressions. -/
namespace GD
open PySem PySem.Spec PyProof.Rows L2
section
variable {c : CT} {E : XK}
theorem RvOk.back {F : Fx} {ms hs : List Addr} {g : G} {σ : L2.St} {H H1 H' : Hp} {v : V} {r : Rv} (Y : Rel c F ms hs g σ H1) (e : Same (hid hs H) (hid hs H1)) (h : RvOk c hs H1 H' v r) : RvOk c hs H H' v r := by
  cases r with
  | da d => exact h
  | bl i => exact h
  | fl ds =>
    obtain ⟨a, vs, e1, n, h1, h2⟩ := h
    have ha := Y.fresh n
    have := e.free (l := a) (by rw [hid_out ha]; exact n)
    exact ⟨a, vs, e1, by rwa [hid_out ha] at this, h1, h2⟩
/-- the end of an operation -/
theorem fin_op {F : Fx} {ms hs : List Addr} {g : G} {σ : L2.St} {H H1 : Hp} {Q : VK} {rv : Rv} (Y : Rel c F ms hs g σ H1) (S : Sm ms hs H H1)
    (h : ∀ v H', Rel c F ms hs g σ H' → Sm ms hs H H' → RvR c F ms g σ hs H H' v rv → Q v H') : ∀ v H', Same H1 H' → RvOk c hs H1 H' v rv → Q v H' := fun v H' e o =>
  h v H' (Y.grow e) (S.trans (Sm.grow e)) (by
    have o' := o.back Y S.s
    cases rv with
    | da d => exact o'
    | bl i => exact o'.elim
    | fl ds =>
      obtain ⟨a, vs, e1, n, h1, h2⟩ := o'
      obtain ⟨b, ws, e3, n', _⟩ := o
      subst e1
      cases e3
      exact ⟨a, vs, rfl, n, h1, h2, Y.newHid e n' (by rw [h1]; exact fun z => nomatch z)⟩)
theorem RvR.back {F : Fx} {ms hs : List Addr} {g g1 : G} {σ : L2.St} {H H1 H' : Hp} {v : V} {r : Rv} (h : RvR c F ms g σ hs H1 H' v r) (Y : Rel c F ms hs g1 σ H1) (e : Same (hid hs H) (hid hs H1)) : RvR c F ms g σ hs H H' v r := by
  cases r with
  | da d => exact h
  | bl i => exact h
  | fl ds =>
    obtain ⟨a, vs, e1, n, h1, h2⟩ := h
    have ha := Y.fresh n
    have := e.free (l := a) (by rw [hid_out ha]; exact n)
    exact ⟨a, vs, e1, by rwa [hid_out ha] at this, h1, h2⟩
theorem rvok_bool {F : Fx} {ms hs : List Addr} {g : G} {σ : L2.St} {H H' : Hp} {b : Bool} : RvR c F ms g σ hs H H' (.bl b) (.da (.bool b)) := Rp.bl b
theorem boolInv {F : Fx} {ms hs : List Addr} {g : G} {σ : L2.St} {H H' : Hp} {v : V} {r : Rv} {b : Bool} (h : RvR c F ms g σ hs H H' v r) (e : toBool g r = some b) : v = .bl b := by
  unfold toBool at e
  split at e
  next => cases e; exact (by cases (show Rp c (hid hs H') v (.bool _) from h); rfl)
  next => cases e

theorem rv_newlst {hs : List Addr} {H : Hp} {p : Addr} {vs : List V} {ds : List D} (tr : ∀ a ∈ hs, H a ≠ none) (hp : H p = none) (r : RpL c (hid hs H) vs ds) : RvOk c hs H (upd H p (.lst vs)) (.ref p) (.fl ds) := by
  refine ⟨p, vs, rfl, hp, upd_same, ?_⟩
  rw [hid_upd (List.mem_cons_self)]
  refine r.same fun b o q => ?_
  by_cases hb : b ∈ hs
  · rw [hid_in hb] at q; cases q
  · rw [hid_out hb] at q
    rw [hid_out fun z => (List.mem_cons.mp z).elim (fun z => by subst z; rw [hp] at q; cases q) hb]
    exact q
theorem dn_var {i : Nat} : Dn c E (tVar i) (vE i) := by
  intro F ms hs g σ H Q Y h
  unfold vE at h
  split at h
  next r g' e =>
    split at e
    next d hd =>
      cases e
      obtain ⟨v, e1, rp⟩ := Y.sl i _ hd
      exact ⟨v, e1, h v H Y Sm.refl rp⟩
    next own ds hd =>
      cases e
      obtain ⟨a, vs, e1, _⟩ := Y.sl i _ hd
      exact ⟨.ref a, e1, h _ H Y Sm.refl e1⟩
    next => cases e
  next e => split at e <;> cases e
  next => exact h.elim
theorem dn_c {v : V} {d : D} (hr : ∀ H, Rp c H v d) : Dn c E (tC v) (cE d) := fun F ms hs g σ H Q Y h => h v H Y Sm.refl (hr _)
theorem dn_int {i : Int} : Dn c E (tC (.int i)) (cE (.int i)) := dn_c fun _ => .int i
theorem dn_bl {b : Bool} : Dn c E (tC (.bl b)) (cE (.bool b)) := dn_c fun _ => .bl b
theorem dn_non : Dn c E (tC .non) (cE .none) := dn_c fun _ => .non
theorem dn_str {x : Str} : Dn c E (tC (.str x)) (cE (.str x)) := dn_c fun _ => .str x
theorem dn_op {r : R2} {f : D → D → Option Rv} {ta tb : TE} {fa fb : M Rv} (ho : OpD c r f) (ha : Dn c E ta fa) (hb : Dn c E tb fb) : Dn c E (tOp r ta tb) (op2 f fa fb) := by
  intro F ms hs g σ H Q Y h
  unfold op2 at h
  refine ha F ms hs g σ H _ Y ?_
  cases e1 : fa g with
  | no => rw [e1] at h; exact h
  | ex _ => rw [e1] at h; exact h
  | ok p1 =>
    obtain ⟨x1, g1⟩ := p1
    simp only [e1, Re.ok_bind, Re.pure_eq] at h
    intro v1 H1 Y1 S1 o1
    refine hb F ms hs g1 σ H1 _ Y1 ?_
    cases e2 : fb g1 with
    | no => rw [e2] at h; exact h
    | ex _ => rw [e2] at h; exact h
    | ok p2 =>
      obtain ⟨x2, g2⟩ := p2
      simp only [e2, Re.ok_bind, Re.pure_eq] at h
      intro v2 H2 Y2 S2 o2
      cases q3 : x1.dat g2 with
      | none => rw [q3] at h; exact False.elim h
      | some d3 =>
        simp only [q3, ofO_some, Re.ok_bind, Re.pure_eq] at h
        cases q4 : x2.dat g2 with
        | none => rw [q4] at h; exact False.elim h
        | some d4 =>
          simp only [q4, ofO_some, Re.ok_bind, Re.pure_eq] at h
          refine ho hs H2 v1 v2 d3 d4 Q Y2.tr (((o1.l Y.tr).same S2.s).q Y2 q3) ((o2.l Y1.tr).q Y2 q4) ?_
          cases q5 : f d3 d4 with
          | none => rw [q5] at h; exact False.elim h
          | some d5 =>
            simp only [q5, ofO_some, Re.ok_bind, Re.pure_eq] at h
            exact fin_op Y2 (S1.trans S2) h
theorem dn_un {r : V → Hp → VK → Prop} {f : D → Option Rv} {ta : TE} {fa : M Rv} (ho : UnD c r f) (ha : Dn c E ta fa) : Dn c E (tUn r ta) (op1 f fa) := by
  intro F ms hs g σ H Q Y h
  unfold op1 at h
  refine ha F ms hs g σ H _ Y ?_
  cases e1 : fa g with
  | no => rw [e1] at h; exact h
  | ex _ => rw [e1] at h; exact h
  | ok p1 =>
    obtain ⟨x1, g1⟩ := p1
    simp only [e1, Re.ok_bind, Re.pure_eq] at h
    intro v1 H1 Y1 S1 o1
    cases q3 : x1.dat g1 with
    | none => rw [q3] at h; exact False.elim h
    | some d3 =>
      simp only [q3, ofO_some, Re.ok_bind, Re.pure_eq] at h
      refine ho hs H1 v1 d3 Q Y1.tr ((o1.l Y.tr).q Y1 q3) ?_
      cases q5 : f d3 with
      | none => rw [q5] at h; exact False.elim h
      | some d5 =>
        simp only [q5, ofO_some, Re.ok_bind, Re.pure_eq] at h
        exact fin_op Y1 S1 h
theorem da_nil : Da c E tNil aN := fun F ms hs g σ H Q Y h => h [] H Y Sm.refl .nil
theorem da_cons {ta : TE} {tr : TA} {fa : M Rv} {fr : M (List Rv)} (ha : Dn c E ta fa) (hr : Da c E tr fr) : Da c E (tCons ta tr) (aC fa fr) := by
  intro F ms hs g σ H Q Y h
  unfold aC at h
  refine ha F ms hs g σ H _ Y ?_
  cases e1 : fa g with
  | no => rw [e1] at h; exact h
  | ex _ => rw [e1] at h; exact h
  | ok p1 =>
    obtain ⟨x1, g1⟩ := p1
    simp only [e1, Re.ok_bind, Re.pure_eq] at h
    intro v1 H1 Y1 S1 o1
    refine hr F ms hs g1 σ H1 _ Y1 ?_
    cases e2 : fr g1 with
    | no => rw [e2] at h; exact h
    | ex _ => rw [e2] at h; exact h
    | ok p2 =>
      obtain ⟨x2, g2⟩ := p2
      simp only [e2, Re.ok_bind, Re.pure_eq] at h
      intro v2 H2 Y2 S2 o2
      exact h _ H2 Y2 (S1.trans S2) (.cons ((o1.l Y.tr).same S2.s) o2)
theorem dn_cb {r : List V → Hp → VK → Prop} {f : List D → Option Rv} {ta : TA} {fa : M (List Rv)} (ho : CaD c r f) (ha : Da c E ta fa) : Dn c E (tCB r ta) (caE f fa) := by
  intro F ms hs g σ H Q Y h
  unfold caE at h
  refine ha F ms hs g σ H _ Y ?_
  cases e1 : fa g with
  | no => rw [e1] at h; exact h
  | ex _ => rw [e1] at h; exact h
  | ok p1 =>
    obtain ⟨x1, g1⟩ := p1
    simp only [e1, Re.ok_bind, Re.pure_eq] at h
    intro v1 H1 Y1 S1 o1
    cases q3 : datL g1 x1 with
    | none => rw [q3] at h; exact False.elim h
    | some d3 =>
      simp only [q3, ofO_some, Re.ok_bind, Re.pure_eq] at h
      refine ho hs H1 v1 d3 Q Y1.tr (RvLs.q Y1 o1 q3) ?_
      cases q5 : f d3 with
      | none => rw [q5] at h; exact False.elim h
      | some d5 =>
        simp only [q5, ofO_some, Re.ok_bind, Re.pure_eq] at h
        exact fin_op Y1 S1 h
theorem dn_tup {ta : TA} {fa : M (List Rv)} (ha : Da c E ta fa) : Dn c E (tTup ta) (tupE fa) := by
  intro F ms hs g σ H Q Y h
  unfold tupE at h
  refine ha F ms hs g σ H _ Y ?_
  cases e1 : fa g with
  | no => rw [e1] at h; exact h
  | ex _ => rw [e1] at h; exact h
  | ok p1 =>
    obtain ⟨x1, g1⟩ := p1
    simp only [e1, Re.ok_bind, Re.pure_eq] at h
    intro v1 H1 Y1 S1 o1
    cases q3 : rawL g1 x1 with
    | none => rw [q3] at h; exact False.elim h
    | some d3 =>
      simp only [q3, ofO_some, Re.ok_bind, Re.pure_eq] at h
      have o3 := RvLs.raw o1 q3
      by_cases hz : d3.length ≤ 1000000
      · simp only [hz, if_true, Re.pure_eq] at h
        refine ⟨by rw [RpL.length o3]; exact sz_of hz, fun p hp => ?_⟩
        refine fin_op Y1 S1 h _ _ (same_new hp) ?_
        exact .tup (.inl (.inl (by rw [hid_out (Y1.fresh hp)]; exact upd_same))) (o3.same (hid_mono (same_new hp)))
      · simp only [hz, if_false] at h
theorem dn_lst {ta : TA} {fa : M (List Rv)} (ha : Da c E ta fa) : Dn c E (tLst ta) (lstE fa) := by
  intro F ms hs g σ H Q Y h
  unfold lstE at h
  refine ha F ms hs g σ H _ Y ?_
  cases e1 : fa g with
  | no => rw [e1] at h; exact h
  | ex _ => rw [e1] at h; exact h
  | ok p1 =>
    obtain ⟨x1, g1⟩ := p1
    simp only [e1, Re.ok_bind, Re.pure_eq] at h
    intro v1 H1 Y1 S1 o1
    cases q3 : rawL g1 x1 with
    | none => rw [q3] at h; exact False.elim h
    | some d3 =>
      simp only [q3, ofO_some, Re.ok_bind, Re.pure_eq] at h
      have o3 := RvLs.raw o1 q3
      by_cases hz : d3.length ≤ 1000000
      · simp only [hz, if_true, Re.pure_eq] at h
        refine ⟨by rw [RpL.length o3]; exact sz_of hz, fun p hp => ?_⟩
        refine fin_op Y1 S1 h _ _ (same_new hp) ?_
        exact rv_newlst Y1.tr hp o3
      · simp only [hz, if_false] at h
/-! tests -/
theorem dt_val {ta : TE} {fa : M Rv} (ha : Dn c E ta fa) : Dt c E (tTest ta) (tB' fa) := by
  intro F ms hs g σ H Q Y h
  unfold tB' at h
  refine ha F ms hs g σ H _ Y ?_
  cases e1 : fa g with
  | no => rw [e1] at h; exact h
  | ex _ => rw [e1] at h; exact h
  | ok p1 =>
    obtain ⟨x1, g1⟩ := p1
    simp only [e1, Re.ok_bind, Re.pure_eq] at h
    intro v1 H1 Y1 S1 o1
    cases q3 : toBool g1 x1 with
    | none => rw [q3] at h; exact False.elim h
    | some d3 =>
      simp only [q3, ofO_some, Re.ok_bind, Re.pure_eq] at h
      exact ⟨d3, boolInv o1 q3, h d3 H1 Y1 S1 rfl⟩
theorem dt_B {ta : TE} {fa : M Rv} (ha : Dn c E ta fa) : Dt c E (tB ta) (tB' fa) := dt_val ha
theorem dt_and {ta tb : TT} {fa fb : M Bool} (ha : Dt c E ta fa) (hb : Dt c E tb fb) : Dt c E (tAnd ta tb) (andT fa fb) := by
  intro F ms hs g σ H Q Y h
  unfold andT at h
  refine ha F ms hs g σ H _ Y ?_
  cases e1 : fa g with
  | no => rw [e1] at h; exact h
  | ex _ => rw [e1] at h; exact h
  | ok p1 =>
    obtain ⟨x1, g1⟩ := p1
    simp only [e1, Re.ok_bind, Re.pure_eq] at h
    intro v1 H1 Y1 S1 o1
    cases (show v1 = x1 from o1)
    cases x1 with
    | false => exact h false H1 Y1 S1 rfl
    | true =>
      simp only [if_true] at h ⊢
      refine hb F ms hs g1 σ H1 _ Y1 ?_
      cases e2 : fb g1 with
      | no => rw [e2] at h; exact h
      | ex _ => rw [e2] at h; exact h
      | ok p2 =>
        obtain ⟨x2, g2⟩ := p2
        simp only [e2, Re.ok_bind, Re.pure_eq] at h
        intro v2 H2 Y2 S2 o2
        exact h v2 H2 Y2 (S1.trans S2) o2
theorem dt_or {ta tb : TT} {fa fb : M Bool} (ha : Dt c E ta fa) (hb : Dt c E tb fb) : Dt c E (tOr ta tb) (orT fa fb) := by
  intro F ms hs g σ H Q Y h
  unfold orT at h
  refine ha F ms hs g σ H _ Y ?_
  cases e1 : fa g with
  | no => rw [e1] at h; exact h
  | ex _ => rw [e1] at h; exact h
  | ok p1 =>
    obtain ⟨x1, g1⟩ := p1
    simp only [e1, Re.ok_bind, Re.pure_eq] at h
    intro v1 H1 Y1 S1 o1
    cases (show v1 = x1 from o1)
    cases x1 with
    | true => exact h true H1 Y1 S1 rfl
    | false =>
      simp only [Bool.false_eq_true, if_false] at h ⊢
      refine hb F ms hs g1 σ H1 _ Y1 ?_
      cases e2 : fb g1 with
      | no => rw [e2] at h; exact h
      | ex _ => rw [e2] at h; exact h
      | ok p2 =>
        obtain ⟨x2, g2⟩ := p2
        simp only [e2, Re.ok_bind, Re.pure_eq] at h
        intro v2 H2 Y2 S2 o2
        exact h v2 H2 Y2 (S1.trans S2) o2
theorem dt_not {ta : TT} {fa : M Bool} (ha : Dt c E ta fa) : Dt c E (tNot ta) (notT fa) := by
  intro F ms hs g σ H Q Y h
  unfold notT at h
  refine ha F ms hs g σ H _ Y ?_
  cases e1 : fa g with
  | no => rw [e1] at h; exact h
  | ex _ => rw [e1] at h; exact h
  | ok p1 =>
    obtain ⟨x1, g1⟩ := p1
    simp only [e1, Re.ok_bind, Re.pure_eq] at h
    intro v1 H1 Y1 S1 o1
    cases (show v1 = x1 from o1)
    exact h _ H1 Y1 S1 rfl
theorem dn_andV {ta tb : TE} {fa fb : M Rv} (ha : Dn c E ta fa) (hb : Dn c E tb fb) : Dn c E (tAndV ta tb) (andV fa fb) := by
  intro F ms hs g σ H Q Y h
  unfold andV at h
  refine ha F ms hs g σ H _ Y ?_
  cases e1 : fa g with
  | no => rw [e1] at h; exact h
  | ex _ => rw [e1] at h; exact h
  | ok p1 =>
    obtain ⟨x1, g1⟩ := p1
    simp only [e1, Re.ok_bind, Re.pure_eq] at h
    intro v1 H1 Y1 S1 o1
    cases q3 : toBool g1 x1 with
    | none => rw [q3] at h; exact False.elim h
    | some d3 =>
      simp only [q3, ofO_some, Re.ok_bind, Re.pure_eq] at h
      refine ⟨d3, boolInv o1 q3, ?_⟩
      cases d3 with
      | false => exact h _ H1 Y1 S1 rvok_bool
      | true =>
        simp only [if_true] at h ⊢
        refine hb F ms hs g1 σ H1 _ Y1 ?_
        cases e2 : fb g1 with
        | no => rw [e2] at h; exact h
        | ex _ => rw [e2] at h; exact h
        | ok p2 =>
          obtain ⟨x2, g2⟩ := p2
          simp only [e2, Re.ok_bind, Re.pure_eq] at h
          intro v2 H2 Y2 S2 o2
          exact h v2 H2 Y2 (S1.trans S2) (o2.back Y1 S1.s)
theorem dn_orV {ta tb : TE} {fa fb : M Rv} (ha : Dn c E ta fa) (hb : Dn c E tb fb) : Dn c E (tOrV ta tb) (orV fa fb) := by
  intro F ms hs g σ H Q Y h
  unfold orV at h
  refine ha F ms hs g σ H _ Y ?_
  cases e1 : fa g with
  | no => rw [e1] at h; exact h
  | ex _ => rw [e1] at h; exact h
  | ok p1 =>
    obtain ⟨x1, g1⟩ := p1
    simp only [e1, Re.ok_bind, Re.pure_eq] at h
    intro v1 H1 Y1 S1 o1
    cases q3 : toBool g1 x1 with
    | none => rw [q3] at h; exact False.elim h
    | some d3 =>
      simp only [q3, ofO_some, Re.ok_bind, Re.pure_eq] at h
      refine ⟨d3, boolInv o1 q3, ?_⟩
      cases d3 with
      | true => exact h _ H1 Y1 S1 rvok_bool
      | false =>
        simp only [Bool.false_eq_true, if_false] at h ⊢
        refine hb F ms hs g1 σ H1 _ Y1 ?_
        cases e2 : fb g1 with
        | no => rw [e2] at h; exact h
        | ex _ => rw [e2] at h; exact h
        | ok p2 =>
          obtain ⟨x2, g2⟩ := p2
          simp only [e2, Re.ok_bind, Re.pure_eq] at h
          intro v2 H2 Y2 S2 o2
          exact h v2 H2 Y2 (S1.trans S2) (o2.back Y1 S1.s)
theorem dn_notV {ta : TE} {fa : M Rv} (ha : Dn c E ta fa) : Dn c E (tNotV ta) (notV fa) := by
  intro F ms hs g σ H Q Y h
  unfold notV at h
  refine ha F ms hs g σ H _ Y ?_
  cases e1 : fa g with
  | no => rw [e1] at h; exact h
  | ex _ => rw [e1] at h; exact h
  | ok p1 =>
    obtain ⟨x1, g1⟩ := p1
    simp only [e1, Re.ok_bind, Re.pure_eq] at h
    intro v1 H1 Y1 S1 o1
    cases q3 : toBool g1 x1 with
    | none => rw [q3] at h; exact False.elim h
    | some d3 =>
      simp only [q3, ofO_some, Re.ok_bind, Re.pure_eq] at h
      exact ⟨d3, boolInv o1 q3, h _ H1 Y1 S1 rvok_bool⟩
theorem dn_if {tt : TT} {ta tb : TE} {ft : M Bool} {fa fb : M Rv} (ht : Dt c E tt ft) (ha : Dn c E ta fa) (hb : Dn c E tb fb) : Dn c E (tIf tt ta tb) (ifE ft fa fb) := by
  intro F ms hs g σ H Q Y h
  unfold ifE at h
  refine ht F ms hs g σ H _ Y ?_
  cases e1 : ft g with
  | no => rw [e1] at h; exact h
  | ex _ => rw [e1] at h; exact h
  | ok p1 =>
    obtain ⟨x1, g1⟩ := p1
    simp only [e1, Re.ok_bind, Re.pure_eq] at h
    intro v1 H1 Y1 S1 o1
    cases (show v1 = x1 from o1)
    cases x1 with
    | true =>
      simp only [if_true] at h ⊢
      refine ha F ms hs g1 σ H1 _ Y1 ?_
      cases e2 : fa g1 with
      | no => rw [e2] at h; exact h
      | ex _ => rw [e2] at h; exact h
      | ok p2 =>
        obtain ⟨x2, g2⟩ := p2
        simp only [e2, Re.ok_bind, Re.pure_eq] at h
        intro v2 H2 Y2 S2 o2
        exact h v2 H2 Y2 (S1.trans S2) (o2.back Y1 S1.s)
    | false =>
      simp only [Bool.false_eq_true, if_false] at h ⊢
      refine hb F ms hs g1 σ H1 _ Y1 ?_
      cases e2 : fb g1 with
      | no => rw [e2] at h; exact h
      | ex _ => rw [e2] at h; exact h
      | ok p2 =>
        obtain ⟨x2, g2⟩ := p2
        simp only [e2, Re.ok_bind, Re.pure_eq] at h
        intro v2 H2 Y2 S2 o2
        exact h v2 H2 Y2 (S1.trans S2) (o2.back Y1 S1.s)
/-! a chain of two comparisons -/
def chE (f f' : D → D → Option Rv) (a b d : M Rv) : M Rv := fun g => do
  let (x, g1) ← a g
  let (y, g2) ← b g1
  let dx ← ofO (x.dat g2)
  let dy ← ofO (y.dat g2)
  let r ← ofO (f dx dy)
  let k ← ofO (toBool g2 r)
  if k = true then do
    let (z, g3) ← d g2
    let dy ← ofO (y.dat g3)
    let dz ← ofO (z.dat g3)
    let r' ← ofO (f' dy dz)
    pure (r', g3)
  else pure (.da (.bool false), g2)
theorem dn_chain {r r' : R2} {f f' : D → D → Option Rv} {ta tb tc : TE} {fa fb fc : M Rv} (ho : OpD c r f) (ho' : OpD c r' f') (ha : Dn c E ta fa) (hb : Dn c E tb fb) (hc : Dn c E tc fc) : Dn c E (tChain r r' ta tb tc) (chE f f' fa fb fc) := by
  intro F ms hs g σ H Q Y h
  unfold chE at h
  refine ha F ms hs g σ H _ Y ?_
  cases e1 : fa g with
  | no => rw [e1] at h; exact h
  | ex _ => rw [e1] at h; exact h
  | ok p1 =>
    obtain ⟨x1, g1⟩ := p1
    simp only [e1, Re.ok_bind, Re.pure_eq] at h
    intro v1 H1 Y1 S1 o1
    refine hb F ms hs g1 σ H1 _ Y1 ?_
    cases e2 : fb g1 with
    | no => rw [e2] at h; exact h
    | ex _ => rw [e2] at h; exact h
    | ok p2 =>
      obtain ⟨x2, g2⟩ := p2
      simp only [e2, Re.ok_bind, Re.pure_eq] at h
      intro v2 H2 Y2 S2 o2
      cases q3 : x1.dat g2 with
      | none => rw [q3] at h; exact False.elim h
      | some d3 =>
        simp only [q3, ofO_some, Re.ok_bind, Re.pure_eq] at h
        cases q4 : x2.dat g2 with
        | none => rw [q4] at h; exact False.elim h
        | some d4 =>
          simp only [q4, ofO_some, Re.ok_bind, Re.pure_eq] at h
          refine ho hs H2 v1 v2 d3 d4 _ Y2.tr (((o1.l Y.tr).same S2.s).q Y2 q3) ((o2.l Y1.tr).q Y2 q4) ?_
          cases q5 : f d3 d4 with
          | none => rw [q5] at h; exact False.elim h
          | some d5 =>
            simp only [q5, ofO_some, Re.ok_bind, Re.pure_eq] at h
            intro v3 H3 e3 o3
            have Y3 := Y2.grow e3
            have S23 : Sm ms hs H2 H3 := Sm.grow e3
            have S3 := (S1.trans S2).trans S23
            have o3' : RvR c F ms g2 σ hs H2 H3 v3 d5 := by
              refine fin_op (H := H2) (Q := fun v H' => v = v3 → H' = H3 → RvR c F ms g2 σ hs H2 H3 v3 d5) Y2 Sm.refl (fun v H' _ _ o z1 z2 => ?_) v3 H3 e3 o3 rfl rfl
              subst z1 z2
              exact o
            cases q6 : toBool g2 d5 with
            | none => rw [q6] at h; exact False.elim h
            | some d6 =>
              simp only [q6, ofO_some, Re.ok_bind, Re.pure_eq] at h
              refine ⟨d6, boolInv o3' q6, ?_⟩
              cases d6 with
              | false => exact h _ H3 Y3 S3 rvok_bool
              | true =>
                simp only [if_true] at h ⊢
                refine hc F ms hs g2 σ H3 _ Y3 ?_
                cases e7 : fc g2 with
                | no => rw [e7] at h; exact h
                | ex _ => rw [e7] at h; exact h
                | ok p7 =>
                  obtain ⟨x7, g7⟩ := p7
                  simp only [e7, Re.ok_bind, Re.pure_eq] at h
                  intro v7 H7 Y7 S7 o7
                  cases q8 : x2.dat g7 with
                  | none => rw [q8] at h; exact False.elim h
                  | some d8 =>
                    simp only [q8, ofO_some, Re.ok_bind, Re.pure_eq] at h
                    cases q9 : x7.dat g7 with
                    | none => rw [q9] at h; exact False.elim h
                    | some d9 =>
                      simp only [q9, ofO_some, Re.ok_bind, Re.pure_eq] at h
                      have SS := S23.s
                      refine ho' hs H7 v2 v7 d8 d9 _ Y7.tr ((((o2.l Y1.tr).same SS).same S7.s).q Y7 q8) ((o7.l Y3.tr).q Y7 q9) ?_
                      cases q10 : f' d8 d9 with
                      | none => rw [q10] at h; exact False.elim h
                      | some d10 =>
                        simp only [q10, ofO_some, Re.ok_bind, Re.pure_eq] at h
                        exact fin_op Y7 (S3.trans S7) h
end
end GD

/-! GD3: operations on values. -/
namespace GD
open PySem PySem.Spec PyProof.Rows L2

/-! ### the functions -/
def bigI (i : Int) : Bool := decide (400000 ≤ i.natAbs.log2)
def cutD (xs : List D) (lo hi : Option Int) : List D := (xs.drop (HT.sIx xs.length 0 lo)).take (HT.sIx xs.length xs.length hi - HT.sIx xs.length 0 lo)
def addD : D → D → Option Rv
  | .int i, .int j => some (.da (.int (i + j)))
  | .str x, .str y => if x.length + y.length ≤ 1000000 then some (.da (.str (x ++ y))) else none
  | .tuple xs, .tuple ys => if xs.length + ys.length ≤ 1000000 then some (.da (.tuple (xs ++ ys))) else none
  | .list xs, .list ys => if xs.length + ys.length ≤ 1000000 then some (.fl (xs ++ ys)) else none
  | _, _ => none
def subD : D → D → Option Rv
  | .int i, .int j => some (.da (.int (i - j)))
  | _, _ => none
def mulD : D → D → Option Rv
  | .int i, .int j => if bigI i || bigI j then none else some (.da (.int (i * j)))
  | .tuple xs, .int k => if xs.length ≤ 1000 ∧ 0 ≤ k ∧ k ≤ 1000 then some (.da (.tuple (List.replicate k.toNat xs).flatten)) else none
  | .list xs, .int k => if xs.length ≤ 1000 ∧ 0 ≤ k ∧ k ≤ 1000 then some (.fl (List.replicate k.toNat xs).flatten) else none
  | _, _ => none
def fdivD : D → D → Option Rv
  | .int i, .int j => if 0 < j ∧ j.natAbs.log2 < 9000 then some (.da (.int (i / j))) else none
  | _, _ => none
def modD : D → D → Option Rv
  | .int i, .int j => if j = 0 then none else some (.da (.int (i.fmod j)))
  | _, _ => none
def powD : D → D → Option Rv
  | .int i, .int j => if 0 ≤ j ∧ j ≤ 1000000 ∧ i.natAbs < 2 ^ 64 then some (.da (.int (i ^ j.toNat))) else none
  | _, _ => none
def negD : D → Option Rv
  | .int i => some (.da (.int (-i)))
  | _ => none
def eqD (x y : D) : Option Rv := if SeqAt.shaped x && SeqAt.shaped y then some (.da (.bool (PyData.eqv x y))) else none
def neD (x y : D) : Option Rv := if SeqAt.shaped x && SeqAt.shaped y then some (.da (.bool (!PyData.eqv x y))) else none
def ltD : D → D → Option Rv
  | .int i, .int j => some (.da (.bool (decide (i < j))))
  | _, _ => none
def leD : D → D → Option Rv
  | .int i, .int j => some (.da (.bool (decide (i ≤ j))))
  | _, _ => none
def gtD : D → D → Option Rv
  | .int i, .int j => some (.da (.bool (decide (j < i))))
  | _, _ => none
def geD : D → D → Option Rv
  | .int i, .int j => some (.da (.bool (decide (j ≤ i))))
  | _, _ => none
def isNoneD : D → Bool
  | .none => true
  | _ => false
def isD : D → D → Option Rv
  | x, .none => some (.da (.bool (isNoneD x)))
  | .bool a, .bool b => some (.da (.bool (decide (a = b))))
  | _, _ => none
def isNotD : D → D → Option Rv
  | x, .none => some (.da (.bool (!isNoneD x)))
  | .bool a, .bool b => some (.da (.bool (!decide (a = b))))
  | _, _ => none
def inD : D → D → Option Rv
  | x, .list ys => if SeqAt.shaped x && SeqAt.shaped (.list ys) then some (.da (.bool (ys.any fun z => PyData.eqv z x))) else none
  | _, _ => none
def notInD : D → D → Option Rv
  | x, .list ys => if SeqAt.shaped x && SeqAt.shaped (.list ys) then some (.da (.bool (!ys.any fun z => PyData.eqv z x))) else none
  | _, _ => none
def ixD : D → D → Option Rv
  | .list xs, .int i => (atI xs i).map .da
  | .tuple xs, .int i => (atI xs i).map .da
  | .dict [(.none, .list xs)], .int i => (atI xs i).map .da
  | .str z, .int i => if z.length ≤ 1000000 then (atI z.cps.toList i).map fun n => .da (.str ⟨#[n]⟩) else none
  | _, _ => none
def lenD : List D → Option Rv
  | [.list xs] => some (.da (.int xs.length))
  | [.tuple xs] => some (.da (.int xs.length))
  | [.dict [(.none, .list xs)]] => some (.da (.int xs.length))
  | [.str z] => if z.length ≤ 1000000 then some (.da (.int z.length)) else none
  | _ => none
def absD : List D → Option Rv
  | [.int i] => some (.da (.int (if i < 0 then -i else i)))
  | _ => none
def intsOf : List D → Option (List Int)
  | [] => some []
  | .int i :: r => (intsOf r).map (i :: ·)
  | _ => none
def boolsOf : List D → Option (List Bool)
  | [] => some []
  | .bool i :: r => (boolsOf r).map (i :: ·)
  | _ => none
def maxL : List Int → Int
  | [] => 0
  | [x] => x
  | x :: r => if x < maxL r then maxL r else x
def minL : List Int → Int
  | [] => 0
  | [x] => x
  | x :: r => if minL r < x then minL r else x
def maxD : List D → Option Rv
  | [.int i, .int j] => some (.da (.int (if j > i then j else i)))
  | [.list xs] => (intsOf xs).bind fun ns => if ns = [] then none else some (.da (.int (maxL ns)))
  | [.tuple xs] => (intsOf xs).bind fun ns => if ns = [] then none else some (.da (.int (maxL ns)))
  | _ => none
def minD : List D → Option Rv
  | [.int i, .int j] => some (.da (.int (if j < i then j else i)))
  | [.list xs] => (intsOf xs).bind fun ns => if ns = [] then none else some (.da (.int (minL ns)))
  | [.tuple xs] => (intsOf xs).bind fun ns => if ns = [] then none else some (.da (.int (minL ns)))
  | _ => none
def sumD : List D → Option Rv
  | [.list xs] => (intsOf xs).map fun ns => .da (.int ns.sum)
  | [.tuple xs] => (intsOf xs).map fun ns => .da (.int ns.sum)
  | _ => none
def allD : List D → Option Rv
  | [.list xs] => (boolsOf xs).map fun bs => .da (.bool (bs.all id))
  | _ => none
def anyD : List D → Option Rv
  | [.list xs] => (boolsOf xs).map fun bs => .da (.bool (bs.any id))
  | _ => none
def intD : List D → Option Rv
  | [.int i] => some (.da (.int i))
  | [.bool k] => some (.da (.int (if k then 1 else 0)))
  | _ => none
def tupleD : List D → Option Rv
  | [.list xs] => some (.da (.tuple xs))
  | [.tuple xs] => some (.da (.tuple xs))
  | _ => none
def listD : List D → Option Rv
  | [.list xs] => some (.fl xs)
  | [.tuple xs] => some (.fl xs)
  | _ => none
def isiD (T : String) : D → Bool
  | .none => T == "NoneType"
  | .bool _ => T == "bool" || T == "int"
  | .int _ => T == "int"
  | .str _ => T == "str"
  | .list _ => T == "list"
  | .tuple _ => T == "tuple"
  | .dict [(.none, .list _)] => T == "list"
  | .dict _ => T == "dict"

section
variable {c : CT} {H : Hp}
theorem rvda {hs : List Addr} {H H' : Hp} {v : V} {d : D} (h : Rp c (hid hs H') v d) : RvOk c hs H H' v (.da d) := h
theorem Rp.intInv {v : V} {i : Int} (h : Rp c H v (.int i)) : v = .int i := by cases h; rfl
theorem Rp.blInv {v : V} {b : Bool} (h : Rp c H v (.bool b)) : v = .bl b := by cases h; rfl
theorem Rp.strInv {v : V} {b : Str} (h : Rp c H v (.str b)) : v = .str b := by cases h; rfl
theorem Rp.nonInv {v : V} (h : Rp c H v .none) : v = .non := by cases h; rfl
theorem Rp.lstInv {v : V} {ds : List D} (h : Rp c H v (.list ds)) : ∃ a xs, v = .ref a ∧ Rd H a (.lst xs) ∧ RpL c H xs ds := by
  cases h with | lst h r => exact ⟨_, _, rfl, h, r⟩
theorem Rp.tupInv {v : V} {ds : List D} (h : Rp c H v (.tuple ds)) : ∃ a xs, v = .ref a ∧ SqT c.K H a xs ∧ RpL c H xs ds := by
  cases h with | tup h r => exact ⟨_, _, rfl, h, r⟩
theorem Rp.scrInv {v : V} {ds : List D} (h : Rp c H v (.dict [(.none, .list ds)])) : ∃ a xs, v = .ref a ∧ SqL c.K H a xs ∧ RpL c H xs ds := by
  cases h with | scr h r => exact ⟨_, _, rfl, h, r⟩
theorem RpL.nilInv {vs : List V} (h : RpL c H vs []) : vs = [] := by cases h; rfl
theorem RpL.consInv {vs : List V} {d : D} {ds : List D} (h : RpL c H vs (d :: ds)) : ∃ v r, vs = v :: r ∧ Rp c H v d ∧ RpL c H r ds := by
  cases h with | cons h r => exact ⟨_, _, rfl, h, r⟩
theorem RpL.oneInv {vs : List V} {d : D} (h : RpL c H vs [d]) : ∃ v, vs = [v] ∧ Rp c H v d := by
  obtain ⟨v, r, rfl, h1, h2⟩ := h.consInv
  cases h2
  exact ⟨v, rfl, h1⟩
theorem RpL.twoInv {vs : List V} {d e : D} (h : RpL c H vs [d, e]) : ∃ v w, vs = [v, w] ∧ Rp c H v d ∧ Rp c H w e := by
  obtain ⟨v, r, rfl, h1, h2⟩ := h.consInv
  obtain ⟨w, rfl, h3⟩ := h2.oneInv
  exact ⟨v, w, rfl, h1, h3⟩
theorem RpL.ints : ∀ {ds : List D} {vs : List V} {ns : List Int}, RpL c H vs ds → intsOf ds = some ns → vs = ns.map V.int
  | [], _, _, .nil, e => by cases e; rfl
  | .int i :: ds, _, ns, .cons h r, e => by
    cases h
    simp only [intsOf, Option.map_eq_some_iff] at e
    obtain ⟨ms, e1, rfl⟩ := e
    rw [RpL.ints r e1]
    rfl
  | .none :: _, _, _, _, e => by simp [intsOf] at e
  | .bool _ :: _, _, _, _, e => by simp [intsOf] at e
  | .str _ :: _, _, _, _, e => by simp [intsOf] at e
  | .list _ :: _, _, _, _, e => by simp [intsOf] at e
  | .tuple _ :: _, _, _, _, e => by simp [intsOf] at e
  | .dict _ :: _, _, _, _, e => by simp [intsOf] at e
theorem RpL.bools : ∀ {ds : List D} {vs : List V} {ns : List Bool}, RpL c H vs ds → boolsOf ds = some ns → vs = ns.map V.bl
  | [], _, _, .nil, e => by cases e; rfl
  | .bool i :: ds, _, ns, .cons h r, e => by
    cases h
    simp only [boolsOf, Option.map_eq_some_iff] at e
    obtain ⟨ms, e1, rfl⟩ := e
    rw [RpL.bools r e1]
    rfl
  | .none :: _, _, _, _, e => by simp [boolsOf] at e
  | .int _ :: _, _, _, _, e => by simp [boolsOf] at e
  | .str _ :: _, _, _, _, e => by simp [boolsOf] at e
  | .list _ :: _, _, _, _, e => by simp [boolsOf] at e
  | .tuple _ :: _, _, _, _, e => by simp [boolsOf] at e
  | .dict _ :: _, _, _, _, e => by simp [boolsOf] at e
theorem RpL.rep {vs : List V} {ds : List D} (h : RpL c H vs ds) : ∀ n : Nat, RpL c H (List.replicate n vs).flatten (List.replicate n ds).flatten
  | 0 => .nil
  | n + 1 => by
    rw [List.replicate_succ, List.replicate_succ, List.flatten_cons, List.flatten_cons]
    exact h.append (h.rep n)
theorem RpL.cut {vs : List V} {ds : List D} (h : RpL c H vs ds) (lo hi : Option Int) : RpL c H (cutV vs lo hi) (cutD ds lo hi) := by
  unfold cutV cutD
  rw [h.length]
  exact (h.drop _).take _
theorem RpL.atI {vs : List V} {ds : List D} {i : Int} {d : D} (h : RpL c H vs ds) (e : L2.atI ds i = some d) : ∃ v, L2.atI vs i = some v ∧ Rp c H v d := by
  unfold L2.atI at e ⊢
  rw [h.length]
  cases q : ixN ds.length i with
  | none => rw [q] at e; cases e
  | some j =>
    rw [q] at e
    exact h.get e
end

/-! ### more operations of the layer -/
section
variable {X : Cx}
theorem rdL {pins : List (Addr × Obj)} {σ : L2.St} {H : Hp} {s : Shared} {l : Addr} {xs : List V} (I : Inv X pins σ H s) (h : Rd H l (.lst xs)) :
    xs.length ≤ sizeLine ∧ ∃ (its : List Value) (n : Nat), Vals xs its ∧ xs.length = its.length ∧ s.heap.get? l = some { cls := .type "list", data := .seq its.toArray n } := by
  obtain ⟨z, its, n, r, e⟩ := h.ok I.hok
  exact ⟨z, its, n, r, r.length, e⟩
def rCatL : R2 := fun x y H Q => ∃ l b xs zs, x = .ref l ∧ y = .ref b ∧ Rd H l (.lst xs) ∧ Rd H b (.lst zs) ∧ xs.length + zs.length ≤ sizeLine ∧ ∀ p, H p = none → Q (.ref p) (upd H p (.lst (xs ++ zs)))
theorem op_catL : OpR X (binaryOp .Add) rCatL := by
  intro pins s σ H x y v u Q I rx ry h
  obtain ⟨l, b, xs, zs, rfl, rfl, hH, hB, hz, q⟩ := h
  cases rx
  cases ry
  obtain ⟨z, its, n, r, hl, e⟩ := rdL I hH
  obtain ⟨z2, its2, n2, r2, hl2, e2⟩ := rdL I hB
  refine PySem.P.add_list e e2 ?_ (by rw [List.size_toArray, List.size_toArray]; omega)
  have ea : its.toArray ++ its2.toArray = (its ++ its2).toArray := by simp
  rw [ea]
  exact ⟨.ref _, _, I.lnew (t' := s.toks) (r.append r2) (by rw [List.length_append]; omega), rfl, q _ I.fresh⟩

def rRepL : R2 := fun x y H Q => ∃ l k xs, x = .ref l ∧ y = .int k ∧ Rd H l (.lst xs) ∧ -(2 ^ 63) ≤ k ∧ k < 2 ^ 63 ∧ xs.length * k.toNat ≤ sizeLine ∧
  ∀ p, H p = none → Q (.ref p) (upd H p (.lst (List.replicate k.toNat xs).flatten))
theorem op_repL : OpR X (binaryOp .Mult) rRepL := by
  intro pins s σ H x y v u Q I rx ry h
  obtain ⟨l, k, xs, rfl, rfl, hH, h1, h2, hz, q⟩ := h
  cases rx
  obtain ⟨t, rfl⟩ := ry
  obtain ⟨z, its, n, r, hl, e⟩ := rdL I hH
  have hlen : its.toArray.size * k.toNat ≤ sizeLine := by rw [List.size_toArray, ← hl]; exact hz
  have hcap : ¬ its.toArray.size * k.toNat > (2 ^ 63 - 1) / 8 := by
    have : (sizeLine : Nat) ≤ (2 ^ 63 - 1) / 8 := by decide
    omega
  have hfit : ¬ (!Builtin.List.listFitsIndex k) = true := by
    rw [fitsIndex_both h1 h2]
    exact Bool.false_ne_true
  have hlong : ¬ Builtin.List.listTooLong (its.toArray.size * k.toNat) = true := by
    rw [notLongL hlen]
    exact Bool.false_ne_true
  have hnew : List.foldl (fun x1 x2 => x1 ++ x2) #[] (List.replicate (if its.toArray.isEmpty = true then 0 else k.toNat) its.toArray) = (List.replicate k.toNat its).flatten.toArray := by
    have f0 : ∀ m : Nat, List.foldl (fun x1 x2 => x1 ++ x2) #[] (List.replicate m its.toArray) = (List.replicate m its).flatten.toArray := fun m => by
      have := foldl_rep its m []
      rw [List.nil_append] at this
      exact this
    rw [f0]
    cases its with
    | nil => simp
    | cons a r' => rw [if_neg (by simp)]
  refine wpAny_binaryOp_repeat_ref (T := "list") (U := "int") (by decide) ⟨_, e, rfl⟩ (fun s' => typeIs_int s' k t) noFill_list_mul F.fills_int_mul F.slot_int_rmul repeat_list F.slot_int_index.lookup
    (call_meets F.slot_int_rmul (typeIs_int s k t) F.entry_int_rmul (F.args_int_rmul_2 _ _) (int___rmul___int_list k t l its.toArray n)
      ⟨e, rfl, ⟨_, e, rfl⟩, call_meets F.slot_list_mul ⟨_, e, rfl⟩ F.entry_list_mul (F.args_list_mul_2 _ _) (AutoListH.list___mul___list_int_3 l its.toArray n k t hfit hcap hlong) ⟨e, ?_⟩⟩)
  rw [hnew]
  exact ⟨.ref _, _, I.lnew (t' := s.toks) (r.rep k.toNat) (by rw [PyProof.Rows.lm_len_rep_flat, Nat.mul_comm]; exact hz), rfl, q _ I.fresh⟩
theorem tuple_mul1 (l : Addr) (items : Array Value) (n : Nat) (dd : Option Addr) (sl : Array (Option Value)) (x : Int) (u : Tok) (c0 : (decide (x < -(2 ^ 63)) || decide (x ≥ 2 ^ 63)) = false) (c1 : (items.isEmpty || x == 1) = true) :
    Meets (Builtin.«tuple.__mul__» ⟨[.ref l, .int x u], []⟩) (fun _ R s => s.heap.get? l = some { cls := .type "tuple", dict := dd, data := .seq items n, slots := sl } ∧ R (.ok (.ret (Value.ref l))) s) :=
  .of_wp fun prog w A R s h => by
    obtain ⟨hp, g, d, tk, os⟩ := s
    obtain ⟨hl, h⟩ := h
    have f1 := AutoSeq1.idx_int
    wp_walk using wpAny_loadPart' hl
    repeat (first
      | (refine wpAny_ite_false (decide_eq_false (by rw [c0]; exact Bool.false_ne_true)) ?_; wp_walk using wpAny_loadPart' hl)
      | (refine wpAny_ite_true (decide_eq_true c1) ?_; wp_walk using wpAny_loadPart' hl))
    exact ⟨_, rfl, h⟩
theorem tuple_mul0 (l : Addr) (items : Array Value) (n : Nat) (dd : Option Addr) (sl : Array (Option Value)) (x : Int) (u : Tok) (c0 : (decide (x < -(2 ^ 63)) || decide (x ≥ 2 ^ 63)) = false) (c1 : (items.isEmpty || x == 1) = false) (c2 : (decide (x ≤ 0) || items.isEmpty) = true) :
    Meets (Builtin.«tuple.__mul__» ⟨[.ref l, .int x u], []⟩) (fun _ R s => s.heap.get? l = some { cls := .type "tuple", dict := dd, data := .seq items n, slots := sl } ∧
      R (.ok (.ret (Value.ref s.heap.objs.size))) { s with heap := s.heap.push { cls := Value.type "tuple", data := Data.seq #[] }, toks := s.toks }) :=
  .of_wp fun prog w A R s h => by
    obtain ⟨hp, g, d, tk, os⟩ := s
    obtain ⟨hl, h⟩ := h
    have f1 := AutoSeq1.idx_int
    wp_walk using wpAny_loadPart' hl
    repeat (first
      | (refine wpAny_ite_false (decide_eq_false (by rw [c0]; exact Bool.false_ne_true)) ?_; wp_walk using wpAny_loadPart' hl)
      | (refine wpAny_ite_false (decide_eq_false (by rw [c1]; exact Bool.false_ne_true)) ?_; wp_walk using wpAny_loadPart' hl)
      | (refine wpAny_ite_true (decide_eq_true c2) ?_; wp_walk using wpAny_loadPart' hl)
      | (refine wpAny_ite_false (decide_eq_false (by simp)) ?_; wp_walk using wpAny_loadPart' hl))
    exact ⟨_, rfl, h⟩
end
end GD

/-! GD4: operations on values, answered. -/
namespace GD
open PySem PySem.Spec PyProof.Rows L2
section
variable {X : Cx}
def rRepA (K : PySem.W.Frag) : R2 := fun x y H Q => ∃ l k xs, x = .ref l ∧ y = .int k ∧ SqT K H l xs ∧ 0 ≤ k ∧ k ≤ 1000 ∧ xs.length ≤ 1000 ∧
  (xs = [] ∨ k = 1 → Q (.ref l) H) ∧ (xs ≠ [] → k ≠ 1 → ∀ p, H p = none → Q (.ref p) (upd H p (.tup (List.replicate k.toNat xs).flatten)))
theorem op_repA : OpR X (binaryOp .Mult) (rRepA X.K) := by
  intro pins s σ H x y v u Q I rx ry h
  obtain ⟨l, k, xs, rfl, rfl, hT, h1, h2, hz, q1, q2⟩ := h
  by_cases hb : xs ≠ [] ∧ 2 ≤ k
  · exact op_repT pins s σ H _ _ v u Q I rx ry ⟨l, k, xs, rfl, rfl, hT, hb.1, hb.2, h2, hz, q2 hb.1 (by omega)⟩
  cases rx
  obtain ⟨t, rfl⟩ := ry
  obtain ⟨its, r, ⟨⟨cls, dd, data, sl⟩, ho, hc, n, hd⟩, hs⟩ := I.tuple hT
  simp only at hc hd
  subst hc hd
  have hle : its.length = xs.length := r.length.symm
  have c0 : (decide (k < -(2 ^ 63)) || decide (k ≥ 2 ^ 63)) = false := by
    rw [decide_eq_false (by omega), decide_eq_false (by omega)] <;> rfl
  by_cases hx : xs = [] ∨ k = 1
  · have c1 : (its.toArray.isEmpty || k == 1) = true := by
      rcases hx with rfl | rfl
      · cases r; rfl
      · simp
    refine wpAny_binaryOp_repeat_ref (T := "tuple") (U := "int") (by decide) ⟨_, ho, rfl⟩ (fun s' => typeIs_int s' k t) noFill_tuple_mul F.fills_int_mul F.slot_int_rmul repeat_tuple F.slot_int_index.lookup
      (call_meets F.slot_int_rmul (typeIs_int s k t) F.entry_int_rmul (F.args_int_rmul_2 _ _) (int_rmul_tuple k t l its.toArray n dd sl)
        ⟨ho, rfl, ⟨_, ho, rfl⟩, call_meets F.slot_tuple_mul ⟨_, ho, rfl⟩ F.entry_tuple_mul (F.args_tuple_mul_2 _ _) (tuple_mul1 l its.toArray n dd sl k t c0 c1) ⟨ho, ?_⟩⟩)
    exact ⟨.ref l, H, I, rfl, q1 hx⟩
  · have hne : xs ≠ [] := fun z => hx (.inl z)
    have hk1 : k ≠ 1 := fun z => hx (.inr z)
    have hk0 : k = 0 := by
      have : ¬ 2 ≤ k := fun z => hb ⟨hne, z⟩
      omega
    subst hk0
    have hi : its.toArray.isEmpty = false := by
      cases its with
      | nil => exact absurd (List.eq_nil_of_length_eq_zero hle.symm) hne
      | cons a b => rfl
    have c1 : (its.toArray.isEmpty || (0 : Int) == 1) = false := by rw [hi]; rfl
    have c2 : (decide ((0 : Int) ≤ 0) || its.toArray.isEmpty) = true := by rfl
    refine wpAny_binaryOp_repeat_ref (T := "tuple") (U := "int") (by decide) ⟨_, ho, rfl⟩ (fun s' => typeIs_int s' 0 t) noFill_tuple_mul F.fills_int_mul F.slot_int_rmul repeat_tuple F.slot_int_index.lookup
      (call_meets F.slot_int_rmul (typeIs_int s 0 t) F.entry_int_rmul (F.args_int_rmul_2 _ _) (int_rmul_tuple 0 t l its.toArray n dd sl)
        ⟨ho, rfl, ⟨_, ho, rfl⟩, call_meets F.slot_tuple_mul ⟨_, ho, rfl⟩ F.entry_tuple_mul (F.args_tuple_mul_2 _ _) (tuple_mul0 l its.toArray n dd sl 0 t c0 c1 c2) ⟨ho, ?_⟩⟩)
    refine ⟨.ref s.heap.objs.size, _, I.laid (t' := s.toks) (o := .tup []) (fun b ob q => Heap.get?_push_of_some _ q) (Nat.le_refl _) ?_, rfl, q2 hne hk1 _ (I.hok.fresh (Nat.le_refl _))⟩
    exact ⟨Nat.zero_le _, [], .nil, IsTup.new _ _⟩

/-! sums, greatest and least of tuples -/
section
variable {prog : Program} {w : World} {A : Around} {E : Value → Shared → Prop} {s : Shared} {l : Addr} {xs : Array (Int × Tok)} {its : List Value} {ns : List Int} {Q : Value → Shared → Prop}
theorem iter_intTuple {Q : Value → Shared → Prop} (hl : s.heap.IsTuple l (intItems xs))
    (h : ∀ s₂ : Shared, s₂ = { s with heap := s.heap.push { cls := .type "tuple_iterator", data := .fields #[.ref l, .int 0 0] } } →
      (s₂.heap.IsTupleIter s.heap.objs.size l 0 ∧ s₂.heap.IsTuple l (intItems xs)) → (∀ b ∈ [s.heap.objs.size, l], b < s₂.heap.objs.size) → l ≠ s.heap.objs.size → Q (.ref s.heap.objs.size) s₂) :
    wpAny (model prog w) A (pyIter (.ref l)) Q E s := by
  have hlt : l < s.heap.objs.size := by obtain ⟨_, e, _⟩ := hl; exact Heap.lt_size e
  refine wpAny_pyIter_tuple hl (h _ rfl ⟨⟨_, Heap.get?_push_size _ rfl, rfl, rfl⟩, hl.push _⟩ (fun b hb => ?_) (Nat.ne_of_lt hlt))
  show b < (s.heap.push _).objs.size
  rw [Heap.size_push]
  rcases List.mem_cons.mp hb with rfl | hb
  · exact Nat.lt_succ_self _
  · rcases List.mem_cons.mp hb with rfl | hb
    · exact Nat.lt_succ_of_lt hlt
    · cases hb
theorem old_keptT {h' : Heap} (hk : ∀ b o, b ∉ [s.heap.objs.size] → (s.heap.push { cls := .type "tuple_iterator", data := .fields #[.ref l, .int 0 0] }).get? b = some o → h'.get? b = some o) :
    ∀ b o, s.heap.get? b = some o → h'.get? b = some o := fun b o e => by
  refine hk b o (fun hm => ?_) (Heap.get?_push_of_some _ e)
  rcases List.mem_cons.mp hm with e1 | hm
  · exact absurd (e1 ▸ Heap.lt_size e) (Nat.lt_irrefl _)
  · cases hm
theorem sumT_raw (hh : A.handled = none) (hl : s.heap.IsTuple l its.toArray) (hi : IntsAre its ns)
    (h : ∀ h' tk t', (∀ b o, s.heap.get? b = some o → h'.get? b = some o) → Q (.int ns.sum t') { s with heap := h', toks := tk }) : wpAny (model prog w) A (call (.builtin "sum") [.ref l]) Q E s := by
  obtain ⟨xs, e⟩ := hi.allInts.items
  have hn : numsOf (intItems xs).toList = ns := by rw [← e]; exact hi.numsOf
  rw [nums_intItems] at hn
  rw [e] at hl
  refine call_sum_walkG (iter_intTuple hl fun s₂ e st hfp hlI => ?_)
  subst e
  refine ⟨_, _, _, _, _, _, numAt xs, rfl, Walks.tuple (A := A.in1) hh _ l hlI (intItems xs), st, hfp, (fun _ _ => intItems_at), fun h' tk t' hk => ?_⟩
  have := h h' tk t' (old_keptT hk)
  have e2 : preSum (numAt xs) (intItems xs).size = ns.sum := by
    rw [preSum_eq, List.take_of_length_le (by simp [intItems]), hn]
  rw [e2]
  exact this
theorem maxT_raw (hh : A.handled = none) (hl : s.heap.IsTuple l its.toArray) (hi : IntsAre its ns) (hne : 0 < ns.length)
    (h : ∀ h' tk M t', (∀ b o, s.heap.get? b = some o → h'.get? b = some o) → M ∈ ns → (∀ a, a ∈ ns → a ≤ M) → Q (.int M t') { s with heap := h', toks := tk }) : wpAny (model prog w) A (call (.builtin "max") [.ref l]) Q E s := by
  obtain ⟨xs, e⟩ := hi.allInts.items
  have hn : numsOf (intItems xs).toList = ns := by rw [← e]; exact hi.numsOf
  rw [nums_intItems] at hn
  subst hn
  rw [e] at hl
  have hsz : 0 < xs.size := by simpa using hne
  refine call_max_walk (iter_intTuple hl fun s₂ e st hfp hlI => ?_)
  subst e
  refine ⟨_, _, _, _, _, _, _, rfl, Walks.tuple (A := A.in1) hh _ l hlI (intItems xs), st, hfp, by simpa [intItems] using hsz, CmpOf.ints_gt (numAt xs) (fun _ _ => intItems_at), fun v h' tk hP hk => ?_⟩
  have hP' : (intItems xs)[argBest (fun i j => decide (numAt xs i > numAt xs j)) (xs.size - 1)]? = some v := by simpa [intItems] using hP
  obtain ⟨t, rfl⟩ := intItems_at hP'
  obtain ⟨h1, h2⟩ := argBest_gt (numAt xs) (xs.size - 1)
  refine h h' tk _ t (old_keptT hk) ?_ fun a ha => ?_
  · rw [numAt_eq]; exact PySem.getD_mem (by rw [List.length_map, Array.length_toList]; omega)
  · obtain ⟨j, hj, rfl⟩ := mem_getD ha
    rw [List.length_map, Array.length_toList] at hj
    rw [← numAt_eq]; exact h2 j (by omega)
theorem minT_raw (hh : A.handled = none) (hl : s.heap.IsTuple l its.toArray) (hi : IntsAre its ns) (hne : 0 < ns.length)
    (h : ∀ h' tk M t', (∀ b o, s.heap.get? b = some o → h'.get? b = some o) → M ∈ ns → (∀ a, a ∈ ns → M ≤ a) → Q (.int M t') { s with heap := h', toks := tk }) : wpAny (model prog w) A (call (.builtin "min") [.ref l]) Q E s := by
  obtain ⟨xs, e⟩ := hi.allInts.items
  have hn : numsOf (intItems xs).toList = ns := by rw [← e]; exact hi.numsOf
  rw [nums_intItems] at hn
  subst hn
  rw [e] at hl
  have hsz : 0 < xs.size := by simpa using hne
  refine call_min_walk (iter_intTuple hl fun s₂ e st hfp hlI => ?_)
  subst e
  refine ⟨_, _, _, _, _, _, _, rfl, Walks.tuple (A := A.in1) hh _ l hlI (intItems xs), st, hfp, by simpa [intItems] using hsz, CmpOf.ints_lt (numAt xs) (fun _ _ => intItems_at), fun v h' tk hP hk => ?_⟩
  have hP' : (intItems xs)[argBest (fun i j => decide (numAt xs i < numAt xs j)) (xs.size - 1)]? = some v := by simpa [intItems] using hP
  obtain ⟨t, rfl⟩ := intItems_at hP'
  obtain ⟨h1, h2⟩ := argBest_lt (numAt xs) (xs.size - 1)
  refine h h' tk _ t (old_keptT hk) ?_ fun a ha => ?_
  · rw [numAt_eq]; exact PySem.getD_mem (by rw [List.length_map, Array.length_toList]; omega)
  · obtain ⟨j, hj, rfl⟩ := mem_getD ha
    rw [List.length_map, Array.length_toList] at hj
    rw [← numAt_eq]; exact h2 j (by omega)
end
def rSumT (K : PySem.W.Frag) : List V → Hp → VK → Prop := fun vs H Q => ∃ (a : Addr) (ns : List Int), vs = [V.ref a] ∧ SqT K H a (ns.map V.int) ∧ Q (.int ns.sum) H
def rMaxT (K : PySem.W.Frag) : List V → Hp → VK → Prop := fun vs H Q => ∃ (a : Addr) (ns : List Int), vs = [V.ref a] ∧ SqT K H a (ns.map V.int) ∧ 0 < ns.length ∧ ∀ m, m ∈ ns → (∀ y, y ∈ ns → y ≤ m) → Q (.int m) H
def rMinT (K : PySem.W.Frag) : List V → Hp → VK → Prop := fun vs H Q => ∃ (a : Addr) (ns : List Int), vs = [V.ref a] ∧ SqT K H a (ns.map V.int) ∧ 0 < ns.length ∧ ∀ m, m ∈ ns → (∀ y, y ∈ ns → m ≤ y) → Q (.int m) H
theorem cr_sumT (hc : X.calm = true) : CallR X (.builtin "sum") (rSumT X.K) := by
  intro pins s σ H vs us Q I r h
  obtain ⟨a, ns, rfl, hs, q⟩ := h
  obtain ⟨its, rv, hl, _⟩ := I.tuple hs
  rw [Vals.ref1 r]
  exact sumT_raw (I.ok.hd hc) (show s.heap.IsTuple a its.toArray from hl) rv.ints fun h' tk t' hk => ⟨.int _, H, I.kept hk, ⟨_, rfl⟩, q⟩
theorem cr_maxT (hc : X.calm = true) : CallR X (.builtin "max") (rMaxT X.K) := by
  intro pins s σ H vs us Q I r h
  obtain ⟨a, ns, rfl, hs, hne, q⟩ := h
  obtain ⟨its, rv, hl, _⟩ := I.tuple hs
  rw [Vals.ref1 r]
  exact maxT_raw (I.ok.hd hc) (show s.heap.IsTuple a its.toArray from hl) rv.ints hne fun h' tk m t' hk h1 h2 => ⟨.int _, H, I.kept hk, ⟨_, rfl⟩, q m h1 h2⟩
theorem cr_minT (hc : X.calm = true) : CallR X (.builtin "min") (rMinT X.K) := by
  intro pins s σ H vs us Q I r h
  obtain ⟨a, ns, rfl, hs, hne, q⟩ := h
  obtain ⟨its, rv, hl, _⟩ := I.tuple hs
  rw [Vals.ref1 r]
  exact minT_raw (I.ok.hd hc) (show s.heap.IsTuple a its.toArray from hl) rv.ints hne fun h' tk m t' hk h1 h2 => ⟨.int _, H, I.kept hk, ⟨_, rfl⟩, q m h1 h2⟩
end
end GD

/-! GD5: operations of the layer, put together, and answered. -/
namespace GD
open PySem PySem.Spec PyProof.Rows L2

def rStrAdd : R2 := fun x y H Q => ∃ i j, x = .str i ∧ y = .str j ∧ i.length + j.length ≤ sizeLine ∧ Q (.str (i ++ j)) H
def rAddG (K : PySem.W.Frag) : R2 := fun x y H Q => rI0 (fun i j => .int (i + j)) x y H Q ∨ (rStrAdd x y H Q ∨ (rCatA K x y H Q ∨ rCatL x y H Q))
def rMulG (K : PySem.W.Frag) : R2 := fun x y H Q => rI CMulW (fun i j => .int (i * j)) x y H Q ∨ (rRepA K x y H Q ∨ rRepL x y H Q)
def rSubG : R2 := rI0 fun i j => .int (i - j)
def rFdivG : R2 := rI CDivW fun i j => .int (i / j)
def rModG : R2 := rI (fun _ j => j ≠ 0) fun i j => .int (i.fmod j)
def rPowG : R2 := rI CPow fun i j => .int (i ^ j.toNat)
def rLtG : R2 := rI0 fun i j => .bl (decide (i < j))
def rLeG : R2 := rI0 fun i j => .bl (decide (i ≤ j))
def rGtG : R2 := rI0 fun i j => .bl (decide (j < i))
def rGeG : R2 := rI0 fun i j => .bl (decide (j ≤ i))
def rIsG : R2 := fun x y H Q => (y = .non ∧ Q (.bl (decide (x = .non))) H) ∨ rIsB x y H Q
def rIsNotG : R2 := fun x y H Q => (y = .non ∧ Q (.bl (!decide (x = .non))) H) ∨ rNotB x y H Q
def rNegG : V → Hp → VK → Prop := rU fun i => .int (-i)
def rSlG (K : PySem.W.Frag) : V → Option Int → Option Int → Hp → VK → Prop := fun x lo hi H Q => rSlA K x lo hi H Q ∨ rSlL K x lo hi H Q
def rLenG (K : PySem.W.Frag) : List V → Hp → VK → Prop := fun xs H Q => ∃ x n, xs = [x] ∧ LenV K x H n ∧ Q (.int n) H
def rAbsG : List V → Hp → VK → Prop := fun xs H Q => ∃ i, xs = [.int i] ∧ Q (.int (if i < 0 then -i else i)) H
def rMaxG (K : PySem.W.Frag) : List V → Hp → VK → Prop := fun xs H Q => (∃ i j, xs = [.int i, .int j] ∧ Q (.int (if j > i then j else i)) H) ∨ (rMax K xs H Q ∨ rMaxT K xs H Q)
def rMinG (K : PySem.W.Frag) : List V → Hp → VK → Prop := fun xs H Q => (∃ i j, xs = [.int i, .int j] ∧ Q (.int (if j < i then j else i)) H) ∨ (rMin K xs H Q ∨ rMinT K xs H Q)
def rSumG (K : PySem.W.Frag) : List V → Hp → VK → Prop := fun xs H Q => rSum K xs H Q ∨ rSumT K xs H Q
def rInt1 : List V → Hp → VK → Prop := fun xs H Q => (∃ i, xs = [.int i] ∧ Q (.int i) H) ∨ ∃ k, xs = [.bl k] ∧ Q (.int (if k then 1 else 0)) H
def rTupOf (K : PySem.W.Frag) : List V → Hp → VK → Prop := fun xs H Q => ∃ p ys, xs = [.ref p] ∧ ((SqL K H p ys ∧ ∀ l, H l = none → Q (.ref l) (upd H l (.tup ys))) ∨ (SqT K H p ys ∧ Q (.ref p) H))
def rLstOf (K : PySem.W.Frag) : List V → Hp → VK → Prop := fun xs H Q => ∃ p ys, xs = [.ref p] ∧ (SqL K H p ys ∨ SqT K H p ys) ∧ ∀ l, H l = none → Q (.ref l) (upd H l (.lst ys))
section
variable {X : Cx}
theorem g_add : OpR X (binaryOp .Add) (rAddG X.K) := op_add.or (op_add_str.or (op_catA.or op_catL))
theorem g_mul : OpR X (binaryOp .Mult) (rMulG X.K) := op_mulW.or (op_repA.or op_repL)
theorem g_sub : OpR X (binaryOp .Sub) rSubG := op_sub
theorem g_fdiv : OpR X (binaryOp .FloorDiv) rFdivG := op_fdivW
theorem g_mod : OpR X (binaryOp .Mod) rModG := op_modN
theorem g_pow : OpR X (binaryOp .Pow) rPowG := op_pow
theorem g_lt : OpR X (compareOp .Lt) rLtG := op_lt
theorem g_le : OpR X (compareOp .LtE) rLeG := op_le
theorem g_gt : OpR X (compareOp .Gt) rGtG := op_gt
theorem g_ge : OpR X (compareOp .GtE) rGeG := op_ge
theorem g_is : OpR X (compareOp .Is) rIsG := op_isN.or op_isBl
theorem g_isnot : OpR X (compareOp .IsNot) rIsNotG := op_notN.or op_notBl
theorem g_neg : UnR X (unaryOp .USub) rNegG := un_neg
theorem g_sl : SlR X (rSlG X.K) := sl_tupA.or sl_list
theorem g_len : CallR X (.builtin "len") (rLenG X.K) := call_len
theorem g_abs : CallR X (.builtin "abs") rAbsG := call_abs
theorem g_max (hc : X.calm = true) : CallR X (.builtin "max") (rMaxG X.K) := (call_max2 hc).or ((cr_max hc).or (cr_maxT hc))
theorem g_min (hc : X.calm = true) : CallR X (.builtin "min") (rMinG X.K) := (call_min2 hc).or ((cr_min hc).or (cr_minT hc))
theorem g_sum (hc : X.calm = true) : CallR X (.builtin "sum") (rSumG X.K) := (cr_sum hc).or (cr_sumT hc)
theorem g_int : CallR X (.type "int") rInt1 := call_int1
theorem g_tuple : CallR X (.type "tuple") (rTupOf X.K) := call_tuple_of
theorem g_list : CallR X (.type "list") (rLstOf X.K) := call_list_of
end

theorem maxL_mem : ∀ {ns : List Int}, ns ≠ [] → maxL ns ∈ ns ∧ ∀ y ∈ ns, y ≤ maxL ns
  | [], h => absurd rfl h
  | [x], _ => by simp [maxL]
  | x :: y :: r, _ => by
    have ih := maxL_mem (ns := y :: r) (by simp)
    unfold maxL
    split
    · rename_i hlt
      refine ⟨List.mem_cons_of_mem _ ih.1, fun z hz => ?_⟩
      rcases List.mem_cons.mp hz with rfl | hz
      · omega
      · exact ih.2 z hz
    · rename_i hlt
      refine ⟨List.mem_cons_self, fun z hz => ?_⟩
      rcases List.mem_cons.mp hz with rfl | hz
      · omega
      · have := ih.2 z hz; omega
theorem minL_mem : ∀ {ns : List Int}, ns ≠ [] → minL ns ∈ ns ∧ ∀ y ∈ ns, minL ns ≤ y
  | [], h => absurd rfl h
  | [x], _ => by simp [minL]
  | x :: y :: r, _ => by
    have ih := minL_mem (ns := y :: r) (by simp)
    unfold minL
    split
    · rename_i hlt
      refine ⟨List.mem_cons_of_mem _ ih.1, fun z hz => ?_⟩
      rcases List.mem_cons.mp hz with rfl | hz
      · omega
      · exact ih.2 z hz
    · rename_i hlt
      refine ⟨List.mem_cons_self, fun z hz => ?_⟩
      rcases List.mem_cons.mp hz with rfl | hz
      · omega
      · have := ih.2 z hz; omega

section
variable {c : CT}
theorem hidT {hs : List Addr} {H : Hp} {a : Addr} {xs : List V} (h : SqT c.K (hid hs H) a xs) : SqT c.K H a xs := same_t hid_le h
theorem hidL {hs : List Addr} {H : Hp} {a : Addr} {xs : List V} (h : SqL c.K (hid hs H) a xs) : SqL c.K H a xs := same_l hid_le h
theorem hidR {hs : List Addr} {H : Hp} {a : Addr} {xs : List V} (h : Rd (hid hs H) a (.lst xs)) : Rd H a (.lst xs) := same_rd hid_le h
theorem rp_newtup {hs : List Addr} {H : Hp} {p : Addr} {vs : List V} {ds : List D} (tr : ∀ a ∈ hs, H a ≠ none) (hp : H p = none) (r : RpL c (hid hs H) vs ds) : Rp c (hid hs (upd H p (.tup vs))) (.ref p) (.tuple ds) :=
  .tup (.inl (.inl (by rw [hid_out fun z => tr p z hp]; exact upd_same))) (r.same (hid_mono (same_new hp)))
theorem Rq.rp {hs : List Addr} {H : Hp} {v : V} {d : D} (h : Rq c hs H v d) (n : ∀ ds, d ≠ .list ds) : Rp c (hid hs H) v d := by
  cases h with
  | da h => exact h
  | ml _ _ => exact absurd rfl (n _)
theorem Rq.intInv {hs : List Addr} {H : Hp} {v : V} {i : Int} (h : Rq c hs H v (.int i)) : v = .int i := (h.rp fun _ z => nomatch z).intInv
theorem Rq.blInv {hs : List Addr} {H : Hp} {v : V} {i : Bool} (h : Rq c hs H v (.bool i)) : v = .bl i := (h.rp fun _ z => nomatch z).blInv
theorem Rq.strInv {hs : List Addr} {H : Hp} {v : V} {i : Str} (h : Rq c hs H v (.str i)) : v = .str i := (h.rp fun _ z => nomatch z).strInv
theorem Rq.nonInv {hs : List Addr} {H : Hp} {v : V} (h : Rq c hs H v .none) : v = .non := (h.rp fun _ z => nomatch z).nonInv
theorem Rq.tupRp {hs : List Addr} {H : Hp} {v : V} {ds : List D} (h : Rq c hs H v (.tuple ds)) : Rp c (hid hs H) v (.tuple ds) := h.rp fun _ z => nomatch z
theorem Rq.tupInv {hs : List Addr} {H : Hp} {v : V} {ds : List D} (h : Rq c hs H v (.tuple ds)) : ∃ a xs, v = .ref a ∧ SqT c.K (hid hs H) a xs ∧ RpL c (hid hs H) xs ds := h.tupRp.tupInv
theorem Rq.scrInv {hs : List Addr} {H : Hp} {v : V} {ds : List D} (h : Rq c hs H v (.dict [(.none, .list ds)])) : ∃ a xs, v = .ref a ∧ SqL c.K (hid hs H) a xs ∧ RpL c (hid hs H) xs ds := (h.rp fun _ z => nomatch z).scrInv
theorem Rq.lstInv {hs : List Addr} {H : Hp} {v : V} {ds : List D} (h : Rq c hs H v (.list ds)) : ∃ a xs, v = .ref a ∧ Rd H a (.lst xs) ∧ RpL c (hid hs H) xs ds := by
  cases h with
  | da h =>
    obtain ⟨a, xs, e, h1, h2⟩ := h.lstInv
    exact ⟨a, xs, e, hidR h1, h2⟩
  | ml h r => exact ⟨_, _, rfl, .inl h, r⟩
theorem RqL.consInv {hs : List Addr} {H : Hp} {vs : List V} {d : D} {ds : List D} (h : RqL c hs H vs (d :: ds)) : ∃ v r, vs = v :: r ∧ Rq c hs H v d ∧ RqL c hs H r ds := by
  cases h with | cons h r => exact ⟨_, _, rfl, h, r⟩
theorem RqL.oneInv {hs : List Addr} {H : Hp} {vs : List V} {d : D} (h : RqL c hs H vs [d]) : ∃ v, vs = [v] ∧ Rq c hs H v d := by
  obtain ⟨v, r, rfl, h1, h2⟩ := h.consInv
  cases h2
  exact ⟨v, rfl, h1⟩
theorem RqL.twoInv {hs : List Addr} {H : Hp} {vs : List V} {d e : D} (h : RqL c hs H vs [d, e]) : ∃ v w, vs = [v, w] ∧ Rq c hs H v d ∧ Rq c hs H w e := by
  obtain ⟨v, r, rfl, h1, h2⟩ := h.consInv
  obtain ⟨w, rfl, h3⟩ := h2.oneInv
  exact ⟨v, w, rfl, h1, h3⟩
theorem Rq.dp {hs : List Addr} {H : Hp} {v : V} {d : D} (n : nodict d = true) (h : Rq c hs H v d) : Dp c.K H v d := by
  cases h with
  | da h => exact (h.same hid_le).dp n
  | ml h r => exact .lst (.inl (.inl h)) ((r.same hid_le).dp (by simpa [nodict] using n))

theorem d_sub : OpD c rSubG subD := by
  intro hs H x y dx dy Q tr hx hy h
  unfold subD at h
  split at h
  next rv e =>
    split at e
    next i j =>
      cases e
      exact ⟨i, j, hx.intInv, hy.intInv, h _ H (Same.refl _) (.int _)⟩
    next => cases e
  next => exact h.elim
theorem d_fdiv : OpD c rFdivG fdivD := by
  intro hs H x y dx dy Q tr hx hy h
  unfold fdivD at h
  split at h
  next rv e =>
    split at e
    next i j =>
      split at e
      next hc => cases e; exact ⟨i, j, hx.intInv, hy.intInv, hc, h _ H (Same.refl _) (.int _)⟩
      next => cases e
    next => cases e
  next => exact h.elim
theorem d_mod : OpD c rModG modD := by
  intro hs H x y dx dy Q tr hx hy h
  unfold modD at h
  split at h
  next rv e =>
    split at e
    next i j =>
      split at e
      next => cases e
      next hc => cases e; exact ⟨i, j, hx.intInv, hy.intInv, hc, h _ H (Same.refl _) (.int _)⟩
    next => cases e
  next => exact h.elim
theorem d_pow : OpD c rPowG powD := by
  intro hs H x y dx dy Q tr hx hy h
  unfold powD at h
  split at h
  next rv e =>
    split at e
    next i j =>
      split at e
      next hc => cases e; exact ⟨i, j, hx.intInv, hy.intInv, hc, h _ H (Same.refl _) (.int _)⟩
      next => cases e
    next => cases e
  next => exact h.elim
theorem d_lt : OpD c rLtG ltD := by
  intro hs H x y dx dy Q tr hx hy h
  unfold ltD at h
  split at h
  next rv e =>
    split at e
    next i j => cases e; exact ⟨i, j, hx.intInv, hy.intInv, h _ H (Same.refl _) (.bl _)⟩
    next => cases e
  next => exact h.elim
theorem d_le : OpD c rLeG leD := by
  intro hs H x y dx dy Q tr hx hy h
  unfold leD at h
  split at h
  next rv e =>
    split at e
    next i j => cases e; exact ⟨i, j, hx.intInv, hy.intInv, h _ H (Same.refl _) (.bl _)⟩
    next => cases e
  next => exact h.elim
theorem d_gt : OpD c rGtG gtD := by
  intro hs H x y dx dy Q tr hx hy h
  unfold gtD at h
  split at h
  next rv e =>
    split at e
    next i j => cases e; exact ⟨i, j, hx.intInv, hy.intInv, h _ H (Same.refl _) (.bl _)⟩
    next => cases e
  next => exact h.elim
theorem d_ge : OpD c rGeG geD := by
  intro hs H x y dx dy Q tr hx hy h
  unfold geD at h
  split at h
  next rv e =>
    split at e
    next i j => cases e; exact ⟨i, j, hx.intInv, hy.intInv, h _ H (Same.refl _) (.bl _)⟩
    next => cases e
  next => exact h.elim
theorem d_neg : UnD c rNegG negD := by
  intro hs H x dx Q tr hx h
  unfold negD at h
  split at h
  next rv e =>
    split at e
    next i => cases e; exact ⟨i, hx.intInv, h _ H (Same.refl _) (.int _)⟩
    next => cases e
  next => exact h.elim
theorem d_eq : OpD c (rEqD c.K) eqD := by
  intro hs H x y dx dy Q tr hx hy h
  unfold eqD at h
  split at h
  next rv e =>
    split at e
    next hc =>
      cases e
      rw [Bool.and_eq_true] at hc
      exact ⟨dx, dy, hx.dp (nodict_of_shaped hc.1), hy.dp (nodict_of_shaped hc.2), hc.1, hc.2, h _ H (Same.refl _) (.bl _)⟩
    next => cases e
  next => exact h.elim
theorem d_ne : OpD c (rNeD c.K) neD := by
  intro hs H x y dx dy Q tr hx hy h
  unfold neD at h
  split at h
  next rv e =>
    split at e
    next hc =>
      cases e
      rw [Bool.and_eq_true] at hc
      exact ⟨dx, dy, hx.dp (nodict_of_shaped hc.1), hy.dp (nodict_of_shaped hc.2), hc.1, hc.2, h _ H (Same.refl _) (.bl _)⟩
    next => cases e
  next => exact h.elim
theorem nonV {H : Hp} {v : V} {d : D} (h : Rp c H v d) : decide (v = .non) = isNoneD d := by
  cases h <;> rfl
theorem nonVq {hs : List Addr} {H : Hp} {v : V} {d : D} (h : Rq c hs H v d) : decide (v = .non) = isNoneD d := by
  cases h with
  | da h => exact nonV h
  | ml _ _ => rfl
theorem d_is : OpD c rIsG isD := by
  intro hs H x y dx dy Q tr hx hy h
  unfold isD at h
  split at h
  next rv e =>
    split at e
    next => cases e; exact .inl ⟨hy.nonInv, by rw [nonVq hx]; exact h _ H (Same.refl _) (.bl _)⟩
    next a b => cases e; exact .inr ⟨a, b, hx.blInv, hy.blInv, h _ H (Same.refl _) (.bl _)⟩
    next => cases e
  next => exact h.elim
theorem d_isnot : OpD c rIsNotG isNotD := by
  intro hs H x y dx dy Q tr hx hy h
  unfold isNotD at h
  split at h
  next rv e =>
    split at e
    next => cases e; exact .inl ⟨hy.nonInv, by rw [nonVq hx]; exact h _ H (Same.refl _) (.bl _)⟩
    next a b => cases e; exact .inr ⟨a, b, hx.blInv, hy.blInv, h _ H (Same.refl _) (.bl _)⟩
    next => cases e
  next => exact h.elim
theorem d_add : OpD c (rAddG c.K) addD := by
  intro hs H x y dx dy Q tr hx hy h
  unfold addD at h
  split at h
  next rv e =>
    split at e
    next i j => cases e; exact .inl ⟨i, j, hx.intInv, hy.intInv, h _ H (Same.refl _) (.int _)⟩
    next i j =>
      split at e
      next hc => cases e; exact .inr (.inl ⟨i, j, hx.strInv, hy.strInv, sz_of hc, h _ H (Same.refl _) (.str _)⟩)
      next => cases e
    next xs ys =>
      split at e
      next hc =>
        cases e
        obtain ⟨a, us, rfl, h1, h2⟩ := hx.tupInv
        obtain ⟨b, ws, rfl, h3, h4⟩ := hy.tupInv
        refine .inr (.inr (.inl ⟨a, b, us, ws, rfl, rfl, hidT h1, hidT h3, by rw [h2.length, h4.length]; exact sz_of hc, fun z => ?_, fun _ z => ?_, fun _ _ p hp => ?_⟩))
        · subst z; cases h2
          exact h _ H (Same.refl _) hy.tupRp
        · subst z; cases h4
          exact h _ H (Same.refl _) (by rw [List.append_nil]; exact hx.tupRp)
        · exact h _ _ (same_new hp) (rp_newtup tr hp (h2.append h4))
      next => cases e
    next xs ys =>
      split at e
      next hc =>
        cases e
        obtain ⟨a, us, rfl, h1, h2⟩ := hx.lstInv
        obtain ⟨b, ws, rfl, h3, h4⟩ := hy.lstInv
        exact .inr (.inr (.inr ⟨a, b, us, ws, rfl, rfl, h1, h3, by rw [h2.length, h4.length]; exact sz_of hc, fun p hp => h _ _ (same_new hp) (rv_newlst tr hp (h2.append h4))⟩))
      next => cases e
    next => cases e
  next => exact h.elim
theorem bigI_lt {i : Int} (h : bigI i = false) : i.natAbs.log2 < 400000 := by
  unfold bigI at h
  have := of_decide_eq_false h
  omega
theorem d_mul : OpD c (rMulG c.K) mulD := by
  intro hs H x y dx dy Q tr hx hy h
  unfold mulD at h
  split at h
  next rv e =>
    split at e
    next i j =>
      split at e
      next => cases e
      next hc =>
        cases e
        have hc' : (bigI i || bigI j) = false := by simpa using hc
        rw [Bool.or_eq_false_iff] at hc'
        have h1 := bigI_lt hc'.1
        have h2 := bigI_lt hc'.2
        exact .inl ⟨i, j, hx.intInv, hy.intInv, (show i.natAbs.log2 + j.natAbs.log2 < 1000000 by omega), h _ H (Same.refl _) (.int _)⟩
    next xs k =>
      split at e
      next hc =>
        cases e
        obtain ⟨a, us, rfl, h1, h2⟩ := hx.tupInv
        refine .inr (.inl ⟨a, k, us, rfl, hy.intInv, hidT h1, hc.2.1, hc.2.2, by rw [h2.length]; exact hc.1, fun z => ?_, fun _ _ p hp => ?_⟩)
        · rcases z with z | z
          · subst z; cases h2
            exact h _ H (Same.refl _) (rvda (by simpa using hx.tupRp))
          · subst z
            exact h _ H (Same.refl _) (rvda (by simpa using hx.tupRp))
        · exact h _ _ (same_new hp) (rp_newtup tr hp (h2.rep _))
      next => cases e
    next xs k =>
      split at e
      next hc =>
        cases e
        obtain ⟨a, us, rfl, h1, h2⟩ := hx.lstInv
        refine .inr (.inr ⟨a, k, us, rfl, hy.intInv, h1, by omega, by omega, ?_, fun p hp => h _ _ (same_new hp) (rv_newlst tr hp (h2.rep _))⟩)
        rw [h2.length]
        have a1 : xs.length * k.toNat ≤ 1000 * 1000 := Nat.mul_le_mul hc.1 (by omega)
        exact sz_of a1
      next => cases e
    next => cases e
  next => exact h.elim
theorem d_ix : OpD c (rIx c.K) ixD := by
  intro hs H x y dx dy Q tr hx hy h
  unfold ixD at h
  split at h
  next rv e =>
    split at e
    next xs i =>
      simp only [Option.map_eq_some_iff] at e
      obtain ⟨d, e1, rfl⟩ := e
      obtain ⟨a, us, rfl, h1, h2⟩ := hx.lstInv
      obtain ⟨v, e2, r⟩ := h2.atI e1
      exact .inl ⟨a, us, i, v, rfl, hy.intInv, .inl (h1), e2, h _ H (Same.refl _) r⟩
    next xs i =>
      simp only [Option.map_eq_some_iff] at e
      obtain ⟨d, e1, rfl⟩ := e
      obtain ⟨a, us, rfl, h1, h2⟩ := hx.tupInv
      obtain ⟨v, e2, r⟩ := h2.atI e1
      exact .inr (.inl ⟨a, us, i, v, rfl, hy.intInv, hidT h1, e2, h _ H (Same.refl _) r⟩)
    next xs i =>
      simp only [Option.map_eq_some_iff] at e
      obtain ⟨d, e1, rfl⟩ := e
      obtain ⟨a, us, rfl, h1, h2⟩ := hx.scrInv
      obtain ⟨v, e2, r⟩ := h2.atI e1
      exact .inl ⟨a, us, i, v, rfl, hy.intInv, hidL h1, e2, h _ H (Same.refl _) r⟩
    next z i =>
      split at e
      next hc =>
        simp only [Option.map_eq_some_iff] at e
        obtain ⟨n, e1, rfl⟩ := e
        exact .inr (.inr ⟨z, i, n, hx.strInv, hy.intInv, sz_of hc, e1, h _ H (Same.refl _) (.str _)⟩)
      next => cases e
    next => cases e
  next => exact h.elim
theorem d_len : CaD c (rLenG c.K) lenD := by
  intro hs H xs ds Q tr hx h
  unfold lenD at h
  split at h
  next rv e =>
    split at e
    next ys =>
      cases e
      obtain ⟨v, rfl, r⟩ := hx.oneInv
      obtain ⟨a, us, rfl, h1, h2⟩ := r.lstInv
      exact ⟨.ref a, ys.length, rfl, .inl ⟨us, .inl (h1), h2.length.symm⟩, h _ H (Same.refl _) (.int _)⟩
    next ys =>
      cases e
      obtain ⟨v, rfl, r⟩ := hx.oneInv
      obtain ⟨a, us, rfl, h1, h2⟩ := r.tupInv
      exact ⟨.ref a, ys.length, rfl, .inr ⟨us, hidT h1, h2.length.symm⟩, h _ H (Same.refl _) (.int _)⟩
    next ys =>
      cases e
      obtain ⟨v, rfl, r⟩ := hx.oneInv
      obtain ⟨a, us, rfl, h1, h2⟩ := r.scrInv
      exact ⟨.ref a, ys.length, rfl, .inl ⟨us, hidL h1, h2.length.symm⟩, h _ H (Same.refl _) (.int _)⟩
    next z =>
      split at e
      next hc =>
        cases e
        obtain ⟨v, rfl, r⟩ := hx.oneInv
        cases r.strInv
        exact ⟨.str z, z.length, rfl, ⟨sz_of hc, rfl⟩, h _ H (Same.refl _) (.int _)⟩
      next => cases e
    next => cases e
  next => exact h.elim
theorem d_abs : CaD c rAbsG absD := by
  intro hs H xs ds Q tr hx h
  unfold absD at h
  split at h
  next rv e =>
    split at e
    next i =>
      cases e
      obtain ⟨v, rfl, r⟩ := hx.oneInv
      exact ⟨i, by rw [r.intInv], h _ H (Same.refl _) (.int _)⟩
    next => cases e
  next => exact h.elim
theorem d_max : CaD c (rMaxG c.K) maxD := by
  intro hs H xs ds Q tr hx h
  unfold maxD at h
  split at h
  next rv e =>
    split at e
    next i j =>
      cases e
      obtain ⟨v, w, rfl, r, r2⟩ := hx.twoInv
      exact .inl ⟨i, j, by rw [r.intInv, r2.intInv], h _ H (Same.refl _) (.int _)⟩
    next ys =>
      simp only [Option.bind_eq_some_iff] at e
      obtain ⟨ns, e1, e2⟩ := e
      split at e2
      next => cases e2
      next hne =>
        cases e2
        obtain ⟨v, rfl, r⟩ := hx.oneInv
        obtain ⟨a, us, rfl, h1, h2⟩ := r.lstInv
        rw [h2.ints e1] at h1
        refine .inr (.inl ⟨a, ns, rfl, .inl (h1), List.length_pos_iff.mpr hne, fun m hm hle => ?_⟩)
        obtain ⟨q1, q2⟩ := maxL_mem hne
        have : m = maxL ns := Int.le_antisymm (q2 m hm) (hle _ q1)
        subst this
        exact h _ H (Same.refl _) (.int _)
    next ys =>
      simp only [Option.bind_eq_some_iff] at e
      obtain ⟨ns, e1, e2⟩ := e
      split at e2
      next => cases e2
      next hne =>
        cases e2
        obtain ⟨v, rfl, r⟩ := hx.oneInv
        obtain ⟨a, us, rfl, h1, h2⟩ := r.tupInv
        rw [h2.ints e1] at h1
        refine .inr (.inr ⟨a, ns, rfl, hidT h1, List.length_pos_iff.mpr hne, fun m hm hle => ?_⟩)
        obtain ⟨q1, q2⟩ := maxL_mem hne
        have : m = maxL ns := Int.le_antisymm (q2 m hm) (hle _ q1)
        subst this
        exact h _ H (Same.refl _) (.int _)
    next => cases e
  next => exact h.elim
theorem d_min : CaD c (rMinG c.K) minD := by
  intro hs H xs ds Q tr hx h
  unfold minD at h
  split at h
  next rv e =>
    split at e
    next i j =>
      cases e
      obtain ⟨v, w, rfl, r, r2⟩ := hx.twoInv
      exact .inl ⟨i, j, by rw [r.intInv, r2.intInv], h _ H (Same.refl _) (.int _)⟩
    next ys =>
      simp only [Option.bind_eq_some_iff] at e
      obtain ⟨ns, e1, e2⟩ := e
      split at e2
      next => cases e2
      next hne =>
        cases e2
        obtain ⟨v, rfl, r⟩ := hx.oneInv
        obtain ⟨a, us, rfl, h1, h2⟩ := r.lstInv
        rw [h2.ints e1] at h1
        refine .inr (.inl ⟨a, ns, rfl, .inl (h1), List.length_pos_iff.mpr hne, fun m hm hle => ?_⟩)
        obtain ⟨q1, q2⟩ := minL_mem hne
        have : m = minL ns := Int.le_antisymm (hle _ q1) (q2 m hm)
        subst this
        exact h _ H (Same.refl _) (.int _)
    next ys =>
      simp only [Option.bind_eq_some_iff] at e
      obtain ⟨ns, e1, e2⟩ := e
      split at e2
      next => cases e2
      next hne =>
        cases e2
        obtain ⟨v, rfl, r⟩ := hx.oneInv
        obtain ⟨a, us, rfl, h1, h2⟩ := r.tupInv
        rw [h2.ints e1] at h1
        refine .inr (.inr ⟨a, ns, rfl, hidT h1, List.length_pos_iff.mpr hne, fun m hm hle => ?_⟩)
        obtain ⟨q1, q2⟩ := minL_mem hne
        have : m = minL ns := Int.le_antisymm (hle _ q1) (q2 m hm)
        subst this
        exact h _ H (Same.refl _) (.int _)
    next => cases e
  next => exact h.elim
theorem d_sum : CaD c (rSumG c.K) sumD := by
  intro hs H xs ds Q tr hx h
  unfold sumD at h
  split at h
  next rv e =>
    split at e
    next ys =>
      simp only [Option.map_eq_some_iff] at e
      obtain ⟨ns, e1, rfl⟩ := e
      obtain ⟨v, rfl, r⟩ := hx.oneInv
      obtain ⟨a, us, rfl, h1, h2⟩ := r.lstInv
      rw [h2.ints e1] at h1
      exact .inl ⟨a, ns, rfl, .inl (h1), h _ H (Same.refl _) (.int _)⟩
    next ys =>
      simp only [Option.map_eq_some_iff] at e
      obtain ⟨ns, e1, rfl⟩ := e
      obtain ⟨v, rfl, r⟩ := hx.oneInv
      obtain ⟨a, us, rfl, h1, h2⟩ := r.tupInv
      rw [h2.ints e1] at h1
      exact .inr ⟨a, ns, rfl, hidT h1, h _ H (Same.refl _) (.int _)⟩
    next => cases e
  next => exact h.elim
theorem d_all : CaD c (rAll c.K) allD := by
  intro hs H xs ds Q tr hx h
  unfold allD at h
  split at h
  next rv e =>
    split at e
    next ys =>
      simp only [Option.map_eq_some_iff] at e
      obtain ⟨ns, e1, rfl⟩ := e
      obtain ⟨v, rfl, r⟩ := hx.oneInv
      obtain ⟨a, us, rfl, h1, h2⟩ := r.lstInv
      rw [h2.bools e1] at h1
      exact ⟨a, ns, rfl, .inl (h1), h _ H (Same.refl _) (.bl _)⟩
    next => cases e
  next => exact h.elim
theorem d_any : CaD c (rAny c.K) anyD := by
  intro hs H xs ds Q tr hx h
  unfold anyD at h
  split at h
  next rv e =>
    split at e
    next ys =>
      simp only [Option.map_eq_some_iff] at e
      obtain ⟨ns, e1, rfl⟩ := e
      obtain ⟨v, rfl, r⟩ := hx.oneInv
      obtain ⟨a, us, rfl, h1, h2⟩ := r.lstInv
      rw [h2.bools e1] at h1
      exact ⟨a, ns, rfl, .inl (h1), h _ H (Same.refl _) (.bl _)⟩
    next => cases e
  next => exact h.elim
theorem d_int : CaD c rInt1 intD := by
  intro hs H xs ds Q tr hx h
  unfold intD at h
  split at h
  next rv e =>
    split at e
    next i =>
      cases e
      obtain ⟨v, rfl, r⟩ := hx.oneInv
      exact .inl ⟨i, by rw [r.intInv], h _ H (Same.refl _) (.int _)⟩
    next i =>
      cases e
      obtain ⟨v, rfl, r⟩ := hx.oneInv
      exact .inr ⟨i, by rw [r.blInv], h _ H (Same.refl _) (.int _)⟩
    next => cases e
  next => exact h.elim
theorem d_tuple : CaD c (rTupOf c.K) tupleD := by
  intro hs H xs ds Q tr hx h
  unfold tupleD at h
  split at h
  next rv e =>
    split at e
    next ys =>
      cases e
      obtain ⟨v, rfl, r⟩ := hx.oneInv
      obtain ⟨a, us, rfl, h1, h2⟩ := r.lstInv
      exact ⟨a, us, rfl, .inl ⟨.inl (h1), fun p hp => h _ _ (same_new hp) (rp_newtup tr hp h2)⟩⟩
    next ys =>
      cases e
      obtain ⟨v, rfl, r⟩ := hx.oneInv
      obtain ⟨a, us, rfl, h1, h2⟩ := id r.tupInv
      exact ⟨a, us, rfl, .inr ⟨hidT h1, h _ H (Same.refl _) r.tupRp⟩⟩
    next => cases e
  next => exact h.elim
theorem d_list : CaD c (rLstOf c.K) listD := by
  intro hs H xs ds Q tr hx h
  unfold listD at h
  split at h
  next rv e =>
    split at e
    next ys =>
      cases e
      obtain ⟨v, rfl, r⟩ := hx.oneInv
      obtain ⟨a, us, rfl, h1, h2⟩ := r.lstInv
      exact ⟨a, us, rfl, .inl (.inl (h1)), fun p hp => h _ _ (same_new hp) (rv_newlst tr hp h2)⟩
    next ys =>
      cases e
      obtain ⟨v, rfl, r⟩ := hx.oneInv
      obtain ⟨a, us, rfl, h1, h2⟩ := r.tupInv
      exact ⟨a, us, rfl, .inr (hidT h1), fun p hp => h _ _ (same_new hp) (rv_newlst tr hp h2)⟩
    next => cases e
  next => exact h.elim
/-! isinstance of a built-in type -/
theorem tyx_of {H : Hp} {v : V} {d : D} (h : Rp c H v d) : ∃ t, TyX c.K H v (.type t) ∧ ∀ T : String, (T = "int" ∨ T = "bool" ∨ T = "str" ∨ T = "list" ∨ T = "tuple" ∨ T = "dict") → PySem.W.kitOne c.K (.type t) (.type T) = some (isiD T d) := by
  cases h with
  | non => exact ⟨_, .base .non, by rintro T (rfl | rfl | rfl | rfl | rfl | rfl) <;> rfl⟩
  | bl b => exact ⟨_, .base (.bl b), by rintro T (rfl | rfl | rfl | rfl | rfl | rfl) <;> rfl⟩
  | int b => exact ⟨_, .base (.int b), by rintro T (rfl | rfl | rfl | rfl | rfl | rfl) <;> rfl⟩
  | str b => exact ⟨_, .base (.str b), by rintro T (rfl | rfl | rfl | rfl | rfl | rfl) <;> rfl⟩
  | lst h r =>
    rcases h with h | ⟨o, h⟩
    · exact ⟨"list", .base (.lst h), by rintro T (rfl | rfl | rfl | rfl | rfl | rfl) <;> rfl⟩
    · exact ⟨"list", .base (.frz h), by rintro T (rfl | rfl | rfl | rfl | rfl | rfl) <;> rfl⟩
  | tup h r =>
    rcases h with (h | ⟨o, h⟩) | ⟨o, its, n, h, hc, _⟩
    · exact ⟨"tuple", .base (.tup h), by rintro T (rfl | rfl | rfl | rfl | rfl | rfl) <;> rfl⟩
    · exact ⟨"tuple", .fTuple h, by rintro T (rfl | rfl | rfl | rfl | rfl | rfl) <;> rfl⟩
    · exact ⟨"tuple", .kTuple h hc, by rintro T (rfl | rfl | rfl | rfl | rfl | rfl) <;> rfl⟩
  | dct0 h => exact ⟨"dict", .base (.dK h), by rintro T (rfl | rfl | rfl | rfl | rfl | rfl) <;> rfl⟩
  | scr h r =>
    rcases h with (h | ⟨o, h⟩) | ⟨o, its, n, h, hc, _⟩
    · exact ⟨"list", .base (.lst h), by rintro T (rfl | rfl | rfl | rfl | rfl | rfl) <;> rfl⟩
    · exact ⟨"list", .base (.frz h), by rintro T (rfl | rfl | rfl | rfl | rfl | rfl) <;> rfl⟩
    · exact ⟨"list", .kList h hc, by rintro T (rfl | rfl | rfl | rfl | rfl | rfl) <;> rfl⟩
theorem tyx_grow {K : PySem.W.Frag} {H H' : Hp} {v : V} {t : Value} (e : Same H H') (h : TyX K H v t) : TyX K H' v t := by
  cases h with
  | base b =>
    refine .base ?_
    cases b with
    | non => exact .non
    | bl x => exact .bl x
    | int x => exact .int x
    | str x => exact .str x
    | flt x => exact .flt x
    | lst h => exact .lst (e _ _ h)
    | frz h => exact .frz (e _ _ h)
    | tup h => exact .tup (e _ _ h)
    | dK h => exact .dK (e _ _ h)
    | dT h => exact .dT (e _ _ h)
    | ins h cl ha hn htk hm => exact .ins (e _ _ h) cl ha hn htk hm
  | byt b => exact .byt b
  | set h => exact .set (e _ _ h)
  | kList h c => exact .kList h c
  | kTuple h c => exact .kTuple h c
  | kDict h c => exact .kDict h c
  | fTuple h => exact .fTuple (e _ _ h)
  | fDict h => exact .fDict (e _ _ h)
theorem tyq_of {hs : List Addr} {H : Hp} {v : V} {d : D} (h : Rq c hs H v d) : ∃ t, TyX c.K H v (.type t) ∧ ∀ T : String, (T = "int" ∨ T = "bool" ∨ T = "str" ∨ T = "list" ∨ T = "tuple" ∨ T = "dict") → PySem.W.kitOne c.K (.type t) (.type T) = some (isiD T d) := by
  cases h with
  | da h =>
    obtain ⟨t, q1, q2⟩ := tyx_of h
    exact ⟨t, tyx_grow hid_le q1, q2⟩
  | ml h r => exact ⟨"list", .base (.lst h), by rintro T (rfl | rfl | rfl | rfl | rfl | rfl) <;> rfl⟩
def isiE (T : String) (a : M Rv) : M Rv := op1 (fun d => some (.da (.bool (isiD T d)))) a
theorem dn_isi {E : XK} {T : String} {ta : TE} {fa : M Rv} (hT : T = "int" ∨ T = "bool" ∨ T = "str" ∨ T = "list" ∨ T = "tuple" ∨ T = "dict") (ha : Dn c E ta fa) :
    Dn c E (tCB (rIsi c.K) (tCons ta (tCons (tC (.ty T)) tNil))) (isiE T fa) := by
  intro F ms hs g σ H Q Y h
  unfold isiE op1 at h
  refine ha F ms hs g σ H _ Y ?_
  cases e1 : fa g with
  | no => rw [e1] at h; exact h
  | ex _ => rw [e1] at h; exact h
  | ok p =>
    obtain ⟨x, g1⟩ := p
    simp only [e1, Re.ok_bind] at h
    intro v1 H1 Y1 S1 o1
    cases q3 : x.dat g1 with
    | none => rw [q3] at h; exact False.elim h
    | some d3 =>
      simp only [q3, ofO_some, Re.ok_bind, Re.pure_eq] at h
      obtain ⟨t, q1, q2⟩ := tyq_of ((o1.l Y.tr).q Y1 q3)
      exact ⟨v1, .ty T, .type t, .type T, isiD T d3, rfl, .ty T, q1, q2 T hT, h _ H1 Y1 S1 rvok_bool⟩
end
end GD

/-! GD6: slices, targets, statements. -/
namespace GD
open PySem PySem.Spec PyProof.Rows L2

def oN : M (Option Int) := fun g => .ok (none, g)
def intOf : Rv → Option Int
  | .da (.int i) => some i
  | _ => none
@[simp] theorem intOf_int (i : Int) : intOf (.da (.int i)) = some i := rfl
def oS (a : M Rv) : M (Option Int) := fun g => do
  let (x, g1) ← a g
  let i ← ofO (intOf x)
  pure (some i, g1)
def slE (f : D → Option Int → Option Int → Option Rv) (a : M Rv) (lo hi : M (Option Int)) : M Rv := fun g => do
  let (x, g1) ← a g
  let (l, g2) ← lo g1
  let (u, g3) ← hi g2
  let d ← ofO (x.dat g3)
  let r ← ofO (f d l u)
  pure (r, g3)
def slD : D → Option Int → Option Int → Option Rv
  | .tuple xs, lo, hi => some (.da (.tuple (cutD xs lo hi)))
  | .list xs, lo, hi => some (.fl (cutD xs lo hi))
  | _, _, _ => none

inductive SR where
  | nx (g : G)
  | rt (r : Rv) (g : G)
  | bk (g : G)
  | ct (g : G)
  | ex (c : Str)
  | no
def seqS (a b : G → SR) : G → SR := fun g => match a g with
  | .nx g1 => b g1
  | r => r
def nextS : G → SR := .nx
def asgS (e : M Rv) (T : Rv → G → Re G) : G → SR := fun g => match e g with
  | .ok (r, g1) => (match T r g1 with
    | .ok g2 => .nx g2
    | _ => .no)
  | .ex e => .ex e
  | .no => .no
def parS (i j : Nat) (a : M (List Rv)) : G → SR := fun g => match a g with
  | .ok ([r1, r2], g1) => (match rawL g1 [r1, r2] with
    | some [d1, d2] => .nx ((g1.set i (.da d1)).set j (.da d2))
    | _ => .no)
  | .ok _ => .no
  | .ex e => .ex e
  | .no => .no
def ifS (t : M Bool) (a b : G → SR) : G → SR := fun g => match t g with
  | .ok (x, g1) => if x = true then a g1 else b g1
  | .ex e => .ex e
  | .no => .no
def retS (e : M Rv) : G → SR := fun g => match e g with
  | .ok (.da d, g1) => .rt (.da d) g1
  | .ok (.fl d, g1) => .rt (.fl d) g1
  | .ok (.bl i, g1) => (match g1[i]? with
    | some (.ml true ds) => .rt (.fl ds) g1
    | _ => .no)
  | .ex e => .ex e
  | .no => .no
def retN : G → SR := fun g => .rt (.da .none) g
def dropS (e : M Rv) : G → SR := fun g => match e g with
  | .ok (_, g1) => .nx g1
  | .ex e => .ex e
  | .no => .no
def raiseS (c : Str) : G → SR := fun _ => .ex c
def neverS : G → SR := fun _ => .no
def contS : G → SR := .ct
def breakS : G → SR := .bk
def frzS (i : Nat) (g : G) : G := match g[i]? with
  | some (.ml true ds) => g.set i (.da (.list ds))
  | _ => g
/-- xs.append(e) -/
def appS (o e : M Rv) : G → SR := fun g => match o g with
  | .ok (.bl i, g1) => (match g1[i]? with
    | some (.ml _ _) => (match e g1 with
      | .ok (r, g2) => (match rawL g2 [r] with
        | some [d] => (match g2[i]? with
          | some (.ml own ds) => if ds.length < 1000000 then .nx (g2.set i (.ml own (ds ++ [d]))) else .no
          | _ => .no)
        | _ => .no)
      | .ex e => .ex e
      | .no => .no)
    | _ => .no)
  | .ok _ => .no
  | .ex e => .ex e
  | .no => .no
/-- xs.extend(a list) -/
def extS (o e : M Rv) : G → SR := fun g => match o g with
  | .ok (.bl i, g1) => (match g1[i]? with
    | some (.ml _ _) => (match e g1 with
      | .ok (r, g2) => (match rawL g2 [r] with
        | some [.list es] => (match g2[i]? with
          | some (.ml own ds) => if ds.length + es.length ≤ 1000000 then .nx (g2.set i (.ml own (ds ++ es))) else .no
          | _ => .no)
        | _ => .no)
      | .ex e => .ex e
      | .no => .no)
    | _ => .no)
  | .ok _ => .no
  | .ex e => .ex e
  | .no => .no
/-! targets -/
def tgN (j : Nat) : Rv → G → Re G := fun r g => match r with
  | .da d => .ok (g.set j (.da d))
  | .fl ds => .ok (g.set j (.da (.list ds)))
  | .bl i => (match g[i]? with
    | some (.ml true ds) => .ok ((g.set i (.da (.list ds))).set j (.da (.list ds)))
    | _ => .no)
def tgM (j : Nat) : Rv → G → Re G := fun r g => match r with
  | .fl ds => .ok (g.set j (.ml true ds))
  | .bl i => (match g[i]? with
    | some (.ml true ds) => .ok ((g.set i .un).set j (.ml true ds))
    | _ => .no)
  | .da _ => .no
def tgs : List (Rv → G → Re G) → List D → G → Re G
  | [], [], g => .ok g
  | T :: Ts, d :: ds, g => (match T (.da d) g with
    | .ok g1 => tgs Ts ds g1
    | _ => .no)
  | _, _, _ => .no
def tgT (Ts : List (Rv → G → Re G)) : Rv → G → Re G := fun r g => match r with
  | .da (.tuple ds) => tgs Ts ds g
  | _ => .no
/-- x[i] = e -/
def tgS (o i : M Rv) : Rv → G → Re G := fun r g => match rawL g [r] with
  | some [d] => (match o g with
    | .ok (.bl s, g1) => (match i g1 with
      | .ok (.da (.int k), g2) => (match g2[s]? with
        | some (.ml own ds) => (match ixN ds.length k with
          | some j => .ok (g2.set s (.ml own (ds.set j d)))
          | none => .no)
        | _ => .no)
      | _ => .no)
    | _ => .no)
  | _ => .no

section
variable {c : CT} {E : XK}
theorem do_none : Do c E tNoPart oN := fun F ms hs g σ H Q Y h => h none H Y Sm.refl rfl
theorem intInvR {F : Fx} {ms hs : List Addr} {g : G} {σ : L2.St} {H H' : Hp} {v : V} {r : Rv} {i : Int} (h : RvR c F ms g σ hs H H' v r) (e : intOf r = some i) : v = .int i := by
  unfold intOf at e
  split at e
  next => cases e; exact (show Rp c (hid hs H') v (.int _) from h).intInv
  next => cases e
theorem do_some {te : TE} {f : M Rv} (ha : Dn c E te f) : Do c E (tPart te) (oS f) := by
  intro F ms hs g σ H Q Y h
  unfold oS at h
  refine ha F ms hs g σ H _ Y ?_
  cases e1 : f g with
  | no => rw [e1] at h; exact h
  | ex _ => rw [e1] at h; exact h
  | ok p =>
    obtain ⟨x1, g1⟩ := p
    simp only [e1, Re.ok_bind] at h
    intro v1 H1 Y1 S1 o1
    cases q3 : intOf x1 with
    | none => rw [q3] at h; exact False.elim h
    | some i =>
      simp only [q3, ofO_some, Re.ok_bind, Re.pure_eq] at h
      exact ⟨i, intInvR o1 q3, h _ H1 Y1 S1 rfl⟩
theorem dn_sl {r : V → Option Int → Option Int → Hp → VK → Prop} {f : D → Option Int → Option Int → Option Rv} {te : TE} {tl th : TO} {fe : M Rv} {fl fh : M (Option Int)} (ho : SlD c r f) (ha : Dn c E te fe) (hl : Do c E tl fl) (hh : Do c E th fh) :
    Dn c E (tSl r te tl th) (slE f fe fl fh) := by
  intro F ms hs g σ H Q Y h
  unfold slE at h
  refine ha F ms hs g σ H _ Y ?_
  cases e1 : fe g with
  | no => rw [e1] at h; exact h
  | ex _ => rw [e1] at h; exact h
  | ok p =>
    obtain ⟨x1, g1⟩ := p
    simp only [e1, Re.ok_bind] at h
    intro v1 H1 Y1 S1 o1
    refine hl F ms hs g1 σ H1 _ Y1 ?_
    cases e2 : fl g1 with
    | no => rw [e2] at h; exact h
    | ex _ => rw [e2] at h; exact h
    | ok p =>
      obtain ⟨l, g2⟩ := p
      simp only [e2, Re.ok_bind] at h
      intro v2 H2 Y2 S2 o2
      cases (show v2 = l from o2)
      refine hh F ms hs g2 σ H2 _ Y2 ?_
      cases e3 : fh g2 with
      | no => rw [e3] at h; exact h
      | ex _ => rw [e3] at h; exact h
      | ok p =>
        obtain ⟨u, g3⟩ := p
        simp only [e3, Re.ok_bind] at h
        intro v3 H3 Y3 S3 o3
        cases (show v3 = u from o3)
        cases q3 : x1.dat g3 with
        | none => rw [q3] at h; exact False.elim h
        | some d =>
          simp only [q3, ofO_some, Re.ok_bind, Re.pure_eq] at h
          refine ho hs H3 v1 d l u Q Y3.tr ((((o1.l Y.tr).same S2.s).same S3.s).q Y3 q3) ?_
          cases q4 : f d l u with
          | none => rw [q4] at h; exact False.elim h
          | some rv =>
            simp only [q4, ofO_some, Re.ok_bind, Re.pure_eq] at h
            exact fin_op Y3 ((S1.trans S2).trans S3) h
theorem cut_whole {ds : List D} {lo hi : Option Int} (h : HT.sIx ds.length 0 lo = 0 ∧ HT.sIx ds.length ds.length hi = ds.length) : cutD ds lo hi = ds := by
  unfold cutD
  rw [h.1, h.2]
  simp
theorem d_sl : SlD c (rSlG c.K) slD := by
  intro hs H x dx lo hi Q tr hx h
  unfold slD at h
  split at h
  next rv e =>
    split at e
    next xs lo hi =>
      cases e
      obtain ⟨a, us, rfl, h1, h2⟩ := hx.tupInv
      refine .inl ⟨a, us, rfl, hidT h1, fun z => ?_, fun _ p hp => h _ _ (same_new hp) (rp_newtup tr hp (h2.cut _ _))⟩
      rw [h2.length] at z
      exact h _ H (Same.refl _) (rvda (by rw [cut_whole z]; exact hx.tupRp))
    next xs lo hi =>
      cases e
      obtain ⟨a, us, rfl, h1, h2⟩ := hx.lstInv
      exact .inr ⟨a, us, rfl, .inl h1, fun p hp => h _ _ (same_new hp) (rv_newlst tr hp (h2.cut _ _))⟩
    next => cases e
  next => exact h.elim

/-! ### statements -/
def RvT (c : CT) (F : Fx) (hs : List Addr) (H : Hp) (v : V) : Rv → Prop
  | .da d => Rp c (hid hs H) v d
  | .fl ds => ∃ a vs, v = .ref a ∧ F.H0 a = none ∧ H a = some (.lst vs) ∧ RpL c (hid (a :: hs) H) vs ds
  | .bl _ => False
def SPost (c : CT) (E : XK) (F : Fx) (hs : List Addr) (H : Hp) (D : Ends) : SR → Prop
  | .nx g => ∀ ms' hs' σ' H', Rel c F ms' hs' g σ' H' → Same (hid hs H) (hid hs' H') → D.nx σ' H'
  | .bk g => ∀ ms' hs' σ' H', Rel c F ms' hs' g σ' H' → Same (hid hs H) (hid hs' H') → D.bk σ' H'
  | .ct g => ∀ ms' hs' σ' H', Rel c F ms' hs' g σ' H' → Same (hid hs H) (hid hs' H') → D.ct σ' H'
  | .rt r g => ∀ ms' hs' σ' v H', Rel c F ms' hs' g σ' H' → Same (hid hs H) (hid hs' H') → RvT c F hs' H' v r → D.rt v H'
  | .ex e => ∀ u H', c.mg e = some u → (∀ b o, F.H0 b = some o → b ∉ F.ps → H' b = some o) → E u none H'
  | .no => False
def Sn (c : CT) (E : XK) (t : TS) (f : G → SR) : Prop :=
  ∀ (F : Fx) (ms hs : List Addr) (g : G) (σ : L2.St) (H : Hp) (D : Ends), Rel c F ms hs g σ H → SPost c E F hs H D (f g) → t D σ H
theorem SPost.of {F : Fx} {hs hs' : List Addr} {H H' : Hp} {D : Ends} {r : SR} (e : Same (hid hs H) (hid hs' H')) (h : SPost c E F hs H D r) : SPost c E F hs' H' D r := by
  cases r with
  | nx g => exact fun m a b d Y S => h m a b d Y (e.trans S)
  | bk g => exact fun m a b d Y S => h m a b d Y (e.trans S)
  | ct g => exact fun m a b d Y S => h m a b d Y (e.trans S)
  | rt r g => exact fun m a b v d Y S o => h m a b v d Y (e.trans S) o
  | ex e => exact h
  | no => exact h
theorem sn_next : Sn c E tNext nextS := fun F ms hs g σ H D Y h => h ms hs σ H Y (Same.refl _)
theorem sn_cont : Sn c E tCont contS := fun F ms hs g σ H D Y h => h ms hs σ H Y (Same.refl _)
theorem sn_break : Sn c E tBreak breakS := fun F ms hs g σ H D Y h => h ms hs σ H Y (Same.refl _)
theorem sn_never {t : TS} : Sn c E t neverS := fun F ms hs g σ H D Y h => h.elim
theorem sn_seq {t u : TS} {f k : G → SR} (h1 : Sn c E t f) (h2 : Sn c E u k) : Sn c E (tSeq t u) (seqS f k) := by
  intro F ms hs g σ H D Y h
  refine h1 F ms hs g σ H _ Y ?_
  unfold seqS at h
  cases e : f g with
  | nx g1 =>
    rw [e] at h
    intro ms' hs' σ' H' Y' S'
    exact h2 F ms' hs' g1 σ' H' D Y' (SPost.of S' h)
  | bk g1 => rw [e] at h; exact h
  | ct g1 => rw [e] at h; exact h
  | rt r g1 => rw [e] at h; exact h
  | ex c => rw [e] at h; exact h
  | no => rw [e] at h; exact h
theorem sn_if {tt : TT} {t u : TS} {ft : M Bool} {f k : G → SR} (ht : Dt c E tt ft) (h1 : Sn c E t f) (h2 : Sn c E u k) : Sn c E (tIfS tt t u) (ifS ft f k) := by
  intro F ms hs g σ H D Y h
  unfold ifS at h
  refine ht F ms hs g σ H _ Y ?_
  cases e1 : ft g with
  | no => rw [e1] at h; exact h
  | ex _ => rw [e1] at h; exact h
  | ok p =>
    obtain ⟨x, g1⟩ := p
    rw [e1] at h
    intro v1 H1 Y1 S1 o1
    cases (show v1 = x from o1)
    cases x with
    | true => exact h1 F ms hs g1 σ H1 D Y1 (SPost.of S1.s h)
    | false => exact h2 F ms hs g1 σ H1 D Y1 (SPost.of S1.s h)
theorem sn_ret {te : TE} {fe : M Rv} (he : Dn c E te fe) : Sn c E (tRet te) (retS fe) := by
  intro F ms hs g σ H D Y h
  unfold retS at h
  refine he F ms hs g σ H _ Y ?_
  cases e1 : fe g with
  | no => rw [e1] at h; exact h
  | ex _ => rw [e1] at h; exact h
  | ok p =>
    obtain ⟨x, g1⟩ := p
    rw [e1] at h
    intro v1 H1 Y1 S1 o1
    cases x with
    | da d => exact h ms hs σ v1 H1 Y1 S1.s o1
    | fl ds =>
      obtain ⟨a, vs, rfl, n, q1, q2, _⟩ := o1
      exact h ms hs σ _ H1 Y1 S1.s ⟨a, vs, rfl, Y.fresh0 n, q1, q2⟩
    | bl i =>
      dsimp only at h
      split at h
      next ds hi =>
        obtain ⟨a, vs, e2, m, o2, o3, ha, rr⟩ := Y1.sl i _ hi
        have o1' : σ[i]? = some (some v1) := o1
        rw [o1'] at e2
        cases e2
        refine h ms hs σ _ H1 Y1 S1.s ⟨a, vs, rfl, o2 rfl, ha, rr.same fun b o q => ?_⟩
        rw [hid_out (show b ∉ a :: hs from fun z => (List.mem_cons.mp z).elim (fun z => by subst z; rw [hid_in (Y1.mh _ m)] at q; cases q) fun z => by rw [hid_in z] at q; cases q)]
        exact hid_le _ _ q
      next => exact h.elim
theorem sn_retN : Sn c E tRetN retN := fun F ms hs g σ H D Y h => h ms hs σ .non H Y (Same.refl _) .non
theorem sn_drop {te : TE} {fe : M Rv} (he : Dn c E te fe) : Sn c E (tDrop te) (dropS fe) := by
  intro F ms hs g σ H D Y h
  unfold dropS at h
  refine he F ms hs g σ H _ Y ?_
  cases e1 : fe g with
  | no => rw [e1] at h; exact h
  | ex _ => rw [e1] at h; exact h
  | ok p =>
    obtain ⟨x, g1⟩ := p
    rw [e1] at h
    intro v1 H1 Y1 S1 o1
    exact h ms hs σ H1 Y1 S1.s
/-- raise of an own class that has no __init__ of its own -/
theorem sn_raise {C : Addr} {e : Str} (hm : c.mg e = some (.ref C)) {t : TS} (ht : ∀ D σ H, E (.ref C) none H → t D σ H) : Sn c E t (raiseS e) := fun F ms hs g σ H D Y h =>
  ht D σ H (h (.ref C) H hm Y.fr)

/-! ### slots changed -/
theorem Rel.setDa {F : Fx} {ms hs : List Addr} {g : G} {σ : L2.St} {H : Hp} {v : V} {d : D} (Y : Rel c F ms hs g σ H) (r : Rp c (hid hs H) v d) (j : Nat) : Rel c F ms hs (g.set j (.da d)) (σ.set j (some v)) H := by
  refine ⟨by rw [List.length_set, List.length_set]; exact Y.len, fun i γ hi => ?_, fun i k oi di ok dk a h1 h2 e1 e2 => ?_, Y.fr, Y.tr, Y.sub, Y.pc, Y.oc, Y.mh⟩
  · by_cases e : j = i
    · subst e
      have hl : j < g.length := by
        have := (List.getElem?_eq_some_iff.mp hi).1
        rwa [List.length_set] at this
      rw [List.getElem?_set_self hl] at hi
      cases hi
      exact ⟨v, List.getElem?_set_self (by rw [← Y.len]; exact hl), r⟩
    · rw [List.getElem?_set_ne e] at hi
      rw [List.getElem?_set_ne e]
      exact Y.sl i γ hi
  · have back : ∀ {i : Nat} {oi : Bool} {di : List PyData}, (g.set j (.da d))[i]? = some (.ml oi di) → i ≠ j := fun {i oi di} h z => by
      subst z
      have hl : i < g.length := by
        have := (List.getElem?_eq_some_iff.mp h).1
        rwa [List.length_set] at this
      rw [List.getElem?_set_self hl] at h
      cases h
    have n1 := back h1
    have n2 := back h2
    rw [List.getElem?_set_ne (Ne.symm n1)] at h1 e1
    rw [List.getElem?_set_ne (Ne.symm n2)] at h2 e2
    exact Y.dis i k oi di ok dk a h1 h2 e1 e2
theorem Rel.setUn {F : Fx} {ms hs : List Addr} {g : G} {σ : L2.St} {H : Hp} (Y : Rel c F ms hs g σ H) (j : Nat) : Rel c F ms hs (g.set j .un) σ H := by
  refine ⟨by rw [List.length_set]; exact Y.len, fun i γ hi => ?_, fun i k oi di ok dk a h1 h2 e1 e2 => ?_, Y.fr, Y.tr, Y.sub, Y.pc, Y.oc, Y.mh⟩
  · by_cases e : j = i
    · subst e
      have hl : j < g.length := by
        have := (List.getElem?_eq_some_iff.mp hi).1
        rwa [List.length_set] at this
      rw [List.getElem?_set_self hl] at hi
      cases hi
      exact True.intro
    · rw [List.getElem?_set_ne e] at hi
      exact Y.sl i γ hi
  · have back : ∀ {i : Nat} {oi : Bool} {di : List PyData}, (g.set j .un)[i]? = some (.ml oi di) → i ≠ j := fun {i oi di} h z => by
      subst z
      have hl : i < g.length := by
        have := (List.getElem?_eq_some_iff.mp h).1
        rwa [List.length_set] at this
      rw [List.getElem?_set_self hl] at h
      cases h
    have n1 := back h1
    have n2 := back h2
    rw [List.getElem?_set_ne (Ne.symm n1)] at h1
    rw [List.getElem?_set_ne (Ne.symm n2)] at h2
    exact Y.dis i k oi di ok dk a h1 h2 e1 e2
/-- the slot's value is replaced by anything where nothing is known of the slot -/
theorem Rel.setAny {F : Fx} {ms hs : List Addr} {g : G} {σ : L2.St} {H : Hp} {j : Nat} {x : Option V} (Y : Rel c F ms hs g σ H) (hj : ∀ γ, g[j]? = some γ → γ = .un) : Rel c F ms hs g (σ.set j x) H := by
  have ne : ∀ {i : Nat} {γ : Sl}, g[i]? = some γ → γ ≠ .un → j ≠ i := fun {i γ} h n z => by subst z; exact n (hj _ h)
  refine ⟨by rw [List.length_set]; exact Y.len, fun i γ hi => ?_, fun i k oi di ok dk a h1 h2 e1 e2 => ?_, Y.fr, Y.tr, Y.sub, Y.pc, Y.oc, Y.mh⟩
  · cases γ with
    | un => exact True.intro
    | da d => rw [List.getElem?_set_ne (ne hi (by simp))]; exact Y.sl i _ hi
    | ml o d => rw [List.getElem?_set_ne (ne hi (by simp))]; exact Y.sl i _ hi
  · rw [List.getElem?_set_ne (ne h1 (by simp))] at e1
    rw [List.getElem?_set_ne (ne h2 (by simp))] at e2
    exact Y.dis i k oi di ok dk a h1 h2 e1 e2
theorem SlOk.moreMs {F : Fx} {ms ms' hs : List Addr} {H : Hp} {s : Option (Option V)} {γ : Sl} (m : ∀ b ∈ ms, b ∈ ms') (h : SlOk c F ms hs H s γ) : SlOk c F ms' hs H s γ := by
  cases γ with
  | un => exact True.intro
  | da d => exact h
  | ml o d => obtain ⟨a, vs, e1, m1, r⟩ := h; exact ⟨a, vs, e1, m a m1, r⟩
theorem Rel.setMl {F : Fx} {ms hs : List Addr} {g : G} {σ : L2.St} {H : Hp} {a : Addr} {vs : List V} {ds : List D} (Y : Rel c F ms (a :: hs) g σ H) (na : a ∉ ms) (h0 : F.H0 a = none) (ha : H a = some (.lst vs)) (r : RpL c (hid (a :: hs) H) vs ds) (j : Nat) :
    Rel c F (a :: ms) (a :: hs) (g.set j (.ml true ds)) (σ.set j (some (.ref a))) H := by
  have nadr : ∀ {i : Nat} {oi : Bool} {di : List PyData}, g[i]? = some (.ml oi di) → σ[i]? ≠ some (some (.ref a)) := fun {i oi di} h z => by
    obtain ⟨b, ws, e1, m, _⟩ := Y.sl i _ h
    rw [z] at e1
    cases e1
    exact na m
  have at_j : ∀ {γ : Sl}, (g.set j (.ml true ds))[j]? = some γ → γ = .ml true ds ∧ j < g.length := fun {γ} h => by
    have hl : j < g.length := by
      have := (List.getElem?_eq_some_iff.mp h).1
      rwa [List.length_set] at this
    rw [List.getElem?_set_self hl] at h
    cases h
    exact ⟨rfl, hl⟩
  refine ⟨by rw [List.length_set, List.length_set]; exact Y.len, fun i γ hi => ?_, fun i k oi di ok dk b h1 h2 e1 e2 => ?_, Y.fr, Y.tr, Y.sub, Y.pc, Y.oc, fun b hb => ?_⟩
  · by_cases e : j = i
    · subst e
      obtain ⟨rfl, hl⟩ := at_j hi
      exact ⟨a, vs, List.getElem?_set_self (by rw [← Y.len]; exact hl), List.mem_cons_self, fun _ => h0, (fun z => nomatch z), ha, r⟩
    · rw [List.getElem?_set_ne e] at hi
      rw [List.getElem?_set_ne e]
      exact (Y.sl i γ hi).moreMs fun b hb => List.mem_cons_of_mem _ hb
  · by_cases e : j = i
    · by_cases e' : j = k
      · exact e.symm.trans e'
      · subst e
        obtain ⟨_, hl⟩ := at_j h1
        rw [List.getElem?_set_self (by rw [← Y.len]; exact hl)] at e1
        cases e1
        rw [List.getElem?_set_ne e'] at h2 e2
        exact absurd e2 (nadr h2)
    · by_cases e' : j = k
      · subst e'
        obtain ⟨_, hl⟩ := at_j h2
        rw [List.getElem?_set_self (by rw [← Y.len]; exact hl)] at e2
        cases e2
        rw [List.getElem?_set_ne e] at h1 e1
        exact absurd e1 (nadr h1)
      · rw [List.getElem?_set_ne e] at h1 e1
        rw [List.getElem?_set_ne e'] at h2 e2
        exact Y.dis i k oi di ok dk b h1 h2 e1 e2
  · rcases List.mem_cons.mp hb with rfl | hb
    · exact List.mem_cons_self
    · exact Y.mh b hb
/-- a list of one's own is no longer changed -/
theorem Rel.freeze {F : Fx} {ms hs : List Addr} {g : G} {σ : L2.St} {H : Hp} {i : Nat} {ds : List D} {a : Addr} (Y : Rel c F ms hs g σ H) (hi : g[i]? = some (.ml true ds)) (ha : σ[i]? = some (some (.ref a))) :
    Rel c F (ms.filter fun b => decide (b ≠ a)) (hs.filter fun b => decide (b ≠ a)) (g.set i (.da (.list ds))) σ H ∧ Same (hid hs H) (hid (hs.filter fun b => decide (b ≠ a)) H) ∧ Rp c (hid (hs.filter fun b => decide (b ≠ a)) H) (.ref a) (.list ds) := by
  obtain ⟨a', vs, e1, m, o1, _, h1, rr⟩ := Y.sl i _ hi
  rw [ha] at e1
  cases e1
  have sm : Same (hid hs H) (hid (hs.filter fun b => decide (b ≠ a)) H) := hid_sub fun b hb => (List.mem_filter.mp hb).1
  have na : a ∉ hs.filter fun b => decide (b ≠ a) := fun z => by
    have := (List.mem_filter.mp z).2
    simp at this
  have rp : Rp c (hid (hs.filter fun b => decide (b ≠ a)) H) (.ref a) (.list ds) := .lst (.inl (by rw [hid_out na]; exact h1)) (rr.same sm)
  have hl := (List.getElem?_eq_some_iff.mp hi).1
  refine ⟨⟨by rw [List.length_set]; exact Y.len, fun k γ hk => ?_, fun k l ok dk ol dl b h1 h2 e1 e2 => ?_, Y.fr, fun b hb => Y.tr b (List.mem_filter.mp hb).1, fun b hb => List.mem_filter.mpr ⟨Y.sub b hb, ?_⟩, Y.pc, Y.oc, fun b hb => List.mem_filter.mpr ⟨Y.mh b (List.mem_filter.mp hb).1, (List.mem_filter.mp hb).2⟩⟩, sm, rp⟩
  · by_cases e : i = k
    · subst e
      rw [List.getElem?_set_self hl] at hk
      cases hk
      exact ⟨_, ha, rp⟩
    · rw [List.getElem?_set_ne e] at hk
      have q := Y.sl k γ hk
      cases γ with
      | un => exact True.intro
      | da d => obtain ⟨v, e1, r⟩ := q; exact ⟨v, e1, r.same sm⟩
      | ml ok dk =>
        obtain ⟨b, ws, e1, m', p1, p2, hb, x⟩ := q
        have hne : b ≠ a := fun z => e (Y.dis i k true ds ok dk a hi hk ha (z ▸ e1))
        exact ⟨b, ws, e1, List.mem_filter.mpr ⟨m', by simpa using hne⟩, p1, p2, hb, x.same sm⟩
  · have back : ∀ {k : Nat} {ok : Bool} {dk : List PyData}, (g.set i (.da (.list ds)))[k]? = some (.ml ok dk) → g[k]? = some (.ml ok dk) := fun {k ok dk} h => by
      by_cases e : i = k
      · subst e
        rw [List.getElem?_set_self hl] at h
        cases h
      · rwa [List.getElem?_set_ne e] at h
    exact Y.dis k l ok dk ol dl b (back h1) (back h2) e1 e2
  · have : b ≠ a := fun z => by subst z; exact Y.oc b hb (o1 rfl)
    simpa using this
theorem sn_frz {t : TS} {f : G → SR} (i : Nat) (h1 : Sn c E t f) : Sn c E t (fun g => f (frzS i g)) := by
  intro F ms hs g σ H D Y h
  dsimp only at h
  unfold frzS at h
  split at h
  next ds hi =>
    obtain ⟨a, vs, e1, _⟩ := Y.sl i _ hi
    obtain ⟨Y1, S1, _⟩ := Y.freeze hi e1
    exact h1 F _ _ _ σ H D Y1 (SPost.of S1 h)
  next => exact h1 F ms hs g σ H D Y h

/-- a list of one's own goes to another slot -/
theorem Rel.move {F : Fx} {ms hs : List Addr} {g : G} {σ : L2.St} {H : Hp} {i : Nat} {ds : List D} {a : Addr} (Y : Rel c F ms hs g σ H) (hi : g[i]? = some (.ml true ds)) (ha : σ[i]? = some (some (.ref a))) (j : Nat) :
    Rel c F ms hs ((g.set i .un).set j (.ml true ds)) (σ.set j (some (.ref a))) H := by
  obtain ⟨a', vs, e1, m, o1, _, h1, rr⟩ := Y.sl i _ hi
  rw [ha] at e1
  cases e1
  have Y1 := Y.setUn i
  have nadr : ∀ {k : Nat} {ok : Bool} {dk : List PyData}, (g.set i .un)[k]? = some (.ml ok dk) → σ[k]? ≠ some (some (.ref a)) := fun {k ok dk} h z => by
    by_cases e : i = k
    · subst e
      rw [List.getElem?_set_self (List.getElem?_eq_some_iff.mp hi).1] at h
      cases h
    · rw [List.getElem?_set_ne e] at h
      exact e (Y.dis i k true ds ok dk a hi h ha z)
  have at_j : ∀ {γ : Sl}, ((g.set i .un).set j (.ml true ds))[j]? = some γ → γ = .ml true ds ∧ j < (g.set i .un).length := fun {γ} h => by
    have hl : j < (g.set i .un).length := by
      have := (List.getElem?_eq_some_iff.mp h).1
      rwa [List.length_set] at this
    rw [List.getElem?_set_self hl] at h
    cases h
    exact ⟨rfl, hl⟩
  refine ⟨by simp only [List.length_set]; exact Y.len, fun k γ hk => ?_, fun k l ok dk ol dl b h1 h2 e1 e2 => ?_, Y.fr, Y.tr, Y.sub, Y.pc, Y.oc, Y.mh⟩
  · by_cases e : j = k
    · subst e
      obtain ⟨rfl, hl⟩ := at_j hk
      exact ⟨a, vs, List.getElem?_set_self (by rw [← Y1.len]; exact hl), m, o1, (fun z => nomatch z), h1, rr⟩
    · rw [List.getElem?_set_ne e] at hk
      rw [List.getElem?_set_ne e]
      exact Y1.sl k γ hk
  · by_cases e : j = k
    · by_cases e' : j = l
      · exact e.symm.trans e'
      · subst e
        obtain ⟨_, hl⟩ := at_j h1
        rw [List.getElem?_set_self (by rw [← Y1.len]; exact hl)] at e1
        cases e1
        rw [List.getElem?_set_ne e'] at h2 e2
        exact absurd e2 (nadr h2)
    · by_cases e' : j = l
      · subst e'
        obtain ⟨_, hl⟩ := at_j h2
        rw [List.getElem?_set_self (by rw [← Y1.len]; exact hl)] at e2
        cases e2
        rw [List.getElem?_set_ne e] at h1 e1
        exact absurd e1 (nadr h1)
      · rw [List.getElem?_set_ne e] at h1 e1
        rw [List.getElem?_set_ne e'] at h2 e2
        exact Y1.dis k l ok dk ol dl b h1 h2 e1 e2

/-! ### targets -/
def Dg (c : CT) (t : TG) (T : Rv → G → Re G) : Prop :=
  ∀ (F : Fx) (ms hs : List Addr) (g0 g : G) (σ : L2.St) (Hs H : Hp) (v : V) (r : Rv) (Q : L2.St → Hp → Prop), Rel c F ms hs g0 σ Hs → Rel c F ms hs g σ H → Same (hid hs Hs) (hid hs H) → RvR c F ms g σ hs Hs H v r →
    (match T r g with
      | .ok g' => ∀ ms' hs' σ' H', Rel c F ms' hs' g' σ' H' → Same (hid hs Hs) (hid hs' H') → Q σ' H'
      | _ => False) → t v σ H Q
def Dgs (c : CT) (t : TGs) (Ts : List (Rv → G → Re G)) : Prop :=
  ∀ (F : Fx) (ms hs : List Addr) (g : G) (σ : L2.St) (H : Hp) (vs : List V) (ds : List D) (Q : L2.St → Hp → Prop), Rel c F ms hs g σ H → RpL c (hid hs H) vs ds →
    (match tgs Ts ds g with
      | .ok g' => ∀ ms' hs' σ' H', Rel c F ms' hs' g' σ' H' → Same (hid hs H) (hid hs' H') → Q σ' H'
      | _ => False) → t vs σ H Q
theorem wipe_get {σ : L2.St} {i : Nat} : ∀ {ws : List Nat}, (wipe σ ws)[i]? = if i ∈ ws ∧ i < σ.length then some none else σ[i]?
  | [] => by simp [wipe]
  | w :: ws => by
    unfold wipe
    by_cases e : w = i
    · subst e
      by_cases hl : w < σ.length
      · rw [List.getElem?_set_self (by rw [wipe_length]; exact hl), if_pos ⟨List.mem_cons_self, hl⟩]
      · rw [List.getElem?_eq_none (by rw [List.length_set, wipe_length]; omega), if_neg (fun z => hl z.2), List.getElem?_eq_none (by omega)]
    · rw [List.getElem?_set_ne e, wipe_get]
      have : (i ∈ w :: ws) ↔ i ∈ ws := by simp [Ne.symm e]
      simp only [this]
theorem wipe_set {σ : L2.St} {j : Nat} {x : Option V} {ws : List Nat} (h : j ∈ ws) : wipe (σ.set j x) ws = wipe σ ws := by
  refine List.ext_getElem? fun i => ?_
  rw [wipe_get, wipe_get, List.length_set]
  by_cases e : j = i
  · subst e
    by_cases hl : j < σ.length
    · rw [if_pos ⟨h, hl⟩, if_pos ⟨h, hl⟩]
    · rw [if_neg (fun z => hl z.2), if_neg (fun z => hl z.2), List.getElem?_eq_none (by rw [List.length_set]; omega), List.getElem?_eq_none (by omega)]
  · rw [List.getElem?_set_ne e]
theorem same_cons {hs : List Addr} {Hs H : Hp} {a : Addr} (n : Hs a = none) (S : Same (hid hs Hs) (hid hs H)) : Same (hid hs Hs) (hid (a :: hs) H) := fun b o q => by
  have q2 := S b o q
  by_cases hb : b ∈ hs
  · rw [hid_in hb] at q; cases q
  · rw [hid_out hb] at q q2
    rw [hid_out (show b ∉ a :: hs from fun z => (List.mem_cons.mp z).elim (fun z => by subst z; rw [n] at q; cases q) hb)]
    exact q2
theorem dg_name {j : Nat} : Dg c (gName j) (tgN j) := by
  intro F ms hs g0 g σ Hs H v r Q Y0 Y S o h
  unfold tgN at h
  cases r with
  | da d => exact h ms hs _ H (Y.setDa o j) S
  | fl ds =>
    obtain ⟨a, vs, rfl, n, h1, h2, _⟩ := o
    have na : a ∉ hs := Y0.fresh n
    exact h ms hs _ H (Y.setDa (.lst (.inl (by rw [hid_out na]; exact h1)) (h2.same (hid_sub fun b hb => List.mem_cons_of_mem _ hb))) j) S
  | bl i =>
    dsimp only at h
    split at h
    next g' e =>
      split at e
      next ds hi =>
        cases e
        obtain ⟨a, vs, e1, _⟩ := Y.sl i _ hi
        obtain ⟨Y1, S1, r1⟩ := Y.freeze hi e1
        have o' : σ[i]? = some (some v) := o
        rw [o'] at e1
        cases e1
        exact h _ _ _ H (Y1.setDa r1 j) (S.trans S1)
      next => cases e
    next => exact h.elim
theorem dg_own {j : Nat} : Dg c (gName j) (tgM j) := by
  intro F ms hs g0 g σ Hs H v r Q Y0 Y S o h
  unfold tgM at h
  cases r with
  | da d => exact h.elim
  | fl ds =>
    obtain ⟨a, vs, rfl, n, h1, h2, Y2⟩ := o
    exact h (a :: ms) (a :: hs) _ H (Rel.setMl Y2 (fun z => Y0.fresh n (Y0.mh a z)) (Y0.fresh0 n) h1 h2 j) (same_cons n S)
  | bl i =>
    dsimp only at h
    split at h
    next g' e =>
      split at e
      next ds hi =>
        cases e
        obtain ⟨a, vs, e1, _⟩ := Y.sl i _ hi
        have o' : σ[i]? = some (some v) := o
        rw [o'] at e1
        cases e1
        exact h _ _ _ H (Y.move hi o' j) S
      next => cases e
    next => exact h.elim
theorem dgs_nil : Dgs c gNil [] := by
  intro F ms hs g σ H vs ds Q Y r h
  cases r with
  | nil => exact ⟨rfl, h ms hs σ H Y (Same.refl _)⟩
  | cons _ _ => exact h.elim
theorem dgs_cons {t : TG} {u : TGs} {T : Rv → G → Re G} {Ts : List (Rv → G → Re G)} (h1 : Dg c t T) (h2 : Dgs c u Ts) : Dgs c (gCons t u) (T :: Ts) := by
  intro F ms hs g σ H vs ds Q Y r h
  cases r with
  | nil => exact h.elim
  | cons r rs =>
    rename_i v vs d ds
    refine ⟨v, vs, rfl, ?_⟩
    unfold tgs at h
    refine h1 F ms hs g g σ H H v (.da d) _ Y Y (Same.refl _) r ?_
    cases e : T (.da d) g with
    | no => rw [e] at h; exact h
    | ex _ => rw [e] at h; exact h
    | ok g1 =>
      rw [e] at h
      intro ms1 hs1 σ1 H1 Y1 S1
      refine h2 F ms1 hs1 g1 σ1 H1 vs ds Q Y1 (rs.same S1) ?_
      dsimp only at h
      cases e2 : tgs Ts ds g1 with
      | no => rw [e2] at h; exact h
      | ex _ => rw [e2] at h; exact h
      | ok g2 =>
        rw [e2] at h
        exact fun ms2 hs2 σ2 H2 Y2 S2 => h ms2 hs2 σ2 H2 Y2 (S1.trans S2)
theorem tgs_length : ∀ {Ts : List (Rv → G → Re G)} {ds : List D} {g g' : G}, tgs Ts ds g = .ok g' → ds.length = Ts.length
  | [], [], _, _, _ => rfl
  | T :: Ts, d :: ds, g, g', h => by
    unfold tgs at h
    split at h
    next g1 e => rw [List.length_cons, List.length_cons, tgs_length h]
    next => cases h
  | [], _ :: _, _, _, h => by simp [tgs] at h
  | _ :: _, [], _, _, h => by simp [tgs] at h
theorem dg_tup {n : Nat} {u : TGs} {Ts : List (Rv → G → Re G)} (hn : Ts.length = n) (h2 : Dgs c u Ts) : Dg c (gTup c.K n u) (tgT Ts) := by
  intro F ms hs g0 g σ Hs H v r Q Y0 Y S o h
  unfold tgT at h
  split at h
  next g' e =>
    split at e
    next ds =>
      obtain ⟨a, xs, rfl, q1, q2⟩ := (show Rp c (hid hs H) v (.tuple ds) from o).tupInv
      refine ⟨a, xs, rfl, same_t hid_le q1, by rw [q2.length, tgs_length e, hn], ?_⟩
      refine h2 F ms hs g σ H xs ds Q Y q2 ?_
      rw [e]
      exact fun ms2 hs2 σ2 H2 Y2 S2 => h ms2 hs2 σ2 H2 Y2 (S.trans S2)
    next => cases e
  next => exact h.elim
theorem dg_sub {to ti : TE} {fo fi : M Rv} (ho : Dn c E0 to fo) (hi : Dn c E0 ti fi) : Dg c (gSub to ti rSetL) (tgS fo fi) := by
  intro F ms hs g0 g σ Hs H v r Q Y0 Y S o h
  unfold tgS at h
  split at h
  next g' e =>
    split at e
    next d hd =>
      refine ho F ms hs g σ H _ Y ?_
      cases e1 : fo g with
      | no => rw [e1] at e; cases e
      | ex _ => rw [e1] at e; cases e
      | ok p =>
        obtain ⟨x1, g1⟩ := p
        rw [e1] at e
        cases x1 with
        | da _ => cases e
        | fl _ => cases e
        | bl s =>
          dsimp only at e
          intro v1 H1 Y1 S1 o1
          refine hi F ms hs g1 σ H1 _ Y1 ?_
          cases e2 : fi g1 with
          | no => rw [e2] at e; cases e
          | ex _ => rw [e2] at e; cases e
          | ok p =>
            obtain ⟨x2, g2⟩ := p
            rw [e2] at e
            intro v2 H2 Y2 S2 o2
            cases x2 with
            | fl _ => cases e
            | bl _ => cases e
            | da dk =>
              cases dk with
              | int k =>
                dsimp only at e
                split at e
                next own ds hs2 =>
                  split at e
                  next j hj =>
                    cases e
                    obtain ⟨a, vs, q1, m, q2, q3, ha, rr⟩ := Y2.sl s _ hs2
                    have o1' : σ[s]? = some (some v1) := o1
                    rw [o1'] at q1
                    cases q1
                    have rp : Rp c (hid hs H2) v d := by
                      have := RvLs.raw (g := g) (RvLs.cons ((o.l Y0.tr).same (S1.trans S2).s) .nil) hd
                      cases this with | cons h _ => exact h
                    refine ⟨a, vs, k, j, rfl, (show Rp c (hid hs H2) v2 (.int k) from o2).intInv, ha, by rw [rr.length]; exact hj, ?_⟩
                    refine h ms hs σ _ (Y2.write hs2 o1' (rr.set rp j)) ?_
                    rw [hid_upd (Y2.mh _ m)]
                    exact (S.trans S1.s).trans S2.s
                  next => cases e
                next => cases e
              | _ => cases e
    next => cases e
  next => exact h.elim
/-! ### assignments, changes -/
theorem sn_asg {te : TE} {gt : TG} {fe : M Rv} {T : Rv → G → Re G} (he : Dn c E te fe) (hg : Dg c gt T) : Sn c E (tAsg te gt) (asgS fe T) := by
  intro F ms hs g σ H D Y h
  unfold asgS at h
  refine he F ms hs g σ H _ Y ?_
  cases e1 : fe g with
  | no => rw [e1] at h; exact h
  | ex _ => rw [e1] at h; exact h
  | ok p =>
    obtain ⟨x, g1⟩ := p
    rw [e1] at h
    intro v1 H1 Y1 S1 o1
    refine hg F ms hs g g1 σ H H1 v1 x _ Y Y1 S1.s o1 ?_
    dsimp only at h
    cases e2 : T x g1 with
    | no => rw [e2] at h; exact h
    | ex _ => rw [e2] at h; exact h
    | ok g2 =>
      rw [e2] at h
      exact fun ms2 hs2 σ2 H2 Y2 S2 => h ms2 hs2 σ2 H2 Y2 S2
theorem sn_par {i j : Nat} {ta : TA} {fa : M (List Rv)} (ha : Da c E ta fa) : Sn c E (tPar i j ta) (parS i j fa) := by
  intro F ms hs g σ H D Y h
  unfold parS at h
  refine ha F ms hs g σ H _ Y ?_
  cases e1 : fa g with
  | no => rw [e1] at h; exact h
  | ex _ => rw [e1] at h; exact h
  | ok p =>
    obtain ⟨rs, g1⟩ := p
    rw [e1] at h
    intro v1 H1 Y1 S1 o1
    match rs, o1, h with
    | [r1, r2], .cons (v := v) q1 (.cons (v := w) q2 .nil), h =>
      dsimp only at h
      cases e2 : rawL g1 [r1, r2] with
      | none => rw [e2] at h; exact h.elim
      | some ds =>
        rw [e2] at h
        have rr := RvLs.raw (g := g1) (RvLs.cons q1 (RvLs.cons q2 .nil)) e2
        match ds, rr, h with
        | [d1, d2], .cons p1 (.cons p2 .nil), h =>
          exact ⟨v, w, rfl, h ms hs _ H1 ((Y1.setDa p1 i).setDa p2 j) S1.s⟩
    | [], _, h => exact h.elim
    | [_], _, h => exact h.elim
    | _ :: _ :: _ :: _, _, h => exact h.elim
theorem sn_app {to te : TE} {fo fe : M Rv} (ho : Dn c E to fo) (he : Dn c E te fe) : Sn c E (tDrop (tBM c.K "list" rAppend to (tCons te tNil))) (appS fo fe) := by
  intro F ms hs g σ H D Y h
  unfold appS at h
  refine ho F ms hs g σ H _ Y ?_
  cases e1 : fo g with
  | no => rw [e1] at h; exact h
  | ex _ => rw [e1] at h; exact h
  | ok p =>
    obtain ⟨x1, g1⟩ := p
    rw [e1] at h
    cases x1 with
    | da _ => exact h.elim
    | fl _ => exact h.elim
    | bl s =>
      dsimp only at h
      intro v1 H1 Y1 S1 o1
      have o1' : σ[s]? = some (some v1) := o1
      split at h
      next own1 ds1 hs1 =>
        obtain ⟨a, vs, q1, m, _, _, ha, _⟩ := Y1.sl s _ hs1
        rw [o1'] at q1
        cases q1
        refine ⟨.inl ⟨rfl, vs, .inl (.inl ha)⟩, ?_⟩
        refine he F ms hs g1 σ H1 _ Y1 ?_
        cases e2 : fe g1 with
        | no => rw [e2] at h; exact h
        | ex _ => rw [e2] at h; exact h
        | ok p =>
          obtain ⟨r, g2⟩ := p
          rw [e2] at h
          dsimp only at h
          intro v2 H2 Y2 S2 o2
          split at h
          next d hd =>
            split at h
            next own ds hs2 =>
              split at h
              next hz =>
                obtain ⟨a', ws, q1, m, _, _, ha, rr⟩ := Y2.sl s _ hs2
                rw [o1'] at q1
                cases q1
                have rp : RpL c (hid hs H2) [v2] [d] := RvLs.raw (g := g2) (RvLs.cons (o2.l Y1.tr) .nil) hd
                refine ⟨a, ws, v2, rfl, rfl, ha, by rw [rr.length]; exact sz_lt hz, ?_⟩
                refine h ms hs σ _ (Y2.write hs2 o1' (rr.append rp)) ?_
                rw [hid_upd (Y2.mh _ m)]
                exact (S1.trans S2).s
              next => exact h.elim
            next => exact h.elim
          next => exact h.elim
      next => exact h.elim
end
/-- xs.extend(ys), ys a list that may be locked -/
def rExtL : V → List V → Hp → VK → Prop := fun x vs H Q => ∃ l b xs zs, x = .ref l ∧ vs = [.ref b] ∧ H l = some (.lst xs) ∧ Rd H b (.lst zs) ∧ xs.length + zs.length ≤ sizeLine ∧ Q .non (upd H l (.lst (xs ++ zs)))
theorem mt_extL {X : Cx} : MtM X "list.extend" rExtL := by
  intro pins s σ H x vs v us Q I rx rv h
  obtain ⟨l, b, xs, zs, rfl, rfl, hH, hB, hz, q⟩ := h
  cases rx
  obtain ⟨u, rfl, ru⟩ := rv.one
  cases ru
  obtain ⟨z, its, n, r, hl, e⟩ := I.lstM hH
  obtain ⟨z2, its2, n2, r2, hl2, e2⟩ := rdL I hB
  have hsz : its.toArray.size + its2.toArray.size ≤ sizeLine := by rw [List.size_toArray, List.size_toArray]; omega
  have hlong : ¬ (!its.toArray.isEmpty && Builtin.List.listTooLong (its.toArray.size + its2.toArray.size)) = true := by
    rw [notLongL hsz, Bool.and_false]
    exact Bool.false_ne_true
  refine call_meets F.slot_list_extend ⟨_, e, rfl⟩ F.entry_list_extend (F.args_list_extend_2 _ _)
    (AutoSeq1.list_extend_list_list_0 l its.toArray n b its2.toArray n2 hlong (by rw [List.size_toArray]; omega) (by omega)) ⟨e, e2, ?_⟩
  refine ⟨.non, _, I.lset (its' := its ++ its2) hH e (by simp) (r.append r2) ?_, rfl, q⟩
  rw [List.length_append]
  omega
section
variable {c : CT} {E : XK}
theorem sn_ext {to te : TE} {fo fe : M Rv} (ho : Dn c E to fo) (he : Dn c E te fe) : Sn c E (tDrop (tBM c.K "list" rExtL to (tCons te tNil))) (extS fo fe) := by
  intro F ms hs g σ H D Y h
  unfold extS at h
  refine ho F ms hs g σ H _ Y ?_
  cases e1 : fo g with
  | no => rw [e1] at h; exact h
  | ex _ => rw [e1] at h; exact h
  | ok p =>
    obtain ⟨x1, g1⟩ := p
    rw [e1] at h
    cases x1 with
    | da _ => exact h.elim
    | fl _ => exact h.elim
    | bl s =>
      dsimp only at h
      intro v1 H1 Y1 S1 o1
      have o1' : σ[s]? = some (some v1) := o1
      split at h
      next own1 ds1 hs1 =>
        obtain ⟨a, vs, q1, m, _, _, ha, _⟩ := Y1.sl s _ hs1
        rw [o1'] at q1
        cases q1
        refine ⟨.inl ⟨rfl, vs, .inl (.inl ha)⟩, ?_⟩
        refine he F ms hs g1 σ H1 _ Y1 ?_
        cases e2 : fe g1 with
        | no => rw [e2] at h; exact h
        | ex _ => rw [e2] at h; exact h
        | ok p =>
          obtain ⟨r, g2⟩ := p
          rw [e2] at h
          dsimp only at h
          intro v2 H2 Y2 S2 o2
          split at h
          next es hd =>
            split at h
            next own ds hs2 =>
              split at h
              next hz =>
                obtain ⟨a', ws, q1, m, _, _, ha, rr⟩ := Y2.sl s _ hs2
                rw [o1'] at q1
                cases q1
                have rp : RpL c (hid hs H2) [v2] [.list es] := RvLs.raw (g := g2) (RvLs.cons (o2.l Y1.tr) .nil) hd
                obtain ⟨w, e3, rp⟩ := rp.oneInv
                cases e3
                obtain ⟨b, zs, rfl, p1, p2⟩ := rp.lstInv
                refine ⟨a, b, ws, zs, rfl, rfl, ha, hidR p1, by rw [rr.length, p2.length]; exact sz_of hz, ?_⟩
                refine h ms hs σ _ (Y2.write hs2 o1' (rr.append p2)) ?_
                rw [hid_upd (Y2.mh _ m)]
                exact (S1.trans S2).s
              next => exact h.elim
            next => exact h.elim
          next => exact h.elim
      next => exact h.elim
end
end GD

/-! GD7: loops, comprehensions, calls, defs. -/
namespace GD
open PySem PySem.Spec PyProof.Rows L2

def whileD (t : M Bool) (b : G → SR) : Nat → G → SR
  | 0, _ => .no
  | n + 1, g => match t g with
    | .ok (x, g1) => if x = true then (match b g1 with
        | .nx g2 => whileD t b n g2
        | .ct g2 => whileD t b n g2
        | .bk g2 => .nx g2
        | r => r)
      else .nx g1
    | .ex e => .ex e
    | .no => .no
def whileS (fu : G → Nat) (t : M Bool) (b : G → SR) : G → SR := fun g => whileD t b (fu g) g
def forD (T : Rv → G → Re G) (b : G → SR) : List D → G → SR
  | [], g => .nx g
  | d :: ds, g => match T (.da d) g with
    | .ok g1 => (match b g1 with
      | .nx g2 => forD T b ds g2
      | .ct g2 => forD T b ds g2
      | .bk g2 => .nx g2
      | r => r)
    | _ => .no
def forS (it : M (List D)) (T : Rv → G → Re G) (b : G → SR) : G → SR := fun g => match it g with
  | .ok (ds, g1) => forD T b ds g1
  | .ex e => .ex e
  | .no => .no
def wipeG (g : G) : List Nat → G
  | [] => g
  | v :: vs => (wipeG g vs).set v .un
def rawOf : Rv → Option D
  | .da d => some d
  | .fl d => some (.list d)
  | .bl _ => none
@[simp] theorem rawOf_da (d : D) : rawOf (.da d) = some d := rfl
@[simp] theorem rawOf_fl (d : List D) : rawOf (.fl d) = some (.list d) := rfl
/-! targets of comprehensions -/
def cgN (j : Nat) : D → G → Option G := fun d g => some (g.set j (.da d))
def cgs : List (D → G → Option G) → List D → G → Option G
  | [], [], g => some g
  | T :: Ts, d :: ds, g => (T d g).bind (cgs Ts ds)
  | _, _, _ => none
def cgT (Ts : List (D → G → Option G)) : D → G → Option G := fun d g => match d with
  | .tuple ds => cgs Ts ds g
  | _ => none
def compD (T : D → G → Option G) (tt : M Bool) (te : M Rv) (ws : List Nat) : List D → G → Option (List D × G)
  | [], g => some ([], g)
  | d :: ds, g => match T d g with
    | some g1 => (match tt g1 with
      | .ok (b, g2) => if b = true then (match te g2 with
          | .ok (y, g3) => (match rawOf y with
            | some dy => (compD T tt te ws ds (wipeG g3 ws)).map fun p => (dy :: p.1, p.2)
            | none => none)
          | _ => none)
        else compD T tt te ws ds (wipeG g2 ws)
      | _ => none)
    | none => none
def lcE (it : M (List D)) (T : D → G → Option G) (tt : M Bool) (te : M Rv) (ws : List Nat) : M Rv := fun g => do
  let (ds, g1) ← it g
  if ds.length ≤ 1000000 then do
    let p ← ofO (compD T tt te ws ds (wipeG g1 ws))
    pure (.fl p.1, p.2)
  else .no
def yesT : M Bool := fun g => .ok (true, g)

section
variable {c : CT} {E : XK}
theorem sn_while {tc : TT} {tb : TS} {fc : M Bool} {fb : G → SR} (fu : G → Nat) (hc : Dt c E tc fc) (hb : Sn c E tb fb) : Sn c E (tWhile tc tb) (whileS fu fc fb) := by
  intro F ms hs g σ H D Y h
  unfold whileS at h
  refine ⟨fun m σ' H' => ∃ ms' hs' g', Rel c F ms' hs' g' σ' H' ∧ SPost c E F hs' H' D (whileD fc fb m g'), ⟨fu g, ms, hs, g, Y, h⟩, ?_⟩
  rintro m σ' H' ⟨ms', hs', g', Y', h'⟩
  cases m with
  | zero => exact h'.elim
  | succ n =>
    unfold whileD at h'
    refine hc F ms' hs' g' σ' H' _ Y' ?_
    cases e1 : fc g' with
    | no => rw [e1] at h'; exact h'
    | ex _ => rw [e1] at h'; exact h'
    | ok p =>
      obtain ⟨x, g1⟩ := p
      rw [e1] at h'
      intro v1 H1 Y1 S1 o1
      cases (show v1 = x from o1)
      cases x with
      | false => exact h' ms' hs' σ' H1 Y1 S1.s
      | true =>
        simp only [if_true] at h' ⊢
        refine ⟨fun σ2 H2 => ∃ ms2 hs2 g2, Rel c F ms2 hs2 g2 σ2 H2 ∧ SPost c E F hs2 H2 D (whileD fc fb n g2), fun σ2 H2 hw => ⟨n, Nat.lt_succ_self n, hw⟩, ?_⟩
        refine hb F ms' hs' g1 σ' H1 _ Y1 ?_
        have h2 := SPost.of S1.s h'
        cases e2 : fb g1 with
        | nx g2 => rw [e2] at h2; exact fun ms2 hs2 σ2 H2 Y2 S2 => ⟨ms2, hs2, g2, Y2, SPost.of S2 h2⟩
        | ct g2 => rw [e2] at h2; exact fun ms2 hs2 σ2 H2 Y2 S2 => ⟨ms2, hs2, g2, Y2, SPost.of S2 h2⟩
        | bk g2 => rw [e2] at h2; exact h2
        | rt r g2 => rw [e2] at h2; exact h2
        | ex e => rw [e2] at h2; exact h2
        | no => rw [e2] at h2; exact h2

/-! ### what is walked -/
/-- the items of the walk, wherever what could be read still can -/
def Yl (c : CT) (J : It) (hs : List Addr) (H : Hp) (ds : List D) : Prop :=
  ∀ hs2 H2, Same (hid hs H) (hid hs2 H2) → (∀ i, i < ds.length → J.go i H2) ∧ J.stop ds.length H2 ∧
    ∀ i d x H3, ds[i]? = some d → J.yld i H2 x H3 → Same H2 H3 ∧ ((∀ a ∈ hs2, H2 a ≠ none) → Rp c (hid hs2 H3) x d)
def Di (c : CT) (E : XK) (wi : TI) (f : M (List D)) : Prop :=
  ∀ (F : Fx) (ms hs : List Addr) (g : G) (σ : L2.St) (H : Hp) (Q : It → Hp → Prop), Rel c F ms hs g σ H →
    (match f g with
      | .ok (ds, g') => ∀ J H', Rel c F ms hs g' σ H' → Sm ms hs H H' → Yl c J hs H' ds → Q J H'
      | .ex e => ∀ u H', c.mg e = some u → (∀ b o, F.H0 b = some o → b ∉ F.ps → H' b = some o) → E u none H'
      | .no => False) → wi σ H Q
theorem Yl.mono {J : It} {hs hs' : List Addr} {H H' : Hp} {ds : List D} (h : Yl c J hs H ds) (e : Same (hid hs H) (hid hs' H')) : Yl c J hs' H' ds := fun hs2 H2 S => h hs2 H2 (e.trans S)

theorem sn_for {wi : TI} {gt : TG} {tb : TS} {fi : M (List D)} {T : Rv → G → Re G} {fb : G → SR} (hi : Di c E wi fi) (hg : Dg c gt T) (hb : Sn c E tb fb) : Sn c E (tFor wi gt tb) (forS fi T fb) := by
  intro F ms hs g σ H D Y h
  unfold forS at h
  refine hi F ms hs g σ H _ Y ?_
  cases e1 : fi g with
  | no => rw [e1] at h; exact h
  | ex _ => rw [e1] at h; exact h
  | ok p =>
    obtain ⟨ds, g1⟩ := p
    rw [e1] at h
    intro J H1 Y1 S1 yl
    have h1 := SPost.of S1.s h
    refine ⟨fun i m σ' H' => m = ds.length - i ∧ i ≤ ds.length ∧ ∃ ms' hs' g', Rel c F ms' hs' g' σ' H' ∧ Yl c J hs' H' ds ∧ SPost c E F hs' H' D (forD T fb (ds.drop i) g'), ⟨ds.length, by simp, Nat.zero_le _, ms, hs, g1, Y1, yl, h1⟩, ?_⟩
    rintro i m σ' H' ⟨rfl, hle, ms', hs', g', Y', yl', h'⟩
    obtain ⟨y1, y2, y3⟩ := yl' hs' H' (Same.refl _)
    by_cases hlt : i < ds.length
    · refine .inr ⟨y1 i hlt, fun σ2 H2 => ∃ ms2 hs2 g2, Rel c F ms2 hs2 g2 σ2 H2 ∧ Yl c J hs2 H2 ds ∧ SPost c E F hs2 H2 D (forD T fb (ds.drop (i + 1)) g2), fun σ2 H2 hw => ⟨ds.length - (i + 1), by omega, rfl, hlt, hw⟩, fun x H3 hy => ?_⟩
      obtain ⟨e3, r3⟩ := y3 i ds[i] x H3 (List.getElem?_eq_getElem hlt) hy
      have rp := r3 Y'.tr
      have Y3 := Y'.grow e3
      rw [List.drop_eq_getElem_cons hlt] at h'
      unfold forD at h'
      refine hg F ms' hs' g' g' σ' H3 H3 x (.da ds[i]) _ Y3 Y3 (Same.refl _) rp ?_
      cases e4 : T (.da ds[i]) g' with
      | no => rw [e4] at h'; exact h'
      | ex _ => rw [e4] at h'; exact h'
      | ok g2 =>
        rw [e4] at h'
        intro ms4 hs4 σ4 H4 Y4 S4
        have S04 : Same (hid hs' H') (hid hs4 H4) := (hid_mono e3).trans S4
        refine hb F ms4 hs4 g2 σ4 H4 _ Y4 ?_
        have h2 := SPost.of S04 h'
        have yl4 := yl'.mono S04
        dsimp only at h2
        cases e5 : fb g2 with
        | nx g3 => rw [e5] at h2; exact fun ms5 hs5 σ5 H5 Y5 S5 => ⟨ms5, hs5, g3, Y5, yl4.mono S5, SPost.of S5 h2⟩
        | ct g3 => rw [e5] at h2; exact fun ms5 hs5 σ5 H5 Y5 S5 => ⟨ms5, hs5, g3, Y5, yl4.mono S5, SPost.of S5 h2⟩
        | bk g3 => rw [e5] at h2; exact h2
        | rt r g3 => rw [e5] at h2; exact h2
        | ex e => rw [e5] at h2; exact h2
        | no => rw [e5] at h2; exact h2
    · have e : i = ds.length := by omega
      subst e
      rw [List.drop_length] at h'
      exact .inl ⟨y2, h' ms' hs' σ' H' Y' (Same.refl _)⟩

/-! ### comprehensions -/
theorem wipeG_length (g : G) : ∀ ws : List Nat, (wipeG g ws).length = g.length
  | [] => rfl
  | w :: ws => by unfold wipeG; rw [List.length_set, wipeG_length g ws]
theorem Rel.wipeG {F : Fx} {ms hs : List Addr} {g : G} {σ : L2.St} {H : Hp} (Y : Rel c F ms hs g σ H) : ∀ ws : List Nat, Rel c F ms hs (wipeG g ws) σ H
  | [] => Y
  | w :: ws => (Y.wipeG ws).setUn w
theorem wipeG_get {g : G} {i : Nat} {γ : Sl} : ∀ {ws : List Nat}, (GD.wipeG g ws)[i]? = some γ → i ∈ ws → γ = .un
  | [], _, h => by cases h
  | w :: ws, h, hm => by
    unfold GD.wipeG at h
    by_cases e : w = i
    · subst e
      by_cases hl : w < (GD.wipeG g ws).length
      · rw [List.getElem?_set_self hl] at h; cases h; rfl
      · rw [List.getElem?_eq_none (by rw [List.length_set]; omega)] at h; cases h
    · rw [List.getElem?_set_ne e] at h
      rcases List.mem_cons.mp hm with z | z
      · exact absurd z.symm e
      · exact wipeG_get h z
/-- slots of which nothing is known may hold anything -/
theorem Rel.slots {F : Fx} {ms hs : List Addr} {g : G} {σ σ' : L2.St} {H : Hp} (Y : Rel c F ms hs g σ H) (hl : σ'.length = σ.length) (he : ∀ (i : Nat) (γ : Sl), g[i]? = some γ → γ ≠ Sl.un → σ'[i]? = σ[i]?) : Rel c F ms hs g σ' H := by
  refine ⟨by rw [hl]; exact Y.len, fun i γ hi => ?_, fun i k oi di ok dk a h1 h2 e1 e2 => ?_, Y.fr, Y.tr, Y.sub, Y.pc, Y.oc, Y.mh⟩
  · cases γ with
    | un => exact True.intro
    | da d => rw [he i _ hi (by simp)]; exact Y.sl i _ hi
    | ml o d => rw [he i _ hi (by simp)]; exact Y.sl i _ hi
  · rw [he i _ h1 (by simp)] at e1
    rw [he k _ h2 (by simp)] at e2
    exact Y.dis i k oi di ok dk a h1 h2 e1 e2
theorem Rel.toWipe {F : Fx} {ms hs : List Addr} {g : G} {σ : L2.St} {H : Hp} {ws : List Nat} (Y : Rel c F ms hs (GD.wipeG g ws) σ H) : Rel c F ms hs (GD.wipeG g ws) (wipe σ ws) H :=
  Y.slots (wipe_length _ _) fun i γ hi n => by
    rw [wipe_get, if_neg (fun z => n (wipeG_get hi z.1))]
theorem Rel.reWipe {F : Fx} {ms hs : List Addr} {g : G} {σ σ' : L2.St} {H : Hp} {ws : List Nat} (Y : Rel c F ms hs g σ' H) (e : wipe σ' ws = wipe σ ws) : Rel c F ms hs (GD.wipeG g ws) (wipe σ ws) H := by
  rw [← e]
  exact (Y.wipeG ws).toWipe
theorem Rel.fromWipe {F : Fx} {ms hs : List Addr} {g : G} {σ : L2.St} {H : Hp} {ws : List Nat} (Y : Rel c F ms hs g (wipe σ ws) H) (hu : ∀ (i : Nat) (γ : Sl), g[i]? = some γ → i ∈ ws → γ = Sl.un) : Rel c F ms hs g σ H :=
  Y.slots (wipe_length _ _).symm fun i γ hi n => by
    rw [wipe_get, if_neg (fun z => n (hu i γ hi z.1))]
/-- less is hidden -/
theorem Rel.unHid {F : Fx} {ms hs hs' : List Addr} {g : G} {σ : L2.St} {H : Hp} (Y : Rel c F ms hs g σ H) (h : ∀ a ∈ hs', a ∈ hs) (m : ∀ a ∈ ms, a ∈ hs') (s : ∀ a ∈ F.hc, a ∈ hs') : Rel c F ms hs' g σ H := by
  refine ⟨Y.len, fun i γ hi => ?_, Y.dis, Y.fr, fun b hb => Y.tr b (h b hb), s, Y.pc, Y.oc, m⟩
  have q := Y.sl i γ hi
  cases γ with
  | un => exact True.intro
  | da d => obtain ⟨v, e1, r⟩ := q; exact ⟨v, e1, r.same (hid_sub h)⟩
  | ml o d => obtain ⟨b, vs, e1, m1, o1, o2, hb, r⟩ := q; exact ⟨b, vs, e1, m1, o1, o2, hb, r.same (hid_sub h)⟩
theorem rawOf_l {σ : L2.St} {hs : List Addr} {H : Hp} {v : V} {r : Rv} {d : D} (h : RvL c σ hs H v r) (e : rawOf r = some d) : Rp c (hid hs H) v d := by
  cases r with
  | da d => cases e; exact h
  | fl ds => cases e; exact h
  | bl i => cases e
def Dc (c : CT) (ws : List Nat) (t : TG) (T : D → G → Option G) : Prop :=
  ∀ (F : Fx) (ms hs : List Addr) (g : G) (σ : L2.St) (H : Hp) (v : V) (d : D) (Q : L2.St → Hp → Prop), Rel c F ms hs g σ H → Rp c (hid hs H) v d →
    (match T d g with
      | some g' => ∀ σ', Rel c F ms hs g' σ' H → wipe σ' ws = wipe σ ws → Q σ' H
      | none => False) → t v σ H Q
def Dcs (c : CT) (ws : List Nat) (t : TGs) (Ts : List (D → G → Option G)) : Prop :=
  ∀ (F : Fx) (ms hs : List Addr) (g : G) (σ : L2.St) (H : Hp) (vs : List V) (ds : List D) (Q : L2.St → Hp → Prop), Rel c F ms hs g σ H → RpL c (hid hs H) vs ds →
    (match cgs Ts ds g with
      | some g' => ∀ σ', Rel c F ms hs g' σ' H → wipe σ' ws = wipe σ ws → Q σ' H
      | none => False) → t vs σ H Q
theorem dc_name {j : Nat} {ws : List Nat} (hw : j ∈ ws) : Dc c ws (gName j) (cgN j) := fun F ms hs g σ H v d Q Y r h => h _ (Y.setDa r j) (wipe_set hw)
theorem dcs_nil {ws : List Nat} : Dcs c ws gNil [] := by
  intro F ms hs g σ H vs ds Q Y r h
  cases r with
  | nil => exact ⟨rfl, h σ Y rfl⟩
  | cons _ _ => exact h.elim
theorem dcs_cons {ws : List Nat} {t : TG} {u : TGs} {T : D → G → Option G} {Ts : List (D → G → Option G)} (h1 : Dc c ws t T) (h2 : Dcs c ws u Ts) : Dcs c ws (gCons t u) (T :: Ts) := by
  intro F ms hs g σ H vs ds Q Y r h
  cases r with
  | nil => exact h.elim
  | cons r rs =>
    rename_i v vs d ds
    refine ⟨v, vs, rfl, ?_⟩
    unfold cgs at h
    refine h1 F ms hs g σ H v d _ Y r ?_
    cases e : T d g with
    | none => rw [e] at h; exact h
    | some g1 =>
      rw [e] at h
      intro σ1 Y1 w1
      refine h2 F ms hs g1 σ1 H vs ds Q Y1 rs ?_
      simp only [Option.bind_some] at h
      cases e2 : cgs Ts ds g1 with
      | none => rw [e2] at h; exact h
      | some g2 =>
        rw [e2] at h
        exact fun σ2 Y2 w2 => h σ2 Y2 (w2.trans w1)
theorem cgs_length : ∀ {Ts : List (D → G → Option G)} {ds : List D} {g g' : G}, cgs Ts ds g = some g' → ds.length = Ts.length
  | [], [], _, _, _ => rfl
  | T :: Ts, d :: ds, g, g', h => by
    unfold cgs at h
    obtain ⟨g1, _, e⟩ := Option.bind_eq_some_iff.mp h
    rw [List.length_cons, List.length_cons, cgs_length e]
  | [], _ :: _, _, _, h => by simp [cgs] at h
  | _ :: _, [], _, _, h => by simp [cgs] at h
theorem dc_tup {ws : List Nat} {n : Nat} {u : TGs} {Ts : List (D → G → Option G)} (hn : Ts.length = n) (h2 : Dcs c ws u Ts) : Dc c ws (gTup c.K n u) (cgT Ts) := by
  intro F ms hs g σ H v d Q Y r h
  unfold cgT at h
  split at h
  next g' e =>
    split at e
    next ds =>
      obtain ⟨a, xs, rfl, q1, q2⟩ := r.tupInv
      refine ⟨a, xs, rfl, same_t hid_le q1, by rw [q2.length, cgs_length e, hn], ?_⟩
      refine h2 F ms hs g σ H xs ds Q Y q2 ?_
      rw [e]
      exact h
    next => cases e
  next => exact h.elim
theorem dt_yes : Dt c E tYes yesT := fun F ms hs g σ H Q Y h => h true H Y Sm.refl rfl
theorem dn_lc {wi : TI} {gt : TG} {tt : TT} {te : TE} {fi : M (List D)} {T : D → G → Option G} {ft : M Bool} {fe : M Rv} {ws : List Nat} (hi : Di c E wi fi) (hg : Dc c ws gt T) (ht : Dt c E0 tt ft) (he : Dn c E0 te fe) :
    Dn c E (tLc wi gt tt te ws) (lcE fi T ft fe ws) := by
  intro F ms hs g σ H Q Y h
  unfold lcE at h
  refine hi F ms hs g σ H _ Y ?_
  cases e1 : fi g with
  | no => rw [e1] at h; exact h
  | ex _ => rw [e1] at h; exact h
  | ok p =>
    obtain ⟨ds, g1⟩ := p
    simp only [e1, Re.ok_bind] at h
    intro J H1 Y1 S1 yl
    by_cases hz : ds.length ≤ 1000000
    · simp only [hz, if_true] at h
      intro p np
      cases e2 : compD T ft fe ws ds (GD.wipeG g1 ws) with
      | none => rw [e2] at h; exact h.elim
      | some q =>
        obtain ⟨ys, g2⟩ := q
        simp only [e2, ofO_some, Re.ok_bind, Re.pure_eq] at h
        have np' := Y1.fresh np
        have n0 : H p = none := by
          have := S1.s.free (l := p) (by rw [hid_out np']; exact np)
          rwa [hid_out np'] at this
        have npm : p ∉ ms := fun z => np' (Y1.mh p z)
        -- the turn's word
        refine ⟨fun i m H' => m = ds.length - i ∧ i ≤ ds.length ∧ ∃ g' acc ads ys', Rel c F ms (p :: hs) g' (wipe σ ws) H' ∧ Sm ms (p :: hs) (upd H1 p (.lst [])) (upd H' p (.lst [])) ∧ H' p = some (.lst acc) ∧ acc.length ≤ i ∧ RpL c (hid (p :: hs) H') acc ads ∧
            compD T ft fe ws (ds.drop i) g' = some (ys', g2) ∧ ys = ads ++ ys' ∧ (∀ (i : Nat) (γ : Sl), g'[i]? = some γ → i ∈ ws → γ = Sl.un), ⟨ds.length, by simp, Nat.zero_le _, GD.wipeG g1 ws, [], [], ys, ?_, ?_, upd_same, Nat.le_refl _, .nil, e2, rfl, fun i γ h m => wipeG_get h m⟩, ?_⟩
        · exact ((Y1.newHid (same_new np) np (by rw [upd_same]; exact fun z => nomatch z)).wipeG ws).toWipe
        · rw [upd_upd]; exact Sm.refl
        rintro i m H' ⟨rfl, hle, g', acc, ads, ys', Ya, S', hp, hl, rr, ec, ey, hu⟩
        have S1' : Same (hid hs H1) (hid (p :: hs) H') := by
          refine (same_cons np (hid_mono (same_new (o := .lst []) np))).trans ?_
          have := S'.s
          rw [hid_upd List.mem_cons_self, hid_upd List.mem_cons_self] at this
          rw [hid_upd List.mem_cons_self]
          exact this
        obtain ⟨y1, y2, y3⟩ := yl (p :: hs) H' S1'
        by_cases hlt : i < ds.length
        · refine .inr ⟨y1 i hlt, fun H2 => ∃ g' acc ads ys', Rel c F ms (p :: hs) g' (wipe σ ws) H2 ∧ Sm ms (p :: hs) (upd H1 p (.lst [])) (upd H2 p (.lst [])) ∧ H2 p = some (.lst acc) ∧ acc.length ≤ i + 1 ∧ RpL c (hid (p :: hs) H2) acc ads ∧
            compD T ft fe ws (ds.drop (i + 1)) g' = some (ys', g2) ∧ ys = ads ++ ys' ∧ (∀ (i : Nat) (γ : Sl), g'[i]? = some γ → i ∈ ws → γ = Sl.un), fun H2 hw => ⟨ds.length - (i + 1), by omega, rfl, hlt, hw⟩, fun x H3 hy => ?_⟩
          obtain ⟨e3, r3⟩ := y3 i ds[i] x H3 (List.getElem?_eq_getElem hlt) hy
          have rp := r3 Ya.tr
          have Y3 := Ya.grow e3
          rw [List.drop_eq_getElem_cons hlt] at ec
          unfold compD at ec
          refine hg F ms (p :: hs) g' (wipe σ ws) H3 x ds[i] _ Y3 rp ?_
          cases e4 : T ds[i] g' with
          | none => rw [e4] at ec; cases ec
          | some g3 =>
            rw [e4] at ec
            dsimp only at ec
            intro σ4 Y4 w4
            have w4' : wipe σ4 ws = wipe σ ws := by
              rw [w4]
              refine List.ext_getElem? fun k => ?_
              rw [wipe_get, wipe_get, wipe_length]
              split <;> rfl
            refine ⟨w4', ?_⟩
            refine ht F ms (p :: hs) g3 σ4 H3 _ Y4 ?_
            cases e5 : ft g3 with
            | no => rw [e5] at ec; cases ec
            | ex _ => rw [e5] at ec; cases ec
            | ok q =>
              obtain ⟨b, g4⟩ := q
              rw [e5] at ec
              dsimp only at ec
              intro b' H5 Y5 S5 o5
              cases (show b' = b from o5)
              have S35 : Sm ms (p :: hs) H' H5 := (Sm.grow e3).trans S5
              have hp5 : H5 p = some (.lst acc) := S35.f p _ hp npm
              have S5' : Sm ms (p :: hs) (upd H1 p (.lst [])) (upd H5 p (.lst [])) := S'.trans (by
                constructor
                · rw [hid_upd List.mem_cons_self, hid_upd List.mem_cons_self]; exact S35.s
                · intro b o q n
                  by_cases hb : b = p
                  · subst hb; rw [upd_same] at q ⊢; exact q
                  · rw [upd_ne hb] at q ⊢; exact S35.f b o q n)
              cases b with
              | false =>
                simp only [Bool.false_eq_true, if_false] at ec ⊢
                exact ⟨GD.wipeG g4 ws, acc, ads, ys', Y5.reWipe w4', S5', hp5, by omega, rr.same S35.s, ec, ey, fun i γ h m => wipeG_get h m⟩
              | true =>
                simp only [if_true] at ec ⊢
                refine he F ms (p :: hs) g4 σ4 H5 _ Y5 ?_
                cases e6 : fe g4 with
                | no => rw [e6] at ec; cases ec
                | ex _ => rw [e6] at ec; cases ec
                | ok q =>
                  obtain ⟨y, g5⟩ := q
                  rw [e6] at ec
                  dsimp only at ec
                  intro v6 H6 Y6 S6 o6
                  cases e7 : rawOf y with
                  | none => rw [e7] at ec; cases ec
                  | some dy =>
                    rw [e7] at ec
                    simp only [Option.map_eq_some_iff] at ec
                    obtain ⟨⟨ys2, g6⟩, ec2, e8⟩ := ec
                    cases e8
                    have hp6 : H6 p = some (.lst acc) := S6.f p _ hp5 npm
                    have rp6 : Rp c (hid (p :: hs) H6) v6 dy := rawOf_l (o6.l Y5.tr) e7
                    have S36 := S35.trans S6
                    refine ⟨acc, hp6, sz_lt (by omega), ?_⟩
                    have hx : hid (p :: hs) (upd H6 p (.lst (acc ++ [v6]))) = hid (p :: hs) H6 := hid_upd List.mem_cons_self
                    refine ⟨GD.wipeG g5 ws, acc ++ [v6], ads ++ [dy], ys2, ?_, ?_, upd_same, by rw [List.length_append, List.length_singleton]; omega, by rw [hx]; exact (rr.same S36.s).append (.cons rp6 .nil), ec2, by rw [ey, List.append_assoc]; rfl, fun i γ h m => wipeG_get h m⟩
                    · have Y7 := Y6.reWipe w4'
                      refine ⟨Y7.len, fun k γ hk => ?_, Y7.dis, fun b o hb hn => ?_, fun b hb q => ?_, Y7.sub, Y7.pc, Y7.oc, Y7.mh⟩
                      · have q := Y7.sl k γ hk
                        cases γ with
                        | un => exact True.intro
                        | da d => obtain ⟨v, z1, z2⟩ := q; exact ⟨v, z1, by rw [hx]; exact z2⟩
                        | ml ow d =>
                          obtain ⟨b, vs, z1, z2, z3, z4, z5, z6⟩ := q
                          exact ⟨b, vs, z1, z2, z3, z4, by rw [upd_ne (fun z : b = p => npm (by rw [← z]; exact z2))]; exact z5, by rw [hx]; exact z6⟩
                      · have q := Y7.fr b o hb hn
                        by_cases hbp : b = p
                        · subst hbp
                          exact absurd (Y.fresh0 n0) (by rw [hb]; exact fun z => nomatch z)
                        · rw [upd_ne hbp]; exact q
                      · by_cases hbp : b = p
                        · subst hbp; rw [upd_same] at q; cases q
                        · rw [upd_ne hbp] at q; exact Y7.tr b hb q
                    · rw [upd_upd]
                      refine S5'.trans ?_
                      constructor
                      · rw [hid_upd List.mem_cons_self, hid_upd List.mem_cons_self]; exact S6.s
                      · intro b o q n
                        by_cases hb : b = p
                        · subst hb; rw [upd_same] at q ⊢; exact q
                        · rw [upd_ne hb] at q ⊢; exact S6.f b o q n
        · have e : i = ds.length := by omega
          subst e
          rw [List.drop_length] at ec
          unfold compD at ec
          cases ec
          rw [List.append_nil] at ey
          subst ey
          have Yz := Ya.fromWipe hu
          have Sf : Sm ms hs H1 H' := by
            constructor
            · exact S1'.trans (hid_sub fun b hb => List.mem_cons_of_mem _ hb)
            · intro b o q n
              have hb : b ≠ p := fun z => by subst z; rw [np] at q; cases q
              have := S'.f b o (by rw [upd_ne hb]; exact q) n
              rwa [upd_ne hb] at this
          exact .inl ⟨y2, h _ _ (Yz.unHid (fun a ha => List.mem_cons_of_mem _ ha) Y1.mh Y1.sub) (S1.trans Sf) ⟨p, acc, rfl, n0, hp, rr, Yz⟩⟩
    · simp only [hz, if_false] at h
end
end GD

/-! GD8: what is walked; calls; defs. -/
namespace GD
open PySem PySem.Spec PyProof.Rows L2

/-! ### a list, a tuple, a text -/
def iAny (K : PySem.W.Frag) (tl : TE) : TI := fun σ H R => tl σ H fun x H1 =>
  (∃ a, x = .ref a ∧ (∃ xs, SqL K H1 a xs) ∧ R (Itl K a) H1) ∨ (∃ a, x = .ref a ∧ (∃ xs, SqT K H1 a xs) ∧ R (Itt K a) H1) ∨ (∃ z, x = .str z ∧ R (Its z) H1)
theorem pi_any {X : Cx} {tg l : Expr} {tl : TE} (hl : PE X l tl) : PI X tg l (iAny X.K tl) := by
  refine ⟨fun pins s σ H R I h => ?_⟩
  refine thn (hl.run pins s σ H _ I h) fun v s1 ⟨x, H1, I1, r1, q1⟩ => ?_
  rcases q1 with ⟨a, e, ⟨xs, hq⟩, q⟩ | ⟨a, e, ⟨xs, hq⟩, q⟩ | ⟨z, e, q⟩
  · subst e
    cases r1
    obtain ⟨its, rv, p, hz⟩ := I1.list hq
    refine wpAny_pyIter_list p.isList ?_
    refine ⟨s1.heap.objs.size, [s1.heap.objs.size], _, _, H1, rfl, I1.kept (t' := s1.toks) fun b o e => Heap.get?_push_of_some _ e, turn_list a _, ⟨_, Heap.get?_push_size _ rfl, rfl, rfl⟩, fun b hb => ?_, q⟩
    have e : b = s1.heap.objs.size := by simpa using hb
    subst e
    exact I1.fpOk (Nat.le_refl _) (I1.hok.fresh (Nat.le_refl _))
  · subst e
    cases r1
    obtain ⟨its, rv, p, hz⟩ := I1.tuple hq
    refine wpAny_pyIter_tuple (show s1.heap.IsTuple a its.toArray from p) ?_
    refine ⟨s1.heap.objs.size, [s1.heap.objs.size], _, _, H1, rfl, I1.kept (t' := s1.toks) fun b o e => Heap.get?_push_of_some _ e, turn_tuple a _, ⟨_, Heap.get?_push_size _ rfl, rfl, rfl⟩, fun b hb => ?_, q⟩
    have e : b = s1.heap.objs.size := by simpa using hb
    subst e
    exact I1.fpOk (Nat.le_refl _) (I1.hok.fresh (Nat.le_refl _))
  · subst e
    obtain ⟨t, rfl⟩ := r1
    cases ha : z.cps.all (· < 128)
    · exact wpAny_pyIter_wide ha (pi_one (tk := s1.toks) I1 _ (turn_str _ z t "str_iterator" (.inr rfl)) ⟨_, Heap.get?_push_size _ rfl, rfl, rfl⟩ q)
    · exact wpAny_pyIter_ascii ha (pi_one (tk := s1.toks) I1 _ (turn_str _ z t "str_ascii_iterator" (.inl rfl)) ⟨_, Heap.get?_push_size _ rfl, rfl, rfl⟩ q)

def itemsOf : D → Option (List D)
  | .list xs => some xs
  | .tuple xs => some xs
  | .str z => some (z.cps.toList.map fun n => .str ⟨#[n]⟩)
  | _ => none
def anyI (e : M Rv) : M (List D) := fun g => do
  let (x, g1) ← e g
  let d ← ofO (rawOf x)
  let ds ← ofO (itemsOf d)
  pure (ds, g1)
def rngD : List Rv → Option (List D)
  | [.da (.int j)] => if -1000000 ≤ j ∧ j ≤ 1000000 then some ((List.range j.toNat).map fun i : Nat => .int i) else none
  | [.da (.int i), .da (.int j)] => if -1000000 ≤ i ∧ i ≤ 1000000 ∧ -1000000 ≤ j ∧ j ≤ 1000000 then some ((List.range (j - i).toNat).map fun k : Nat => .int (i + k)) else none
  | _ => none
def zipD : List D → Option (List D)
  | [.list xs, .list ys] => some ((xs.zip ys).map fun p => .tuple [p.1, p.2])
  | [.tuple xs, .tuple ys] => some ((xs.zip ys).map fun p => .tuple [p.1, p.2])
  | _ => none
def rngI (a : M (List Rv)) : M (List D) := fun g => do
  let (rs, g1) ← a g
  let ds ← ofO (rngD rs)
  pure (ds, g1)
def zipI (a : M (List Rv)) : M (List D) := fun g => do
  let (rs, g1) ← a g
  let xs ← ofO (rawL g1 rs)
  let ds ← ofO (zipD xs)
  pure (ds, g1)

section
variable {c : CT} {E : XK}
theorem hid_rd {hs2 : List Addr} {H2 : Hp} {a : Addr} {xs : List V} (h : Rd (hid hs2 H2) a (.lst xs)) : SqL c.K H2 a xs := .inl (same_rd hid_le h)
theorem sqL_inj {K : PySem.W.Frag} {H : Hp} {a : Addr} {xs ys : List V} (h : Rd H a (.lst xs)) (h' : SqL K H a ys) (nk : ∀ o, K.lookup a = some o → H a = none) : xs = ys := by
  rcases h' with h' | ⟨o, its, n, hk, _⟩
  · rcases h with h | ⟨o, h⟩ <;> rcases h' with h' | ⟨o', h'⟩ <;> rw [h] at h' <;> cases h' <;> rfl
  · rcases h with h | ⟨o', h⟩ <;> rw [nk o hk] at h <;> cases h
theorem yl_list {hs : List Addr} {H : Hp} {a : Addr} {vs : List V} {ds : List D} (h : Rd (hid hs H) a (.lst vs)) (r : RpL c (hid hs H) vs ds) : Yl c (Itl c.K a) hs H ds := by
  intro hs2 H2 S
  have h2 := same_rd S h
  have r2 := r.same S
  have sq : SqL c.K H2 a vs := hid_rd h2
  refine ⟨fun i hi => ⟨vs, vs[i]'(by rw [r.length]; exact hi), sq, List.getElem?_eq_getElem _⟩, ⟨vs, sq, by rw [r.length]; exact Nat.le_refl _⟩, fun i d x H3 hd hy => ?_⟩
  obtain ⟨rfl, hx⟩ := hy
  refine ⟨Same.refl _, fun _ => ?_⟩
  obtain ⟨v, e1, rp⟩ := r2.get hd
  have := hx vs sq
  rw [e1] at this
  cases this
  exact rp
theorem yl_tup {hs : List Addr} {H : Hp} {a : Addr} {vs : List V} {ds : List D} (h : SqT c.K (hid hs H) a vs) (r : RpL c (hid hs H) vs ds) : Yl c (Itt c.K a) hs H ds := by
  intro hs2 H2 S
  have r2 := r.same S
  have sq : SqT c.K H2 a vs := same_t hid_le (same_t S h)
  refine ⟨fun i hi => ⟨vs, vs[i]'(by rw [r.length]; exact hi), sq, List.getElem?_eq_getElem _⟩, ⟨vs, sq, by rw [r.length]; exact Nat.le_refl _⟩, fun i d x H3 hd hy => ?_⟩
  obtain ⟨rfl, hx⟩ := hy
  refine ⟨Same.refl _, fun _ => ?_⟩
  obtain ⟨v, e1, rp⟩ := r2.get hd
  have := hx vs sq
  rw [e1] at this
  cases this
  exact rp
theorem di_any {te : TE} {fe : M Rv} (he : Dn c E te fe) : Di c E (iAny c.K te) (anyI fe) := by
  intro F ms hs g σ H Q Y h
  unfold anyI at h
  refine he F ms hs g σ H _ Y ?_
  cases e1 : fe g with
  | no => rw [e1] at h; exact h
  | ex _ => rw [e1] at h; exact h
  | ok p =>
    obtain ⟨x1, g1⟩ := p
    simp only [e1, Re.ok_bind] at h
    intro v1 H1 Y1 S1 o1
    cases q3 : rawOf x1 with
    | none => rw [q3] at h; exact False.elim h
    | some d =>
      simp only [q3, ofO_some, Re.ok_bind] at h
      have rp := rawOf_l (o1.l Y.tr) q3
      cases q4 : itemsOf d with
      | none => rw [q4] at h; exact False.elim h
      | some ds =>
        simp only [q4, ofO_some, Re.ok_bind, Re.pure_eq] at h
        cases d with
        | list xs =>
          cases q4
          obtain ⟨a, us, rfl, h1, h2⟩ := rp.lstInv
          exact .inl ⟨a, rfl, ⟨us, hid_rd h1⟩, h _ H1 Y1 S1 (yl_list h1 h2)⟩
        | tuple xs =>
          cases q4
          obtain ⟨a, us, rfl, h1, h2⟩ := rp.tupInv
          exact .inr (.inl ⟨a, rfl, ⟨us, same_t hid_le h1⟩, h _ H1 Y1 S1 (yl_tup h1 h2)⟩)
        | str z =>
          cases q4
          refine .inr (.inr ⟨z, rp.strInv, h _ H1 Y1 S1 ?_⟩)
          intro hs2 H2 S
          refine ⟨fun i hi => by show i < z.cps.size; simpa using hi, by show z.cps.size ≤ _; simp, fun i d x H3 hd hy => ?_⟩
          obtain ⟨rfl, n, e1, rfl⟩ := hy
          refine ⟨Same.refl _, fun _ => ?_⟩
          rw [List.getElem?_map, Option.map_eq_some_iff] at hd
          obtain ⟨m, e2, rfl⟩ := hd
          rw [Array.getElem?_toList, e1] at e2
          cases e2
          exact .str _
        | _ => cases q4
theorem yl_rng {hs : List Addr} {H : Hp} {lo : Int} {n : Nat} : Yl c (Itr lo n) hs H ((List.range n).map fun k : Nat => .int (lo + k)) := by
  intro hs2 H2 S
  refine ⟨fun i hi => by show i < n; simpa using hi, by show n ≤ _; simp, fun i d x H3 hd hy => ?_⟩
  obtain ⟨rfl, rfl⟩ := hy
  refine ⟨Same.refl _, fun _ => ?_⟩
  rw [List.getElem?_map, Option.map_eq_some_iff] at hd
  obtain ⟨m, e2, rfl⟩ := hd
  obtain ⟨hm1, hm2⟩ := List.getElem?_eq_some_iff.mp e2
  rw [List.getElem_range] at hm2
  subst hm2
  exact .int _
theorem di_rng1 {ta : TA} {fa : M (List Rv)} (ha : Da c E ta fa) (h1 : ∀ g rs g', fa g = .ok (rs, g') → rs.length = 1) : Di c E (iRng1 ta) (rngI fa) := by
  intro F ms hs g σ H Q Y h
  unfold rngI at h
  refine ha F ms hs g σ H _ Y ?_
  cases e1 : fa g with
  | no => rw [e1] at h; exact h
  | ex _ => rw [e1] at h; exact h
  | ok p =>
    obtain ⟨rs, g1⟩ := p
    have hl := h1 _ _ _ e1
    simp only [e1, Re.ok_bind] at h
    intro v1 H1 Y1 S1 o1
    cases q3 : rngD rs with
    | none => rw [q3] at h; exact False.elim h
    | some ds =>
      simp only [q3, ofO_some, Re.ok_bind, Re.pure_eq] at h
      unfold rngD at q3
      split at q3
      next j =>
        split at q3
        next hj =>
          cases q3
          cases o1 with
          | cons o1 o2 =>
            cases o2
            cases (show Rp c (hid hs H1) _ (.int j) from o1).intInv
            refine ⟨j, rfl, by omega, by omega, h _ H1 Y1 S1 ?_⟩
            have := yl_rng (c := c) (hs := hs) (H := H1) (lo := 0) (n := j.toNat)
            simpa only [Int.zero_add] using this
        next => cases q3
      next => simp at hl
      next => cases q3
theorem di_rng2 {ta : TA} {fa : M (List Rv)} (ha : Da c E ta fa) (h1 : ∀ g rs g', fa g = .ok (rs, g') → rs.length = 2) : Di c E (iRng2 ta) (rngI fa) := by
  intro F ms hs g σ H Q Y h
  unfold rngI at h
  refine ha F ms hs g σ H _ Y ?_
  cases e1 : fa g with
  | no => rw [e1] at h; exact h
  | ex _ => rw [e1] at h; exact h
  | ok p =>
    obtain ⟨rs, g1⟩ := p
    have hl := h1 _ _ _ e1
    simp only [e1, Re.ok_bind] at h
    intro v1 H1 Y1 S1 o1
    cases q3 : rngD rs with
    | none => rw [q3] at h; exact False.elim h
    | some ds =>
      simp only [q3, ofO_some, Re.ok_bind, Re.pure_eq] at h
      unfold rngD at q3
      split at q3
      next => simp at hl
      next i j =>
        split at q3
        next hj =>
          cases q3
          cases o1 with
          | cons o1 o2 =>
            cases o2 with
            | cons o2 o3 =>
              cases o3
              cases (show Rp c (hid hs H1) _ (.int i) from o1).intInv
              cases (show Rp c (hid hs H1) _ (.int j) from o2).intInv
              exact ⟨i, j, rfl, ⟨by omega, by omega, by omega, by omega⟩, h _ H1 Y1 S1 yl_rng⟩
        next => cases q3
      next => cases q3
theorem aC_len {a : M Rv} {r : M (List Rv)} {n : Nat} (h : ∀ g rs g', r g = .ok (rs, g') → rs.length = n) : ∀ g rs g', aC a r g = .ok (rs, g') → rs.length = n + 1 := by
  intro g rs g' e
  unfold aC at e
  cases e1 : a g with
  | no => rw [e1] at e; cases e
  | ex _ => rw [e1] at e; cases e
  | ok p =>
    obtain ⟨x, g1⟩ := p
    simp only [e1, Re.ok_bind] at e
    cases e2 : r g1 with
    | no => rw [e2] at e; cases e
    | ex _ => rw [e2] at e; cases e
    | ok q =>
      obtain ⟨ys, g2⟩ := q
      simp only [e2, Re.ok_bind, Re.pure_eq] at e
      cases e
      rw [List.length_cons, h _ _ _ e2]
theorem aN_len : ∀ g rs g', aN g = .ok (rs, g') → rs.length = 0 := by
  intro g rs g' e
  cases e
  rfl
theorem yl_zipL {hs : List Addr} {H : Hp} {a b : Addr} {vs us : List V} {ds es : List D} (h : Rd (hid hs H) a (.lst vs)) (r : RpL c (hid hs H) vs ds) (h' : Rd (hid hs H) b (.lst us)) (r' : RpL c (hid hs H) us es) :
    Yl c (Itz c.K a b) hs H ((ds.zip es).map fun p => .tuple [p.1, p.2]) := by
  intro hs2 H2 S
  have r2 := r.same S
  have r2' := r'.same S
  have sq : SqL c.K H2 a vs := hid_rd (same_rd S h)
  have sq' : SqL c.K H2 b us := hid_rd (same_rd S h')
  have l1 := r.length
  have l2 := r'.length
  refine ⟨fun i hi => ?_, ⟨vs, us, sq, sq', ?_⟩, fun i d x H3 hd hy => ?_⟩
  · simp only [List.length_map, List.length_zip] at hi
    exact ⟨vs, us, vs[i]'(by omega), us[i]'(by omega), sq, sq', List.getElem?_eq_getElem _, List.getElem?_eq_getElem _⟩
  · simp only [List.length_map, List.length_zip]
    omega
  · obtain ⟨T, v, u, rfl, nT, rfl, f1, f2⟩ := hy
    refine ⟨same_new nT, fun tr => ?_⟩
    rw [List.getElem?_map, Option.map_eq_some_iff] at hd
    obtain ⟨⟨d1, d2⟩, e2, rfl⟩ := hd
    rw [List.getElem?_zip_eq_some] at e2
    obtain ⟨w1, q1, p1⟩ := r2.get e2.1
    obtain ⟨w2, q2, p2⟩ := r2'.get e2.2
    have := f1 vs sq
    rw [q1] at this
    cases this
    have := f2 us sq'
    rw [q2] at this
    cases this
    exact rp_newtup tr nT (.cons p1 (.cons p2 .nil))
theorem yl_zipT {hs : List Addr} {H : Hp} {a b : Addr} {vs us : List V} {ds es : List D} (h : SqT c.K (hid hs H) a vs) (r : RpL c (hid hs H) vs ds) (h' : SqT c.K (hid hs H) b us) (r' : RpL c (hid hs H) us es) :
    Yl c (RZ.ItzT c.K a b) hs H ((ds.zip es).map fun p => .tuple [p.1, p.2]) := by
  intro hs2 H2 S
  have r2 := r.same S
  have r2' := r'.same S
  have sq : SqT c.K H2 a vs := same_t hid_le (same_t S h)
  have sq' : SqT c.K H2 b us := same_t hid_le (same_t S h')
  have l1 := r.length
  have l2 := r'.length
  refine ⟨fun i hi => ?_, ⟨vs, us, sq, sq', ?_⟩, fun i d x H3 hd hy => ?_⟩
  · simp only [List.length_map, List.length_zip] at hi
    exact ⟨vs, us, vs[i]'(by omega), us[i]'(by omega), sq, sq', List.getElem?_eq_getElem _, List.getElem?_eq_getElem _⟩
  · simp only [List.length_map, List.length_zip]
    omega
  · obtain ⟨T, v, u, rfl, nT, rfl, f1, f2⟩ := hy
    refine ⟨same_new nT, fun tr => ?_⟩
    rw [List.getElem?_map, Option.map_eq_some_iff] at hd
    obtain ⟨⟨d1, d2⟩, e2, rfl⟩ := hd
    rw [List.getElem?_zip_eq_some] at e2
    obtain ⟨w1, q1, p1⟩ := r2.get e2.1
    obtain ⟨w2, q2, p2⟩ := r2'.get e2.2
    have := f1 vs sq
    rw [q1] at this
    cases this
    have := f2 us sq'
    rw [q2] at this
    cases this
    exact rp_newtup tr nT (.cons p1 (.cons p2 .nil))
theorem di_zip {ta : TA} {fa : M (List Rv)} (ha : Da c E ta fa) : Di c E (RZ.iZipA c.K ta) (zipI fa) := by
  intro F ms hs g σ H Q Y h
  unfold zipI at h
  refine ha F ms hs g σ H _ Y ?_
  cases e1 : fa g with
  | no => rw [e1] at h; exact h
  | ex _ => rw [e1] at h; exact h
  | ok p =>
    obtain ⟨rs, g1⟩ := p
    simp only [e1, Re.ok_bind] at h
    intro v1 H1 Y1 S1 o1
    cases q3 : rawL g1 rs with
    | none => rw [q3] at h; exact False.elim h
    | some xs =>
      simp only [q3, ofO_some, Re.ok_bind] at h
      have rr := RvLs.raw o1 q3
      cases q4 : zipD xs with
      | none => rw [q4] at h; exact False.elim h
      | some ds =>
        simp only [q4, ofO_some, Re.ok_bind, Re.pure_eq] at h
        unfold zipD at q4
        split at q4
        next xs ys =>
          cases q4
          obtain ⟨v, w, rfl, r1, r2⟩ := rr.twoInv
          obtain ⟨a, us, rfl, p1, p2⟩ := r1.lstInv
          obtain ⟨b, ws, rfl, p3, p4⟩ := r2.lstInv
          exact ⟨a, b, us, ws, rfl, .inl ⟨hid_rd p1, hid_rd p3, h _ H1 Y1 S1 (yl_zipL p1 p2 p3 p4)⟩⟩
        next xs ys =>
          cases q4
          obtain ⟨v, w, rfl, r1, r2⟩ := rr.twoInv
          obtain ⟨a, us, rfl, p1, p2⟩ := r1.tupInv
          obtain ⟨b, ws, rfl, p3, p4⟩ := r2.tupInv
          exact ⟨a, b, us, ws, rfl, .inr ⟨same_t hid_le p1, same_t hid_le p3, h _ H1 Y1 S1 (yl_zipT p1 p2 p3 p4)⟩⟩
        next => cases q4
end

/-! ### calls of defs -/
/-- a def without lists that change: what it hands back is F of its arguments' data -/
def spP (c : CT) (Fd : List D → Re Rv) : Sp := fun vs H Q E => ∃ hc ds, (∀ a ∈ hc, H a ≠ none) ∧ RpL c (hid hc H) vs ds ∧
  match Fd ds with
  | .ok r => ∀ v H', Same H H' → RvOk c hc H H' v r → Q v H'
  | .ex e => ∀ u H', c.mg e = some u → Same H H' → E u none H'
  | .no => False
/-- a def whose first argument is a list that it changes -/
def spS (c : CT) (Fd : List D → List D → Re (D × List D)) : Sp := fun vs H Q E => ∃ hc a vs0 ds0 ws ds, vs = .ref a :: ws ∧ a ∈ hc ∧ (∀ a ∈ hc, H a ≠ none) ∧ H a = some (.lst vs0) ∧ RpL c (hid hc H) vs0 ds0 ∧ RpL c (hid hc H) ws ds ∧
  match Fd ds0 ds with
  | .ok (d, ds1) => ∀ v H' vs1, (∀ b o, H b = some o → b ≠ a → H' b = some o) → H' a = some (.lst vs1) → RpL c (hid hc H') vs1 ds1 → Rp c (hid hc H') v d → Q v H'
  | .ex e => ∀ u H', c.mg e = some u → (∀ b o, H b = some o → b ≠ a → H' b = some o) → E u none H'
  | .no => False
def callE (Fd : List D → Re Rv) (a : M (List Rv)) : M Rv := fun g => do
  let (rs, g1) ← a g
  let xs ← ofO (rawL g1 rs)
  let r ← Fd xs
  match r with
  | .bl _ => .no
  | r => pure (r, g1)
def callS (Fd : List D → List D → Re (D × List D)) (a : M (List Rv)) : M Rv := fun g => do
  let (rs, g1) ← a g
  match rs with
  | .bl i :: rs' => do
    let xs ← ofO (rawL g1 rs')
    match g1[i]? with
    | some (.ml own ds0) => do
      let (r, ds1) ← Fd ds0 xs
      pure (.da r, g1.set i (.ml own ds1))
    | _ => .no
  | _ => .no
section
variable {c : CT} {E : XK}
theorem dn_call {Fd : List D → Re Rv} {ta : TA} {fa : M (List Rv)} (ha : Da c E ta fa) : Dn c E (tCall (spP c Fd) [] E ta) (callE Fd fa) := by
  intro F ms hs g σ H Q Y h
  unfold callE at h
  refine ha F ms hs g σ H _ Y ?_
  cases e1 : fa g with
  | no => rw [e1] at h; exact h
  | ex _ => rw [e1] at h; exact h
  | ok p =>
    obtain ⟨rs, g1⟩ := p
    simp only [e1, Re.ok_bind] at h
    intro v1 H1 Y1 S1 o1
    cases q3 : rawL g1 rs with
    | none => rw [q3] at h; exact False.elim h
    | some xs =>
      simp only [q3, ofO_some, Re.ok_bind] at h
      rw [List.append_nil]
      refine ⟨hs, xs, Y1.tr, RvLs.raw o1 q3, ?_⟩
      cases q4 : Fd xs with
      | no => rw [q4] at h; exact h
      | ex e =>
        rw [q4] at h
        exact fun u H' hm sm => h u H' hm fun b o hb hp => sm _ _ (Y1.fr b o hb hp)
      | ok r =>
        simp only [q4, Re.ok_bind] at h
        cases r with
        | da d => exact fin_op Y1 S1 h
        | fl d => exact fin_op Y1 S1 h
        | bl i => exact h.elim
theorem dn_callS {Fd : List D → List D → Re (D × List D)} {ta : TA} {fa : M (List Rv)} (ha : Da c E ta fa) : Dn c E (tCall (spS c Fd) [] E ta) (callS Fd fa) := by
  intro F ms hs g σ H Q Y h
  unfold callS at h
  refine ha F ms hs g σ H _ Y ?_
  cases e1 : fa g with
  | no => rw [e1] at h; exact h
  | ex _ => rw [e1] at h; exact h
  | ok p =>
    obtain ⟨rs, g1⟩ := p
    simp only [e1, Re.ok_bind] at h
    intro v1 H1 Y1 S1 o1
    match rs, o1, h with
    | [], _, h => exact h.elim
    | .da _ :: _, _, h => exact h.elim
    | .fl _ :: _, _, h => exact h.elim
    | .bl i :: rs', .cons (v := v) (vs := ws) q1 q2, h =>
      dsimp only at h
      cases q3 : rawL g1 rs' with
      | none => rw [q3] at h; exact False.elim h
      | some xs =>
        simp only [q3, ofO_some, Re.ok_bind] at h
        cases q5 : g1[i]? with
        | none => rw [q5] at h; exact False.elim h
        | some γ =>
          cases γ with
          | un => rw [q5] at h; exact False.elim h
          | da _ => rw [q5] at h; exact False.elim h
          | ml own ds0 =>
            simp only [q5] at h
            obtain ⟨a, vs0, z1, m, o1', o2', ha0, r0⟩ := Y1.sl i _ q5
            have z0 : σ[i]? = some (some v) := q1
            rw [z0] at z1
            cases z1
            rw [List.append_nil]
            refine ⟨hs, a, vs0, ds0, ws, xs, rfl, Y1.mh a m, Y1.tr, ha0, r0, RvLs.raw q2 q3, ?_⟩
            cases q4 : Fd ds0 xs with
            | no => rw [q4] at h; exact h
            | ex e =>
              rw [q4] at h
              refine fun u H' hm sm => h u H' hm fun b o hb hp => ?_
              by_cases hba : b = a
              · subst hba
                cases own with
                | true => rw [o1' rfl] at hb; cases hb
                | false => exact absurd (o2' rfl) hp
              · exact sm _ _ (Y1.fr b o hb hp) hba
            | ok pr =>
              obtain ⟨d, ds1⟩ := pr
              simp only [q4, Re.ok_bind, Re.pure_eq] at h
              intro v H' vs1 fr ha1 r1 rd
              have Sx : Sm ms hs H1 H' := by
                constructor
                · intro b o q
                  by_cases hb : b ∈ hs
                  · rw [hid_in hb] at q; cases q
                  · rw [hid_out hb] at q ⊢
                    exact fr _ _ q fun z => hb (by subst z; exact Y1.mh _ m)
                · exact fun b o q n => fr _ _ q fun z => n (by subst z; exact m)
              refine h v H' ?_ (S1.trans Sx) rd
              have Y2 := Y1.write q5 z0 (vs' := vs0) (ds' := ds0) r0
              refine ⟨by rw [List.length_set]; exact Y1.len, fun j γ hj => ?_, fun j k oj dj ok dk b hj hk e1 e2 => ?_, fun b o hb hp => ?_, fun b hb q => ?_, Y1.sub, Y1.pc, Y1.oc, Y1.mh⟩
              · by_cases e : i = j
                · subst e
                  rw [List.getElem?_set_self (List.getElem?_eq_some_iff.mp q5).1] at hj
                  cases hj
                  exact ⟨a, vs1, z0, m, o1', o2', ha1, r1⟩
                · rw [List.getElem?_set_ne e] at hj
                  have q := Y1.sl j γ hj
                  cases γ with
                  | un => exact True.intro
                  | da d => obtain ⟨v, e1, x⟩ := q; exact ⟨v, e1, x.same Sx.s⟩
                  | ml oj dj =>
                    obtain ⟨b, ws, e1, m', p1, p2, hb, x⟩ := q
                    have hne : b ≠ a := fun z => e (Y1.dis i j own ds0 oj dj a q5 hj z0 (z ▸ e1))
                    exact ⟨b, ws, e1, m', p1, p2, fr _ _ hb hne, x.same Sx.s⟩
              · have back : ∀ {j : Nat} {oj : Bool} {dj : List D}, (g1.set i (.ml own ds1))[j]? = some (.ml oj dj) → ∃ o d, g1[j]? = some (.ml o d) := fun {j oj dj} hj => by
                  by_cases e : i = j
                  · subst e; exact ⟨_, _, q5⟩
                  · rw [List.getElem?_set_ne e] at hj; exact ⟨_, _, hj⟩
                obtain ⟨_, _, q1⟩ := back hj
                obtain ⟨_, _, q2⟩ := back hk
                exact Y1.dis _ _ _ _ _ _ b q1 q2 e1 e2
              · by_cases e : b = a
                · subst e
                  cases own with
                  | true => rw [o1' rfl] at hb; cases hb
                  | false => exact absurd (o2' rfl) hp
                · exact fr _ _ (Y1.fr b o hb hp) e
              · by_cases e : b = a
                · subst e; rw [ha1] at q; cases q
                · cases z : H1 b with
                  | none => exact Y1.tr b hb z
                  | some o => rw [fr _ _ z e] at q; cases q
end

/-! ### defs -/
def runP (n m : Nat) (fb : G → SR) (ds : List D) : Re Rv :=
  if ds.length = n then (match fb (ds.map .da ++ List.replicate (m - n) .un) with
    | .nx _ => .ok (.da .none)
    | .rt r _ => .ok r
    | .ex e => .ex e
    | _ => .no) else .no
def runS (n m : Nat) (fb : G → SR) (ds0 : List D) (ds : List D) : Re (D × List D) :=
  if ds.length + 1 = n then (match fb (.ml false ds0 :: (ds.map .da ++ List.replicate (m - n) .un)) with
    | .nx (.ml false ds1 :: _) => .ok (.none, ds1)
    | .rt r (.ml false ds1 :: _) => (match rawOf r with
      | some d => .ok (d, ds1)
      | none => .no)
    | .ex e => .ex e
    | _ => .no) else .no
section
variable {P : Program} {w : World} {K : PySem.W.Frag} {mg : Str → Option Value} {base : Heap}
theorem rp_slots {c : CT} {H : Hp} {F : Fx} {ms hs : List Addr} : ∀ {vs : List V} {ds : List D} {k : Nat}, RpL c (hid hs H) vs ds → ∀ (i : Nat) (γ : Sl), (ds.map Sl.da ++ List.replicate k .un)[i]? = some γ → SlOk c F ms hs H (vs.map some ++ List.replicate k none)[i]? γ
  | _, _, k, .nil, i, γ, h => by
    simp only [List.map_nil, List.nil_append] at h ⊢
    have : γ = .un := by
      rw [List.getElem?_replicate] at h
      split at h
      · cases h; rfl
      · cases h
    subst this
    exact True.intro
  | _, _, k, .cons r rs, 0, γ, h => by
    cases h
    exact ⟨_, rfl, r⟩
  | _, _, k, .cons r rs, i + 1, γ, h => rp_slots rs i γ (by simpa using h)
theorem okP {x qual : Str} {st : Stmt} {f : Addr} {fd : FuncData} {N ps : List Str} {k : Nat} {fb : G → SR} (F : Fun K x qual st f fd) (S : FnScope N ps (defScope st))
    (hbody : ∀ (cdv : Value) (A : Around) (outer : List Env) (s : Shared) (H : Hp) (E : XK), Room k (A.deeper (envOfC qual (defScope st) s.heap.objs.size f cdv)) →
      ∃ t, PSs (cxOf (L2.CX P w) P w K mg base N qual (defScope st) f cdv A outer s H E) (defBody st) t ∧ Sn ⟨P, w, K, mg⟩ E t fb) :
    FnOk P w K mg base (L2.CX P w) (k + 1) f fd ps (spP ⟨P, w, K, mg⟩ (runP ps.length N.length fb)) := by
  have len : ∀ vs H Q E, spP ⟨P, w, K, mg⟩ (runP ps.length N.length fb) vs H Q E → vs.length = ps.length := fun vs H Q E ⟨hc, ds, _, r, h⟩ => by
    rw [r.length]
    unfold runP at h
    split at h
    next r e =>
      split at e
      next hl => exact hl
      next => cases e
    next e h' =>
      split at h'
      next hl => exact hl
      next => cases h'
    next => exact h.elim
  refine F.okX S len fun cdv A outer s H vs Q E hr h => ?_
  obtain ⟨t, h1, h2⟩ := hbody cdv A outer s H E hr
  refine ⟨t, h1, ?_⟩
  have hl := len _ _ _ _ h
  obtain ⟨hc, ds, tr, r, h⟩ := h
  have hds : ds.length = ps.length := by rw [← r.length]; exact hl
  have hpn : ps.length ≤ N.length := by have := congrArg List.length S.pre; rw [List.length_take] at this; omega
  unfold runP at h
  rw [if_pos hds] at h
  refine h2 ⟨H, [], hc⟩ [] hc (ds.map .da ++ List.replicate (N.length - ps.length) .un) (L2.start N vs) H _ ?_ ?_
  · refine ⟨?_, fun i γ hi => ?_, fun i j oi di oj dj a hi => ?_, fun b o hb _ => hb, tr, fun a ha => ha, fun a ha => absurd ha (by simp), tr, fun a ha => absurd ha (by simp)⟩
    · unfold L2.start
      simp only [List.length_append, List.length_map, List.length_replicate]
      omega
    · unfold L2.start
      rw [hl]
      exact rp_slots r i γ hi
    · exfalso
      have : ∀ {ds : List D} {k : Nat} {i : Nat}, (ds.map Sl.da ++ List.replicate k .un)[i]? ≠ some (.ml oi di) := by
        intro ds
        induction ds with
        | nil =>
          intro k i z
          simp only [List.map_nil, List.nil_append] at z
          rw [List.getElem?_replicate] at z
          split at z <;> cases z
        | cons d ds ih =>
          intro k i z
          cases i with
          | zero => cases z
          | succ i => exact ih (by simpa using z)
      exact this hi
  · cases e : fb (ds.map .da ++ List.replicate (N.length - ps.length) .un) with
    | nx g =>
      rw [e] at h
      exact fun ms' hs' σ' H' Y' S' => h .non H' (fun b o hb => Y'.fr b o hb (by simp)) .non
    | rt r g =>
      rw [e] at h
      intro ms' hs' σ' v H' Y' S' o'
      refine h v H' (fun b o hb => Y'.fr b o hb (by simp)) ?_
      cases r with
      | da d => exact Rp.same (hid_sub Y'.sub) o'
      | fl ds =>
        obtain ⟨a, us, e1, n, q1, q2⟩ := o'
        exact ⟨a, us, e1, n, q1, q2.same (hid_sub fun b hb => by
          rcases List.mem_cons.mp hb with rfl | hb
          · exact List.mem_cons_self
          · exact List.mem_cons_of_mem _ (Y'.sub b hb))⟩
      | bl i => exact o'.elim
    | ex e' =>
      rw [e] at h
      exact fun u H' hm hf => h u H' hm fun b o hb => hf b o hb (by simp)
    | bk g => rw [e] at h; exact h.elim
    | ct g => rw [e] at h; exact h.elim
    | no => rw [e] at h; exact h.elim
theorem no_ml {oi : Bool} {di : List D} : ∀ {ds : List D} {k i : Nat}, (ds.map Sl.da ++ List.replicate k .un)[i]? ≠ some (.ml oi di)
  | [], k, i, z => by
    simp only [List.map_nil, List.nil_append] at z
    rw [List.getElem?_replicate] at z
    split at z <;> cases z
  | d :: ds, k, 0, z => by cases z
  | d :: ds, k, i + 1, z => no_ml (ds := ds) (k := k) (i := i) (by simpa using z)
theorem okS {x qual : Str} {st : Stmt} {f : Addr} {fd : FuncData} {N ps : List Str} {k : Nat} {fb : G → SR} (F : Fun K x qual st f fd) (S : FnScope N ps (defScope st))
    (hbody : ∀ (cdv : Value) (A : Around) (outer : List Env) (s : Shared) (H : Hp) (E : XK), Room k (A.deeper (envOfC qual (defScope st) s.heap.objs.size f cdv)) →
      ∃ t, PSs (cxOf (L2.CX P w) P w K mg base N qual (defScope st) f cdv A outer s H E) (defBody st) t ∧ Sn ⟨P, w, K, mg⟩ E t fb) :
    FnOk P w K mg base (L2.CX P w) (k + 1) f fd ps (spS ⟨P, w, K, mg⟩ (runS ps.length N.length fb)) := by
  have len : ∀ vs H Q E, spS ⟨P, w, K, mg⟩ (runS ps.length N.length fb) vs H Q E → vs.length = ps.length := fun vs H Q E ⟨hc, a, vs0, ds0, ws, ds, e0, _, _, _, _, r, h⟩ => by
    subst e0
    rw [List.length_cons, r.length]
    unfold runS at h
    split at h
    next d ds1 e =>
      split at e
      next hl => exact hl
      next => cases e
    next e h' =>
      split at h'
      next hl => exact hl
      next => cases h'
    next => exact h.elim
  refine F.okX S len fun cdv A outer s H vs Q E hr h => ?_
  obtain ⟨t, h1, h2⟩ := hbody cdv A outer s H E hr
  refine ⟨t, h1, ?_⟩
  have hl := len _ _ _ _ h
  obtain ⟨hc, a, vs0, ds0, ws, ds, rfl, ha, tr, h0, r0, r, h⟩ := h
  have hds : ds.length + 1 = ps.length := by rw [← r.length]; exact hl
  have hpn : ps.length ≤ N.length := by have := congrArg List.length S.pre; rw [List.length_take] at this; omega
  unfold runS at h
  rw [if_pos hds] at h
  have st0 : L2.start N (V.ref a :: ws) = some (V.ref a) :: (ws.map some ++ List.replicate (N.length - ps.length) none) := by
    unfold L2.start
    rw [hl]
    rfl
  refine h2 ⟨H, [a], hc⟩ [a] hc (.ml false ds0 :: (ds.map .da ++ List.replicate (N.length - ps.length) .un)) (L2.start N (V.ref a :: ws)) H _ ?_ ?_
  · refine ⟨?_, fun i γ hi => ?_, fun i j oi di oj dj b hi hj _ _ => ?_, fun b o hb _ => hb, tr, fun a ha => ha, fun b hb => ?_, tr, fun b hb => ?_⟩
    · rw [st0]
      simp only [List.length_append, List.length_map, List.length_replicate, List.length_cons]
      have := r.length
      omega
    · rw [st0]
      cases i with
      | zero =>
        cases hi
        exact ⟨a, vs0, rfl, List.mem_singleton.mpr rfl, (fun z => nomatch z), fun _ => List.mem_singleton.mpr rfl, h0, r0⟩
      | succ i => exact rp_slots r i γ (by simpa using hi)
    · cases i with
      | zero =>
        cases j with
        | zero => rfl
        | succ j => exact absurd (show (ds.map Sl.da ++ List.replicate (N.length - ps.length) .un)[j]? = _ by simpa using hj) no_ml
      | succ i => exact absurd (show (ds.map Sl.da ++ List.replicate (N.length - ps.length) .un)[i]? = _ by simpa using hi) no_ml
    · rw [List.mem_singleton.mp hb]; exact ha
    · rw [List.mem_singleton.mp hb]; exact ha
  · -- the ends
    have fin : ∀ {ms' hs' : List Addr} {ds1 : List D} {g : G} {σ' : L2.St} {H' : Hp}, Rel ⟨P, w, K, mg⟩ ⟨H, [a], hc⟩ ms' hs' (.ml false ds1 :: g) σ' H' →
        (∀ b o, H b = some o → b ≠ a → H' b = some o) ∧ ∃ vs1, H' a = some (.lst vs1) ∧ RpL ⟨P, w, K, mg⟩ (hid hc H') vs1 ds1 := fun {ms' hs' ds1 g σ' H'} Y' => by
      refine ⟨fun b o hb n => Y'.fr b o hb (by simpa using n), ?_⟩
      obtain ⟨b, vs1, _, _, _, z2, z3, z4⟩ := Y'.sl 0 _ rfl
      have e : b = a := List.mem_singleton.mp (z2 rfl)
      subst e
      exact ⟨vs1, z3, z4.same (hid_sub Y'.sub)⟩
    cases e : fb (.ml false ds0 :: (ds.map .da ++ List.replicate (N.length - ps.length) .un)) with
    | nx g =>
      rw [e] at h
      match g, h with
      | .ml false ds1 :: g, h =>
        intro ms' hs' σ' H' Y' S'
        obtain ⟨q1, vs1, q2, q3⟩ := fin Y'
        exact h .non H' vs1 q1 q2 q3 .non
      | [], h => exact h.elim
      | .un :: _, h => exact h.elim
      | .da _ :: _, h => exact h.elim
      | .ml true _ :: _, h => exact h.elim
    | rt r g =>
      rw [e] at h
      match g, h with
      | .ml false ds1 :: g, h =>
        intro ms' hs' σ' v H' Y' S' o'
        obtain ⟨q1, vs1, q2, q3⟩ := fin Y'
        dsimp only at h
        cases e2 : rawOf r with
        | none => rw [e2] at h; exact h.elim
        | some d =>
          rw [e2] at h
          refine h v H' vs1 q1 q2 q3 ?_
          cases r with
          | da d' => cases e2; exact Rp.same (hid_sub Y'.sub) o'
          | fl es =>
            cases e2
            obtain ⟨b, us, rfl, n, p1, p2⟩ := o'
            exact .lst (.inl (by rw [hid_out (show b ∉ hc from fun z => tr b z n)]; exact p1)) (p2.same (hid_sub fun x hx => List.mem_cons_of_mem _ (Y'.sub x hx)))
          | bl i => cases e2
      | [], h => exact h.elim
      | .un :: _, h => exact h.elim
      | .da _ :: _, h => exact h.elim
      | .ml true _ :: _, h => exact h.elim
    | ex e' =>
      rw [e] at h
      exact fun u H' hm hf => h u H' hm fun b o hb n => hf b o hb (by simpa using n)
    | bk g => rw [e] at h; exact h.elim
    | ct g => rw [e] at h; exact h.elim
    | no => rw [e] at h; exact h.elim
/-- a promise of another function that says the same -/
theorem spP_of {c : CT} {CX : CXT} {k : Nat} {f : Addr} {fd : FuncData} {ps : List Str} {F1 F2 : List D → Re Rv} (h : FnOk P w K mg base CX k f fd ps (spP c F1)) (e : ∀ ds, F2 ds ≠ .no → F1 ds = F2 ds) : FnOk P w K mg base CX k f fd ps (spP c F2) :=
  h.imp fun vs H Q E ⟨hc, ds, q1, q2, q3⟩ => ⟨hc, ds, q1, q2, by
    rw [e ds (fun z => by rw [z] at q3; exact q3)]
    exact q3⟩
theorem spS_of {c : CT} {CX : CXT} {k : Nat} {f : Addr} {fd : FuncData} {ps : List Str} {F1 F2 : List D → List D → Re (D × List D)} (h : FnOk P w K mg base CX k f fd ps (spS c F1)) (e : ∀ ds0 ds, F2 ds0 ds ≠ .no → F1 ds0 ds = F2 ds0 ds) : FnOk P w K mg base CX k f fd ps (spS c F2) :=
  h.imp fun vs H Q E ⟨hc, a, vs0, ds0, ws, ds, q1, q2, q3, q4, q5, q6, q7⟩ => ⟨hc, a, vs0, ds0, ws, ds, q1, q2, q3, q4, q5, q6, by
    rw [e ds0 ds (fun z => by rw [z] at q7; exact q7)]
    exact q7⟩
/-- how a callee's exception goes on -/
theorem pass_on {X : Cx} {E : XK} (tk : Takes X (fun cls d _ H => E cls d H)) : Passes (L2.CX X.prog X.w) X E := passes_call tk fun _ _ _ _ h => h
end
end GD

/-! GD9: the end of a law. -/
namespace GD
open PySem PySem.Spec PyProof.Rows L2
/-! the rules, with the written part by its name (in a comprehension's block the context is another, the written part is the same) -/
section
variable {X : Cx} {K : PySem.W.Frag}
theorem k_add (h : X.K = K := by rfl) : OpR X (binaryOp .Add) (rAddG K) := h ▸ g_add
theorem k_mul (h : X.K = K := by rfl) : OpR X (binaryOp .Mult) (rMulG K) := h ▸ g_mul
theorem k_eq (hu : X.A.units + 64 < cLine) (h : X.K = K := by rfl) : OpR X (compareOp .Eq) (rEqD K) := h ▸ op_eqD hu
theorem k_ne (hu : X.A.units + 64 < cLine) (h : X.K = K := by rfl) : OpR X (compareOp .NotEq) (rNeD K) := h ▸ op_neD hu
theorem k_in (hu : X.A.units + 65 < cLine) (h : X.K = K := by rfl) : OpR X (compareOp .In) (rInD K) := h ▸ op_inD hu
theorem k_notin (hu : X.A.units + 65 < cLine) (h : X.K = K := by rfl) : OpR X (compareOp .NotIn) (rNotInD K) := h ▸ op_notInD hu
theorem k_sl (h : X.K = K := by rfl) : SlR X (rSlG K) := h ▸ g_sl
theorem k_ix (h : X.K = K := by rfl) : IxR X (rIx K) := h ▸ ix_seq
theorem k_len (h : X.K = K := by rfl) : CallR X (.builtin "len") (rLenG K) := h ▸ g_len
theorem k_max (hc : X.calm = true) (h : X.K = K := by rfl) : CallR X (.builtin "max") (rMaxG K) := h ▸ g_max hc
theorem k_min (hc : X.calm = true) (h : X.K = K := by rfl) : CallR X (.builtin "min") (rMinG K) := h ▸ g_min hc
theorem k_sum (hc : X.calm = true) (h : X.K = K := by rfl) : CallR X (.builtin "sum") (rSumG K) := h ▸ g_sum hc
theorem k_all (hc : X.calm = true) (h : X.K = K := by rfl) : CallR X (.builtin "all") (rAll K) := h ▸ cr_all hc
theorem k_any (hc : X.calm = true) (h : X.K = K := by rfl) : CallR X (.builtin "any") (rAny K) := h ▸ cr_any hc
theorem k_tuple (h : X.K = K := by rfl) : CallR X (.type "tuple") (rTupOf K) := h ▸ g_tuple
theorem k_list (h : X.K = K := by rfl) : CallR X (.type "list") (rLstOf K) := h ▸ g_list
theorem k_isi (h : X.K = K := by rfl) : CallR X (.builtin "isinstance") (rIsi K) := h ▸ call_isi
theorem kpi_any {tg l : Expr} {tl : TE} (hl : PE X l tl) (h : X.K = K := by rfl) : PI X tg l (iAny K tl) := h ▸ pi_any hl
theorem kpi_zip {e e2 : Expr} {ta : TA} {p pos tpos : Pos} {elts : List Expr} {kk : Nat} (hg : Gl X "zip") (hm : X.mg "zip" = none) (ha : PA X [e, e2] ta) (h : X.K = K := by rfl)
    (hs : starEach [e, e2] X.env = (false, eval e X.env) :: starEach [e2] X.env := by rfl) (hpl : (backTo pos (starEach [e2] X.env)).any (·.1) = false := by rfl) :
    PI X (.Tuple elts kk tpos) (.Call (.Name "zip" p) [e, e2] [] pos) (RZ.iZipA K ta) := h ▸ RZ.pi_zipA hg hm ha hs hpl
theorem kpg_tup {pos : Pos} {es : List Expr} {k : Nat} {t : TGs} {n : Nat} (hc : X.calm = true) (h : PGs X es t) (hK : X.K = K := by rfl)
    (hn : (assignEach es X.env).length = n := by rfl) (hst : (assignEach es X.env).findIdx? (·.1) = none := by rfl) : PG X (.Tuple es k pos) (gTup K n t) := hK ▸ pg_tup hc h hn hst
end
theorem hu65 {k : Nat} {A : Around} (r : Room k A) : A.units + 65 < cLine := by have := r.un; omega
/-- the law's script -/
def scrD (ns : List Int) : D := .dict [(.none, .list (ns.map .int))]
/-- the law hands back True -/
def spLaw (K : PySem.W.Frag) : Sp := fun vs H Q _ => ∃ (a : Addr) (ns : List Int), vs = [.ref a] ∧ SqL K H a (ns.map V.int) ∧ ns.length ≤ 63 ∧ ∀ H', Q (.bl true) H'
theorem hid_nil {H : Hp} : hid [] H = H := by
  funext a
  exact hid_out (by simp)
theorem rpl_ints {c : CT} {H : Hp} : ∀ ns : List Int, RpL c H (ns.map V.int) (ns.map PyData.int)
  | [] => .nil
  | n :: ns => .cons (.int n) (rpl_ints ns)
theorem law_imp {P : Program} {w : World} {K : PySem.W.Frag} {mg : Str → Option Value} {base : Heap} {CX : CXT} {k : Nat} {f : Addr} {fd : FuncData} {ps : List Str} {m : List D → Re Rv}
    (h : FnOk P w K mg base CX k f fd ps (spP ⟨P, w, K, mg⟩ m)) (t : ∀ ns : List Int, ns.length ≤ 63 → m [scrD ns] = .ok (.da (.bool true))) : FnOk P w K mg base CX k f fd ps (spLaw K) :=
  h.imp fun vs H Q E ⟨a, ns, e, hS, hl, q⟩ => by
    subst e
    refine ⟨[], [scrD ns], fun a ha => absurd ha (by simp), .cons (.scr (by rw [hid_nil]; exact hS) (rpl_ints ns)) .nil, ?_⟩
    rw [t ns hl]
    intro v H' _ o
    cases (show Rp _ _ v (.bool true) from o).blInv
    exact q H'
theorem cx_none {P : Program} {w : World} {H : Hp} {s : Shared} {e : Value} {s' : Shared} (h : L2.CX P w [] H s (fun _ _ _ => False) e s') : False := by
  obtain ⟨_, _, _, _, _, _, _, _, _, _, _, _, z⟩ := h
  exact z
end GD

/-! GDM: data, fractions: plain facts. -/
namespace GD
open PySem L2

/-! ### data -/
def tupI (ns : List Int) : D := .tuple (ns.map .int)
def frD (q : Rat) : D := .tuple [.int q.num, .int q.den]

@[simp] theorem shaped_int (i : Int) : SeqAt.shaped (.int i) = true := rfl
@[simp] theorem shaped_bool (b : Bool) : SeqAt.shaped (.bool b) = true := rfl
@[simp] theorem shaped_none : SeqAt.shaped .none = true := rfl
@[simp] theorem eqv_int (i j : Int) : PyData.eqv (.int i) (.int j) = (i == j) := by simp [PyData.eqv]
@[simp] theorem eqv_bool (i j : Bool) : PyData.eqv (.bool i) (.bool j) = (i == j) := by simp [PyData.eqv]
@[simp] theorem eqv_none : PyData.eqv .none .none = true := by simp [PyData.eqv]
theorem canLay_ints : ∀ ns : List Int, PyData.canLayAll0 (ns.map .int) = true
  | [] => rfl
  | n :: ns => by simp [PyData.canLayAll0, PyData.canLay0, canLay_ints ns]
theorem depth_ints : ∀ ns : List Int, PyData.depthAll (ns.map .int) ≤ 1
  | [] => by simp [PyData.depthAll]
  | n :: ns => by
    have := depth_ints ns
    simp only [List.map_cons, PyData.depthAll, PyData.depth]
    exact Nat.max_le.mpr ⟨by decide, this⟩
@[simp] theorem shaped_tupI (ns : List Int) : SeqAt.shaped (tupI ns) = true := by
  have := depth_ints ns
  unfold SeqAt.shaped tupI
  simp only [PyData.canLay0, canLay_ints, Bool.true_and, decide_eq_true_eq]
  show PyData.depthAll (ns.map .int) + 1 ≤ 64
  omega
@[simp] theorem shaped_frD (q : Rat) : SeqAt.shaped (frD q) = true := by
  have := shaped_tupI [q.num, q.den]
  exact this
theorem eqvAll_ints : ∀ ns ms : List Int, PyData.eqvAll (ns.map .int) (ms.map .int) = decide (ns = ms)
  | [], [] => by simp [PyData.eqvAll]
  | [], _ :: _ => by simp [PyData.eqvAll]
  | _ :: _, [] => by simp [PyData.eqvAll]
  | n :: ns, m :: ms => by
    simp only [List.map_cons, PyData.eqvAll, eqv_int, eqvAll_ints ns ms]
    by_cases h : n = m <;> simp [h]
@[simp] theorem eqv_tupI (ns ms : List Int) : PyData.eqv (tupI ns) (tupI ms) = decide (ns = ms) := by
  unfold tupI
  simp only [PyData.eqv, eqvAll_ints]
@[simp] theorem eqv_frD (p q : Rat) : PyData.eqv (frD p) (frD q) = decide (p = q) := by
  have := eqv_tupI [p.num, p.den] [q.num, q.den]
  rw [show frD p = tupI [p.num, (p.den : Int)] from rfl, show frD q = tupI [q.num, (q.den : Int)] from rfl, this]
  refine decide_eq_decide.mpr ⟨fun h => ?_, fun h => by rw [h]⟩
  injection h with h1 h2
  injection h2 with h2 _
  exact Rat.ext h1 (by omega)
@[simp] theorem eqD_int (i j : Int) : eqD (.int i) (.int j) = some (.da (.bool (i == j))) := by simp [eqD]
@[simp] theorem neD_int (i j : Int) : neD (.int i) (.int j) = some (.da (.bool (!(i == j)))) := by simp [neD]
@[simp] theorem eqD_fr (p q : Rat) : eqD (frD p) (frD q) = some (.da (.bool (decide (p = q)))) := by simp [eqD]
@[simp] theorem neD_fr (p q : Rat) : neD (frD p) (frD q) = some (.da (.bool (!decide (p = q)))) := by simp [neD]
@[simp] theorem eqD_tupI (p q : List Int) : eqD (tupI p) (tupI q) = some (.da (.bool (decide (p = q)))) := by simp [eqD]
@[simp] theorem neD_tupI (p q : List Int) : neD (tupI p) (tupI q) = some (.da (.bool (!decide (p = q)))) := by simp [neD]
theorem frD_zero : frD 0 = .tuple [.int 0, .int 1] := rfl
theorem frD_one : frD 1 = .tuple [.int 1, .int 1] := rfl
theorem intsOf_map : ∀ ns : List Int, intsOf (ns.map .int) = some ns
  | [] => rfl
  | n :: ns => by simp [intsOf, intsOf_map ns]
theorem boolsOf_map : ∀ ns : List Bool, boolsOf (ns.map .bool) = some ns
  | [] => rfl
  | n :: ns => by simp [boolsOf, boolsOf_map ns]
theorem atI_nat' {α : Type} {xs : List α} {j : Nat} {x : α} (h : xs[j]? = some x) : L2.atI xs (j : Int) = some x := by
  unfold L2.atI L2.ixN
  have hl := (List.getElem?_eq_some_iff.mp h).1
  rw [if_pos (by omega), if_pos (by omega)]
  simpa using h

theorem at0 {α : Type} (x : α) (xs : List α) : L2.atI (x :: xs) 0 = some x := atI_nat' (j := 0) rfl
theorem at1 {α : Type} (x y : α) (xs : List α) : L2.atI (x :: y :: xs) 1 = some y := atI_nat' (j := 1) rfl
theorem at2 {α : Type} (x y z : α) (xs : List α) : L2.atI (x :: y :: z :: xs) 2 = some z := atI_nat' (j := 2) rfl
theorem at3 {α : Type} (x y z w : α) (xs : List α) : L2.atI (x :: y :: z :: w :: xs) 3 = some w := atI_nat' (j := 3) rfl
theorem fdivD_int {i j : Int} (h : 0 < j) (h2 : j.natAbs.log2 < 9000) : fdivD (.int i) (.int j) = some (.da (.int (i / j))) := if_pos ⟨h, h2⟩
theorem modD_int {i j : Int} (h : 0 < j) : modD (.int i) (.int j) = some (.da (.int (i % j))) := by
  show (if j = 0 then none else some (Rv.da (.int (i.fmod j)))) = _
  rw [if_neg (by omega), Int.fmod_eq_emod_of_nonneg _ (by omega)]
theorem mulD_int {i j : Int} (h : bigI i = false) (h2 : bigI j = false) : mulD (.int i) (.int j) = some (.da (.int (i * j))) := by
  show (if bigI i || bigI j then none else some (Rv.da (.int (i * j)))) = _
  rw [h, h2]
  rfl
theorem ixD_tup {xs : List D} {i : Int} : ixD (.tuple xs) (.int i) = (L2.atI xs i).map .da := rfl
theorem ixD_lst {xs : List D} {i : Int} : ixD (.list xs) (.int i) = (L2.atI xs i).map .da := rfl
theorem ixD_tupI {ns : List Int} {j : Nat} {x : Int} (h : ns[j]? = some x) : ixD (tupI ns) (.int j) = some (.da (.int x)) := by
  unfold tupI
  rw [ixD_tup, atI_nat' (x := PyData.int x) (by rw [List.getElem?_map, h]; rfl)]
  rfl

/-! ### sizes -/
theorem log2_lt' {n k : Nat} (h : n < 2 ^ k) (hk : 0 < k) : n.log2 < k := by
  by_cases h0 : n = 0
  · subst h0; simpa using hk
  · exact (Nat.log2_lt h0).mpr h
theorem bigI_of {i : Int} {k : Nat} (h : i.natAbs < 2 ^ k) (hk : k ≤ 400000) (h0 : 0 < k) : bigI i = false := by
  unfold bigI
  have := log2_lt' h h0
  exact decide_eq_false (by omega)
theorem bigI_small {i : Int} (h1 : -(2 ^ 64) < i) (h2 : i < 2 ^ 64) : bigI i = false := bigI_of (k := 64) (by omega) (by decide) (by decide)
/-- a fraction below 2 ^ k -/
structure Sm' (k : Nat) (q : Rat) : Prop where
  num : q.num.natAbs < 2 ^ k
  den : q.den < 2 ^ k
theorem mkRat_nd (a : Int) {d : Nat} (h : d ≠ 0) : (mkRat a d).num = a / (a.natAbs.gcd d : Nat) ∧ (mkRat a d).den = d / a.natAbs.gcd d := by
  rw [← Rat.normalize_eq_mkRat h, Rat.normalize_eq h]
  exact ⟨rfl, rfl⟩
theorem natAbs_ediv_le (a : Int) (n : Nat) : (a / (n : Int)).natAbs ≤ a.natAbs + 1 := by
  by_cases h : n = 0
  · subst h; simp
  · have hn : (0 : Int) < n := by omega
    have h1 := Int.ediv_mul_le a (b := n) (by omega)
    have h2 := Int.lt_ediv_add_one_mul_self a hn
    by_cases ha : 0 ≤ a
    · have := Int.ediv_le_self (n : Int) ha
      have := Int.ediv_nonneg ha (by omega : (0:Int) ≤ n)
      omega
    · have h3 : a / (n : Int) < 0 := Int.ediv_neg_of_neg_of_pos (by omega) hn
      have h4 : a ≤ a / (n : Int) := by
        have : (a / (n : Int)) * n ≤ a / (n : Int) := by
          have := Int.mul_le_mul_of_nonpos_left (a := a / (n : Int)) (b := (n : Int)) (c := 1) (by omega) (by omega)
          simpa using this
        have h5 : a < (a / (n : Int) + 1) * n := h2
        have h6 : (a / (n : Int) + 1) * n ≤ a / (n : Int) + 1 := by
          have := Int.mul_le_mul_of_nonpos_left (a := a / (n : Int) + 1) (b := (n : Int)) (c := 1) (by omega) (by omega)
          simpa using this
        omega
      omega
theorem mkRat_num_le (a : Int) {d : Nat} (h : d ≠ 0) : (mkRat a d).num.natAbs ≤ a.natAbs := by
  rw [(mkRat_nd a h).1]
  have hd : ((a.natAbs.gcd d : Nat) : Int) ∣ a := Int.ofNat_dvd_left.mpr (Nat.gcd_dvd_left _ _)
  rw [Int.natAbs_ediv_of_dvd hd]
  exact Nat.div_le_self _ _
theorem mkRat_den_le (a : Int) {d : Nat} (h : d ≠ 0) : (mkRat a d).den ≤ d := by
  rw [(mkRat_nd a h).2]
  exact Nat.div_le_self _ _
theorem Sm'.of {k : Nat} {a : Int} {d : Nat} (h : d ≠ 0) (h1 : a.natAbs < 2 ^ k) (h2 : d < 2 ^ k) : Sm' k (mkRat a d) := ⟨Nat.lt_of_le_of_lt (mkRat_num_le a h) h1, Nat.lt_of_le_of_lt (mkRat_den_le a h) h2⟩
theorem Sm'.mono {k l : Nat} {q : Rat} (h : Sm' k q) (e : k ≤ l) : Sm' l q := ⟨Nat.lt_of_lt_of_le h.num (Nat.pow_le_pow_right (by decide) e), Nat.lt_of_lt_of_le h.den (Nat.pow_le_pow_right (by decide) e)⟩
theorem mul_lt_pow {a b k l : Nat} (h1 : a < 2 ^ k) (h2 : b < 2 ^ l) : a * b < 2 ^ (k + l) := by
  rw [Nat.pow_add]
  exact Nat.mul_lt_mul'' h1 h2
theorem Sm'.mul {k l : Nat} {p q : Rat} (hp : Sm' k p) (hq : Sm' l q) : Sm' (k + l) (p * q) := by
  rw [Rat.mul_def']
  refine Sm'.of (Nat.mul_ne_zero p.den_nz q.den_nz) ?_ (mul_lt_pow hp.den hq.den)
  rw [Int.natAbs_mul]
  exact mul_lt_pow hp.num hq.num
theorem Sm'.add {k l : Nat} {p q : Rat} (hp : Sm' k p) (hq : Sm' l q) : Sm' (k + l + 1) (p + q) := by
  rw [Rat.add_def']
  refine Sm'.of (Nat.mul_ne_zero p.den_nz q.den_nz) ?_ ?_
  · have h1 := mul_lt_pow hp.num hq.den
    have h2 := mul_lt_pow hq.num hp.den
    have h3 : (p.num * q.den + q.num * p.den : Int).natAbs ≤ p.num.natAbs * q.den + q.num.natAbs * p.den := by
      refine Nat.le_trans (Int.natAbs_add_le _ _) ?_
      rw [Int.natAbs_mul, Int.natAbs_mul]
      simp
    rw [Nat.add_comm l k] at h2
    rw [Nat.pow_succ]
    omega
  · have := mul_lt_pow hp.den hq.den
    rw [Nat.pow_succ]
    omega
theorem Sm'.zero : Sm' 1 0 := ⟨by decide, by decide⟩
theorem Sm'.one : Sm' 1 1 := ⟨by decide, by decide⟩
theorem gcd_fmod (a b : Int) : Nat.gcd b.natAbs (a.fmod b).natAbs = Nat.gcd a.natAbs b.natAbs := by
  have h1 : Int.gcd b (a.fmod b) = Int.gcd a b := by
    rw [Int.fmod_def, Int.gcd_sub_mul_left_right, Int.gcd_comm]
  exact h1
theorem fmod_natAbs_lt (a : Int) {b : Int} (h : b ≠ 0) : (a.fmod b).natAbs < b.natAbs := by
  by_cases hb : 0 < b
  · have h1 := Int.fmod_nonneg_of_pos a hb
    have h2 := Int.fmod_lt_of_pos a hb
    omega
  · have h1 := Int.fmod_nonneg_of_pos (-a) (b := -b) (by omega)
    have h2 := Int.fmod_lt_of_pos (-a) (b := -b) (by omega)
    rw [Int.neg_fmod_neg] at h1 h2
    omega
end GD

/-! GDQ: loops and comprehensions over data; urns, rules, draws as plain functions. -/
namespace GD
open PySem L2

theorem nextS_ap (g : G) : nextS g = .nx g := rfl
theorem contS_ap (g : G) : contS g = .ct g := rfl
theorem breakS_ap (g : G) : breakS g = .bk g := rfl
theorem isiE_ap (T : String) (a : M Rv) (g : G) : isiE T a g = op1 (fun d => some (.da (.bool (isiD T d)))) a g := rfl
theorem addD_int (i j : Int) : addD (.int i) (.int j) = some (.da (.int (i + j))) := rfl
theorem addD_tup (xs ys : List D) : addD (.tuple xs) (.tuple ys) = if xs.length + ys.length ≤ 1000000 then some (.da (.tuple (xs ++ ys))) else none := rfl
theorem addD_lst (xs ys : List D) : addD (.list xs) (.list ys) = if xs.length + ys.length ≤ 1000000 then some (.fl (xs ++ ys)) else none := rfl
theorem addD_str (x y : Str) : addD (.str x) (.str y) = if x.length + y.length ≤ 1000000 then some (.da (.str (x ++ y))) else none := rfl
theorem subD_int (i j : Int) : subD (.int i) (.int j) = some (.da (.int (i - j))) := rfl
theorem negD_int (i : Int) : negD (.int i) = some (.da (.int (-i))) := rfl
theorem ltD_int (i j : Int) : ltD (.int i) (.int j) = some (.da (.bool (decide (i < j)))) := rfl
theorem leD_int (i j : Int) : leD (.int i) (.int j) = some (.da (.bool (decide (i ≤ j)))) := rfl
theorem gtD_int (i j : Int) : gtD (.int i) (.int j) = some (.da (.bool (decide (j < i)))) := rfl
theorem geD_int (i j : Int) : geD (.int i) (.int j) = some (.da (.bool (decide (j ≤ i)))) := rfl
theorem isD_none (x : D) : isD x .none = some (.da (.bool (isNoneD x))) := by unfold isD; rfl
theorem isD_bool (a b : Bool) : isD (.bool a) (.bool b) = some (.da (.bool (decide (a = b)))) := rfl
theorem isNotD_none (x : D) : isNotD x .none = some (.da (.bool (!isNoneD x))) := by unfold isNotD; rfl
theorem isNotD_bool (a b : Bool) : isNotD (.bool a) (.bool b) = some (.da (.bool (!decide (a = b)))) := rfl
theorem isNoneD_none  : isNoneD .none = true := rfl
theorem isNoneD_bool (b : Bool) : isNoneD (.bool b) = false := rfl
theorem isNoneD_int (i : Int) : isNoneD (.int i) = false := rfl
theorem isNoneD_str (z : Str) : isNoneD (.str z) = false := rfl
theorem isNoneD_list (xs : List D) : isNoneD (.list xs) = false := rfl
theorem isNoneD_tuple (xs : List D) : isNoneD (.tuple xs) = false := rfl
theorem isNoneD_dict (xs : List (D × D)) : isNoneD (.dict xs) = false := rfl
theorem lenD_lst (xs : List D) : lenD [.list xs] = some (.da (.int xs.length)) := rfl
theorem lenD_tup (xs : List D) : lenD [.tuple xs] = some (.da (.int xs.length)) := rfl
theorem absD_int (i : Int) : absD [.int i] = some (.da (.int (if i < 0 then -i else i))) := rfl
theorem intD_int (i : Int) : intD [.int i] = some (.da (.int i)) := rfl
theorem intD_bool (k : Bool) : intD [.bool k] = some (.da (.int (if k then 1 else 0))) := rfl
theorem tupleD_lst (xs : List D) : tupleD [.list xs] = some (.da (.tuple xs)) := rfl
theorem tupleD_tup (xs : List D) : tupleD [.tuple xs] = some (.da (.tuple xs)) := rfl
theorem listD_lst (xs : List D) : listD [.list xs] = some (.fl xs) := rfl
theorem listD_tup (xs : List D) : listD [.tuple xs] = some (.fl xs) := rfl
theorem itemsOf_lst (xs : List D) : itemsOf (.list xs) = some xs := rfl
theorem itemsOf_tup (xs : List D) : itemsOf (.tuple xs) = some xs := rfl
theorem zipD_lst (xs ys : List D) : zipD [.list xs, .list ys] = some ((xs.zip ys).map fun p => .tuple [p.1, p.2]) := rfl
theorem zipD_tup (xs ys : List D) : zipD [.tuple xs, .tuple ys] = some ((xs.zip ys).map fun p => .tuple [p.1, p.2]) := rfl
theorem maxD_int (i j : Int) : maxD [.int i, .int j] = some (.da (.int (if j > i then j else i))) := rfl
theorem minD_int (i j : Int) : minD [.int i, .int j] = some (.da (.int (if j < i then j else i))) := rfl
theorem slD_tup (xs : List D) (lo hi : Option Int) : slD (.tuple xs) lo hi = some (.da (.tuple (cutD xs lo hi))) := rfl
theorem slD_lst (xs : List D) (lo hi : Option Int) : slD (.list xs) lo hi = some (.fl (cutD xs lo hi)) := rfl
theorem pow_10_18  : powD (.int 10) (.int 18) = some (.da (.int 1000000000000000000)) := rfl
theorem itemsOf_tupI (ns : List Int) : itemsOf (tupI ns) = some (ns.map .int) := rfl
theorem seq_eq {a b : G → SR} {g g1 : G} {r : SR} (h1 : a g = .nx g1) (h2 : b g1 = r) : seqS a b g = r := by
  unfold seqS
  rw [h1]
  exact h2
theorem seq_rt {a b : G → SR} {g g1 : G} {v : Rv} (h1 : a g = .rt v g1) : seqS a b g = .rt v g1 := by
  unfold seqS
  rw [h1]
theorem seq_ct {a b : G → SR} {g g1 : G} (h1 : a g = .ct g1) : seqS a b g = .ct g1 := by
  unfold seqS
  rw [h1]
theorem for_eq {it : M (List D)} {T : Rv → G → Re G} {b : G → SR} {g g1 : G} {ds : List D} {r : SR} (h1 : it g = .ok (ds, g1)) (h2 : forD T b ds g1 = r) : forS it T b g = r := by
  unfold forS
  rw [h1]
  exact h2
theorem run_rt {n m : Nat} {fb : G → SR} {ds : List D} {r : Rv} {g : G} (h : ds.length = n) (h2 : fb (ds.map .da ++ List.replicate (m - n) .un) = .rt r g) : runP n m fb ds = .ok r := by
  unfold runP
  rw [if_pos h, h2]
/-! ### loops -/
theorem for_inv {T : Rv → G → Re G} {b : G → SR} (I : Nat → G → Prop) : ∀ (ds : List D) (i : Nat) (g : G), I i g →
    (∀ j d g, ds[j]? = some d → I (i + j) g → ∃ g1, T (.da d) g = .ok g1 ∧ ∃ g2, (b g1 = .nx g2 ∨ b g1 = .ct g2) ∧ I (i + j + 1) g2) →
    ∃ g', forD T b ds g = .nx g' ∧ I (i + ds.length) g'
  | [], i, g, h, _ => ⟨g, rfl, h⟩
  | d :: ds, i, g, h, st => by
    obtain ⟨g1, e1, g2, e2, h2⟩ := st 0 d g rfl h
    obtain ⟨g', e3, h3⟩ := for_inv I ds (i + 1) g2 h2 (fun j d' g' hj hg => by
      have := st (j + 1) d' g' (by simpa using hj) (by rwa [show i + (j + 1) = i + 1 + j by omega])
      rwa [show i + (j + 1) + 1 = i + 1 + j + 1 by omega] at this)
    refine ⟨g', ?_, by rw [List.length_cons, show i + (ds.length + 1) = i + 1 + ds.length by omega]; exact h3⟩
    unfold forD
    simp only [e1]
    rcases e2 with e2 | e2 <;> simp only [e2] <;> exact e3
theorem comp_map {j : Nat} {te : M Rv} {h : D → D} {g : G} (hg : g.set j .un = g) : ∀ ds : List D, (∀ d ∈ ds, ∃ r, te (g.set j (.da d)) = .ok (r, g.set j (.da d)) ∧ rawOf r = some (h d)) → compD (cgN j) yesT te [j] ds g = some (ds.map h, g)
  | [], _ => rfl
  | d :: ds, H => by
    obtain ⟨r, e1, e2⟩ := H d (by simp)
    unfold compD
    simp only [cgN, yesT, if_true, e1, e2, wipeG]
    have : (g.set j (.da d)).set j .un = g := by rw [List.set_set]; exact hg
    have ih := comp_map (te := te) (h := h) hg ds (fun d hd => H d (by simp [hd]))
    rw [this, ih]
    rfl
theorem comp_map2 {i j : Nat} {te : M Rv} {h : D × D → D} {g : G} (hg : ((g.set j .un).set i .un) = g) (ij : i ≠ j) : ∀ ps : List (D × D), (∀ p ∈ ps, ∃ r, te ((g.set i (.da p.1)).set j (.da p.2)) = .ok (r, (g.set i (.da p.1)).set j (.da p.2)) ∧ rawOf r = some (h p)) →
    compD (cgT [cgN i, cgN j]) yesT te [i, j] (ps.map fun p => .tuple [p.1, p.2]) g = some (ps.map h, g)
  | [], _ => rfl
  | d :: ds, H => by
    obtain ⟨r, e1, e2⟩ := H d (by simp)
    rw [List.map_cons]
    unfold compD
    simp only [cgT, cgs, cgN, yesT, if_true, e1, e2, wipeG, Option.bind_some]
    have : ((((g.set i (.da d.1)).set j (.da d.2)).set j .un).set i .un) = g := by
      rw [List.set_set, List.set_comm _ _ ij.symm, List.set_set, List.set_comm _ _ ij]
      exact hg
    have ih := comp_map2 (te := te) (h := h) hg ij ds (fun d hd => H d (by simp [hd]))
    rw [this, ih]
    rfl
/-- a comprehension that changes the slots -/
theorem comp_inv {j : Nat} {te : M Rv} (I : G → Prop) (P : D → Prop) : ∀ (ds : List D) (g : G), I g → (∀ d ∈ ds, ∀ g, I g → ∃ r g2 y, te (g.set j (.da d)) = .ok (r, g2) ∧ rawOf r = some y ∧ P y ∧ I (g2.set j .un)) →
    ∃ ys g', compD (cgN j) yesT te [j] ds g = some (ys, g') ∧ ys.length = ds.length ∧ (∀ y ∈ ys, P y) ∧ I g'
  | [], g, h, _ => ⟨[], g, rfl, rfl, by simp, h⟩
  | d :: ds, g, h, H => by
    obtain ⟨r, g2, y, e1, e2, p, h2⟩ := H d (by simp) g h
    obtain ⟨ys, g', e3, l, q, h3⟩ := comp_inv I P ds (g2.set j .un) h2 (fun d hd => H d (by simp [hd]))
    refine ⟨y :: ys, g', ?_, by simp [l], ?_, h3⟩
    · unfold compD
      simp only [cgN, yesT, if_true, e1, e2, wipeG]
      rw [e3]
      rfl
    · intro z hz
      rcases List.mem_cons.mp hz with hz | hz
      · rw [hz]; exact p
      · exact q z hz
theorem lc_map {it : M (List D)} {j : Nat} {te : M Rv} {h : D → D} {g g1 : G} {ds : List D} (hi : it g = .ok (ds, g1)) (l : ds.length ≤ 1000000)
    (H : ∀ d ∈ ds, ∃ r, te ((g1.set j .un).set j (.da d)) = .ok (r, (g1.set j .un).set j (.da d)) ∧ rawOf r = some (h d)) :
    lcE it (cgN j) yesT te [j] g = .ok (.fl (ds.map h), g1.set j .un) := by
  unfold lcE
  simp only [hi, Re.ok_bind, if_pos l, wipeG]
  rw [comp_map (h := h) (by rw [List.set_set]) ds H]
  rfl
theorem wipe2 (g : G) {i j : Nat} (ij : i ≠ j) : ((((g.set j Sl.un).set i .un).set j .un).set i .un) = (g.set j .un).set i .un := by
  conv => lhs; rw [List.set_comm _ _ ij.symm, List.set_set, List.set_comm _ _ ij, List.set_set]
theorem lc_map2 {it : M (List D)} {i j : Nat} {te : M Rv} {h : D × D → D} {g g1 : G} {ps : List (D × D)} (ij : i ≠ j) (hi : it g = .ok (ps.map fun p => .tuple [p.1, p.2], g1)) (l : ps.length ≤ 1000000)
    (H : ∀ p ∈ ps, ∃ r, te (((g1.set j .un).set i (.da p.1)).set j (.da p.2)) = .ok (r, ((g1.set j .un).set i (.da p.1)).set j (.da p.2)) ∧ rawOf r = some (h p)) :
    lcE it (cgT [cgN i, cgN j]) yesT te [i, j] g = .ok (.fl (ps.map h), (g1.set j .un).set i .un) := by
  unfold lcE
  simp only [hi, Re.ok_bind, List.length_map, if_pos l, wipeG]
  have hH : ∀ p ∈ ps, ∃ r, te (((((g1.set j .un).set i .un).set i (.da p.1)).set j (.da p.2))) = .ok (r, ((((g1.set j .un).set i .un).set i (.da p.1)).set j (.da p.2))) ∧ rawOf r = some (h p) := by
    intro p hp
    rw [List.set_set]
    exact H p hp
  rw [comp_map2 (h := h) (g := (g1.set j .un).set i .un) (wipe2 g1 ij) ij ps hH]
  rfl
theorem lc_inv {it : M (List D)} {j : Nat} {te : M Rv} {g g1 : G} {ds : List D} (I : G → Prop) (P : D → Prop) (hi : it g = .ok (ds, g1)) (l : ds.length ≤ 1000000) (h0 : I (g1.set j .un))
    (H : ∀ d ∈ ds, ∀ g, I g → ∃ r g2 y, te (g.set j (.da d)) = .ok (r, g2) ∧ rawOf r = some y ∧ P y ∧ I (g2.set j .un)) :
    ∃ ys g', lcE it (cgN j) yesT te [j] g = .ok (.fl ys, g') ∧ ys.length = ds.length ∧ (∀ y ∈ ys, P y) ∧ I g' := by
  obtain ⟨ys, g', e, a, b, h⟩ := comp_inv (te := te) I P ds (g1.set j .un) h0 H
  refine ⟨ys, g', ?_, a, b, h⟩
  unfold lcE
  simp only [hi, Re.ok_bind, if_pos l, wipeG, e]
  rfl

/-! ### looks -/
def whole : D → Bool
  | .int _ => true
  | _ => false
def btw : D → Int → Int → Bool
  | .int x, a, b => decide (a ≤ x) && decide (x ≤ b)
  | _, _, _ => false
def iv : D → Int
  | .int x => x
  | _ => 0
def isTup : D → Bool
  | .tuple _ => true
  | _ => false
def isWB : D → Bool
  | .int _ => true
  | .bool _ => true
  | _ => false
def isB : D → Bool
  | .bool _ => true
  | _ => false
def isStr : D → Bool
  | .str _ => true
  | _ => false
def isLst : D → Bool
  | .list _ => true
  | .dict [(.none, .list _)] => true
  | _ => false
theorem isTup_none : isTup .none = false := rfl
theorem isTup_bool (b : Bool) : isTup (.bool b) = false := rfl
theorem isTup_int (i : Int) : isTup (.int i) = false := rfl
theorem isTup_str (z : Str) : isTup (.str z) = false := rfl
theorem isTup_list (xs : List D) : isTup (.list xs) = false := rfl
theorem isTup_tuple (xs : List D) : isTup (.tuple xs) = true := rfl
theorem isTup_dict (xs : List (D × D)) : isTup (.dict xs) = false := rfl
theorem isWB_none : isWB .none = false := rfl
theorem isWB_bool (b : Bool) : isWB (.bool b) = true := rfl
theorem isWB_int (i : Int) : isWB (.int i) = true := rfl
theorem isWB_str (z : Str) : isWB (.str z) = false := rfl
theorem isWB_list (xs : List D) : isWB (.list xs) = false := rfl
theorem isWB_tuple (xs : List D) : isWB (.tuple xs) = false := rfl
theorem isWB_dict (xs : List (D × D)) : isWB (.dict xs) = false := rfl
theorem isB_none : isB .none = false := rfl
theorem isB_bool (b : Bool) : isB (.bool b) = true := rfl
theorem isB_int (i : Int) : isB (.int i) = false := rfl
theorem isB_str (z : Str) : isB (.str z) = false := rfl
theorem isB_list (xs : List D) : isB (.list xs) = false := rfl
theorem isB_tuple (xs : List D) : isB (.tuple xs) = false := rfl
theorem isB_dict (xs : List (D × D)) : isB (.dict xs) = false := rfl
theorem isStr_none : isStr .none = false := rfl
theorem isStr_bool (b : Bool) : isStr (.bool b) = false := rfl
theorem isStr_int (i : Int) : isStr (.int i) = false := rfl
theorem isStr_str (z : Str) : isStr (.str z) = true := rfl
theorem isStr_list (xs : List D) : isStr (.list xs) = false := rfl
theorem isStr_tuple (xs : List D) : isStr (.tuple xs) = false := rfl
theorem isStr_dict (xs : List (D × D)) : isStr (.dict xs) = false := rfl
theorem isLst_none : isLst .none = false := rfl
theorem isLst_bool (b : Bool) : isLst (.bool b) = false := rfl
theorem isLst_int (i : Int) : isLst (.int i) = false := rfl
theorem isLst_str (z : Str) : isLst (.str z) = false := rfl
theorem isLst_list (xs : List D) : isLst (.list xs) = true := rfl
theorem isLst_tuple (xs : List D) : isLst (.tuple xs) = false := rfl
theorem isi_tuple (d : D) : isiD "tuple" d = isTup d := by
  cases d <;> try rfl
  unfold isiD; split <;> first | rfl | simp_all
theorem isi_int (d : D) : isiD "int" d = isWB d := by
  cases d <;> try rfl
  unfold isiD; split <;> first | rfl | simp_all
theorem isi_bool (d : D) : isiD "bool" d = isB d := by
  cases d <;> try rfl
  unfold isiD; split <;> first | rfl | simp_all
theorem isi_str (d : D) : isiD "str" d = isStr d := by
  cases d <;> try rfl
  unfold isiD; split <;> first | rfl | simp_all
theorem isi_list (d : D) : isiD "list" d = isLst d := by
  cases d <;> try rfl
  unfold isiD isLst; split <;> split <;> first | rfl | grind
def isUrn : D → Bool
  | .tuple xs => (decide (1 ≤ (xs.length : Int)) && decide ((xs.length : Int) ≤ 4)) && (xs.all (btw · 0 20) && decide (0 < (xs.map iv).sum))
  | _ => false
def isLine (k : Int) : D → Bool
  | .tuple xs => decide ((xs.length : Int) = k) && xs.all (btw · 0 5)
  | _ => false
def isRuleOf (k : Int) : D → Bool
  | .tuple ls => decide ((ls.length : Int) = k) && ls.all (isLine k)
  | _ => false
theorem intsOf_btw {a b : Int} : ∀ {xs : List D}, xs.all (btw · a b) = true → intsOf xs = some (xs.map iv) ∧ xs = (xs.map iv).map .int
  | [], _ => ⟨rfl, rfl⟩
  | x :: xs, h => by
    simp only [List.all_cons, Bool.and_eq_true] at h
    obtain ⟨h1, h2⟩ := intsOf_btw h.2
    cases x with
    | int i => exact ⟨by simp only [intsOf, h1, List.map_cons, iv, Option.map_some], by simp only [List.map_cons, iv]; rw [← h2]⟩
    | _ => simp [btw] at h
theorem boolsOf_fn {α : Type} (f : α → Bool) : ∀ xs : List α, boolsOf (xs.map fun x => .bool (f x)) = some (xs.map f)
  | [] => rfl
  | x :: xs => by simp only [List.map_cons, boolsOf, boolsOf_fn f xs, Option.map_some]
theorem allD_fn {α : Type} (f : α → Bool) (xs : List α) : allD [.list (xs.map fun x => .bool (f x))] = some (.da (.bool (xs.all f))) := by
  show (boolsOf _).map _ = _
  rw [boolsOf_fn]
  simp [List.all_map]
theorem anyD_fn {α : Type} (f : α → Bool) (xs : List α) : anyD [.list (xs.map fun x => .bool (f x))] = some (.da (.bool (xs.any f))) := by
  show (boolsOf _).map _ = _
  rw [boolsOf_fn]
  simp [List.any_map]
@[simp] theorem isTupI (ns : List Int) : isTup (tupI ns) = true := rfl

/-! ### urns -/
structure Urn (b : Int) (u : List Int) : Prop where
  l1 : 1 ≤ u.length
  l4 : u.length ≤ 4
  all : ∀ x ∈ u, 0 ≤ x ∧ x ≤ b
  pos : 0 < u.sum
structure Rule (n : Nat) (b : Int) (r : List (List Int)) : Prop where
  len : r.length = n
  row : ∀ l ∈ r, l.length = n ∧ ∀ x ∈ l, 0 ≤ x ∧ x ≤ b
def ruleD (r : List (List Int)) : D := .tuple (r.map tupI)
def sh (u : List Int) (k : Nat) : Rat := (u.getD k 0 : Int) / (u.sum : Int)
def put (u : List Int) (r : List (List Int)) (k : Nat) : List Int := List.zipWith (· + ·) u (r.getD k [])
def goQ (r : List (List Int)) : List Nat → Rat → List Int → Rat × List Int
  | [], q, u => (q, u)
  | k :: ks, q, u => goQ r ks (q * sh u k) (put u r k)
def cq (u : List Int) (r : List (List Int)) (ks : List Nat) : Rat := (goQ r ks 1 u).1
def bh (u : List Int) (r : List (List Int)) (ks : List Nat) : List Int := (goQ r ks 1 u).2
theorem goQ_eq (r : List (List Int)) : ∀ (ks : List Nat) (q : Rat) (u : List Int), goQ r ks q u = (q * cq u r ks, bh u r ks)
  | [], q, u => by simp [goQ, cq, bh, Rat.mul_one]
  | k :: ks, q, u => by
    have h1 := goQ_eq r ks (q * sh u k) (put u r k)
    have h2 := goQ_eq r ks (1 * sh u k) (put u r k)
    have h3 : cq u r (k :: ks) = sh u k * cq (put u r k) r ks := by show (goQ r ks (1 * sh u k) (put u r k)).1 = _; rw [h2, Rat.one_mul]
    have h4 : bh u r (k :: ks) = bh (put u r k) r ks := by show (goQ r ks (1 * sh u k) (put u r k)).2 = _; rw [h2]
    rw [h3, h4, goQ, h1, Rat.mul_assoc]
@[simp] theorem cq_nil (u : List Int) (r : List (List Int)) : cq u r [] = 1 := rfl
@[simp] theorem bh_nil (u : List Int) (r : List (List Int)) : bh u r [] = u := rfl
theorem cq_cons (u : List Int) (r : List (List Int)) (k : Nat) (ks : List Nat) : cq u r (k :: ks) = sh u k * cq (put u r k) r ks := by
  show (goQ r ks (1 * sh u k) (put u r k)).1 = _
  rw [goQ_eq, Rat.one_mul]
theorem bh_cons (u : List Int) (r : List (List Int)) (k : Nat) (ks : List Nat) : bh u r (k :: ks) = bh (put u r k) r ks := by
  show (goQ r ks (1 * sh u k) (put u r k)).2 = _
  rw [goQ_eq]
theorem cq_app (r : List (List Int)) (k : Nat) : ∀ (ks : List Nat) (u : List Int), cq u r (ks ++ [k]) = cq u r ks * sh (bh u r ks) k
  | [], u => by simp [cq_cons, Rat.mul_one, Rat.one_mul]
  | j :: ks, u => by rw [List.cons_append, cq_cons, cq_app r k ks, cq_cons, bh_cons, Rat.mul_assoc]
theorem bh_app (r : List (List Int)) (k : Nat) : ∀ (ks : List Nat) (u : List Int), bh u r (ks ++ [k]) = put (bh u r ks) r k
  | [], u => by simp [bh_cons]
  | j :: ks, u => by rw [List.cons_append, bh_cons, bh_app r k ks, bh_cons]
theorem sum_le {b : Int} : ∀ {u : List Int}, (∀ x ∈ u, 0 ≤ x ∧ x ≤ b) → 0 ≤ u.sum ∧ u.sum ≤ b * u.length
  | [], _ => by simp
  | x :: u, h => by
    have h1 := h x (by simp)
    have h2 := sum_le (u := u) (fun y hy => h y (by simp [hy]))
    simp only [List.sum_cons, List.length_cons]
    rw [show ((u.length + 1 : Nat) : Int) = (u.length : Int) + 1 by omega, Int.mul_add, Int.mul_one]
    omega
theorem put_len {u : List Int} {r : List (List Int)} {k n : Nat} {b : Int} (hr : Rule n b r) (hu : u.length = n) (hk : k < n) : (put u r k).length = n := by
  have hk' : k < r.length := by rw [hr.len]; exact hk
  have e : r.getD k [] = r[k] := by simp [List.getD, List.getElem?_eq_getElem hk']
  have h := hr.row r[k] (List.getElem_mem hk')
  unfold put
  rw [e, List.length_zipWith, h.1]
  omega
theorem zipadd_all {a b : Int} : ∀ {u l : List Int}, (∀ x ∈ u, 0 ≤ x ∧ x ≤ a) → (∀ x ∈ l, 0 ≤ x ∧ x ≤ b) → ∀ x ∈ List.zipWith (· + ·) u l, 0 ≤ x ∧ x ≤ a + b
  | [], _, _, _, x, hx => by simp at hx
  | _ :: _, [], _, _, x, hx => by simp at hx
  | y :: u, z :: l, h1, h2, x, hx => by
    have a1 := h1 y (by simp)
    have a2 := h2 z (by simp)
    rw [List.zipWith_cons_cons] at hx
    rcases List.mem_cons.mp hx with hx | hx
    · omega
    · exact zipadd_all (fun x hx => h1 x (by simp [hx])) (fun x hx => h2 x (by simp [hx])) x hx
theorem zipadd_sum : ∀ {u l : List Int}, u.length = l.length → (List.zipWith (· + ·) u l).sum = u.sum + l.sum
  | [], [], _ => rfl
  | [], _ :: _, h => by simp at h
  | _ :: _, [], h => by simp at h
  | y :: u, z :: l, h => by
    rw [List.zipWith_cons_cons, List.sum_cons, List.sum_cons, List.sum_cons, zipadd_sum (by simpa using h)]
    omega
theorem put_urn {u : List Int} {r : List (List Int)} {k n : Nat} {a b : Int} (hr : Rule n b r) (hu : Urn a u) (hl : u.length = n) (hk : k < n) : Urn (a + b) (put u r k) := by
  have hk' : k < r.length := by rw [hr.len]; exact hk
  have e : r.getD k [] = r[k] := by simp [List.getD, List.getElem?_eq_getElem hk']
  have h := hr.row r[k] (List.getElem_mem hk')
  refine ⟨?_, ?_, ?_, ?_⟩
  · rw [put_len hr hl hk, ← hl]; exact hu.l1
  · rw [put_len hr hl hk, ← hl]; exact hu.l4
  · unfold put
    rw [e]
    exact zipadd_all hu.all h.2
  · unfold put
    rw [e, zipadd_sum (by rw [hl, h.1])]
    have := hu.pos
    have := (sum_le h.2).1
    omega
theorem Urn.mono {a b : Int} {u : List Int} (h : Urn a u) (e : a ≤ b) : Urn b u := ⟨h.l1, h.l4, fun x hx => ⟨(h.all x hx).1, by have := (h.all x hx).2; omega⟩, h.pos⟩
theorem Rule.mono {a b : Int} {n : Nat} {r : List (List Int)} (h : Rule n a r) (e : a ≤ b) : Rule n b r := ⟨h.len, fun l hl => ⟨(h.row l hl).1, fun x hx => ⟨((h.row l hl).2 x hx).1, by have := ((h.row l hl).2 x hx).2; omega⟩⟩⟩
theorem btw_all {b : Int} : ∀ {u : List Int}, (∀ x ∈ u, 0 ≤ x ∧ x ≤ b) → (u.map PyData.int).all (btw · 0 b) = true
  | [], _ => rfl
  | x :: u, h => by
    have h1 := h x (by simp)
    simp only [List.map_cons, List.all_cons, Bool.and_eq_true]
    exact ⟨by simp [btw, h1], btw_all fun y hy => h y (by simp [hy])⟩
theorem map_iv (u : List Int) : (u.map PyData.int).map iv = u := by
  rw [List.map_map]
  simp [Function.comp_def, iv]
theorem isUrn_of {b : Int} {u : List Int} (h : Urn b u) (e : b ≤ 20) : isUrn (tupI u) = true := by
  unfold isUrn tupI
  simp only [List.length_map, map_iv, btw_all (h.mono e).all]
  have h1 := h.l1
  have h2 := h.l4
  have h3 := h.pos
  simp only [Bool.and_eq_true, decide_eq_true_eq]
  exact ⟨⟨by omega, by omega⟩, trivial, h3⟩
theorem isRule_of {n : Nat} {b : Int} {r : List (List Int)} (h : Rule n b r) (e : b ≤ 5) : isRuleOf n (ruleD r) = true := by
  unfold isRuleOf ruleD
  simp only [List.length_map, h.len, List.all_map, Bool.and_eq_true, decide_eq_true_eq, List.all_eq_true]
  refine ⟨trivial, fun l hl => ?_⟩
  have h1 := (h.mono e).row l hl
  show isLine n (tupI l) = true
  unfold isLine tupI
  simp only [List.length_map, h1.1, btw_all h1.2]
  simp
theorem Rule.getRow {n : Nat} {b : Int} {r : List (List Int)} (h : Rule n b r) {k : Nat} (hk : k < n) : r[k]? = some (r.getD k []) ∧ (r.getD k []).length = n ∧ ∀ x ∈ r.getD k [], 0 ≤ x ∧ x ≤ b := by
  have hk' : k < r.length := by rw [h.len]; exact hk
  have e : r.getD k [] = r[k] := by simp [List.getD, List.getElem?_eq_getElem hk']
  have h2 := h.row r[k] (List.getElem_mem hk')
  rw [e]
  exact ⟨List.getElem?_eq_getElem hk', h2⟩
theorem getD_all {b : Int} (hb : 0 ≤ b) {u : List Int} (h : ∀ x ∈ u, 0 ≤ x ∧ x ≤ b) (k : Nat) : 0 ≤ u.getD k 0 ∧ u.getD k 0 ≤ b := by
  by_cases hk : k < u.length
  · have e : u.getD k 0 = u[k] := by simp [List.getD, List.getElem?_eq_getElem hk]
    rw [e]
    exact h _ (List.getElem_mem hk)
  · have e : u.getD k 0 = 0 := by simp [List.getD, List.getElem?_eq_none (by omega : u.length ≤ k)]
    rw [e]; omega
theorem getD_some {u : List Int} {k : Nat} (h : k < u.length) : u[k]? = some (u.getD k 0) := by
  simp [List.getD, List.getElem?_eq_getElem h]
theorem mkRat_div (a : Int) {b : Int} (h : 0 < b) : mkRat a b.toNat = (a : Rat) / (b : Rat) := by
  rw [Rat.mkRat_eq_div]
  congr 1
  have : ((b.toNat : Nat) : Int) = b := by omega
  rw [← Rat.intCast_natCast, this]
theorem Sm'.div {k : Nat} {a b : Int} (h : 0 < b) (h1 : a.natAbs < 2 ^ k) (h2 : b.natAbs < 2 ^ k) : Sm' k ((a : Rat) / (b : Rat)) := by
  rw [← mkRat_div a h]
  exact Sm'.of (by omega) h1 (by omega)
theorem sh_sm {u : List Int} {b : Int} (h : Urn b u) (hb : b ≤ 120) (k : Nat) : Sm' 9 (sh u k) := by
  have h1 := getD_all (b := b) (by have := h.l1; obtain ⟨x, hx⟩ : ∃ x, x ∈ u := List.exists_mem_of_length_pos (by omega); have := h.all x hx; omega) h.all k
  have h2 := sum_le h.all
  have h3 : b * (u.length : Int) ≤ 120 * 4 := Int.mul_le_mul hb (by have := h.l4; omega) (by omega) (by omega)
  exact Sm'.div h.pos (by omega) (by have := h.pos; omega)
theorem cq_sm {r : List (List Int)} {n : Nat} {c : Int} (hr : Rule n c r) (hc : 0 ≤ c) : ∀ (ks : List Nat) (u : List Int) (b : Int), Urn b u → u.length = n → (∀ k ∈ ks, k < n) → b + c * ks.length ≤ 120 → Sm' (9 * ks.length + 1) (cq u r ks)
  | [], u, b, _, _, _, _ => Sm'.one
  | k :: ks, u, b, hu, hl, hk, hb => by
    rw [cq_cons]
    have e : b + c + c * (ks.length : Int) = b + c * ((k :: ks).length : Int) := by
      rw [List.length_cons, show ((ks.length + 1 : Nat) : Int) = (ks.length : Int) + 1 by omega, Int.mul_add, Int.mul_one]; omega
    have p : 0 ≤ c * (ks.length : Int) := Int.mul_nonneg hc (by omega)
    have h1 := cq_sm hr hc ks (put u r k) (b + c) (put_urn hr hu hl (hk k (by simp))) (put_len hr hl (hk k (by simp))) (fun j hj => hk j (by simp [hj])) (by omega)
    have h2 := sh_sm hu (by omega) k
    have := h2.mul h1
    rw [List.length_cons, show 9 * (ks.length + 1) + 1 = 9 + (9 * ks.length + 1) by omega]
    exact this
theorem bh_urn {r : List (List Int)} {n : Nat} {c : Int} (hr : Rule n c r) : ∀ (ks : List Nat) (u : List Int) (b : Int), Urn b u → u.length = n → (∀ k ∈ ks, k < n) → Urn (b + c * ks.length) (bh u r ks) ∧ (bh u r ks).length = n
  | [], u, b, hu, hl, _ => ⟨by simpa using hu, hl⟩
  | k :: ks, u, b, hu, hl, hk => by
    rw [bh_cons]
    have h1 := bh_urn hr ks (put u r k) (b + c) (put_urn hr hu hl (hk k (by simp))) (put_len hr hl (hk k (by simp))) (fun j hj => hk j (by simp [hj]))
    have e : b + c + c * (ks.length : Int) = b + c * ((k :: ks).length : Int) := by
      rw [List.length_cons, show ((ks.length + 1 : Nat) : Int) = (ks.length : Int) + 1 by omega, Int.mul_add, Int.mul_one]; omega
    rw [e] at h1
    exact h1
theorem sh_zero {u : List Int} {b : Int} (hu : Urn b u) (k : Nat) : sh u k = 0 ↔ u.getD k 0 = 0 := by
  unfold sh
  have h := hu.pos
  have h2 : ((u.sum : Int) : Rat) ≠ 0 := by
    intro h3
    have := Rat.intCast_eq_zero_iff.mp h3
    omega
  constructor
  · intro h3
    have h4 : ((u.getD k 0 : Int) : Rat) = 0 := by
      have := Rat.div_mul_cancel h2 (a := ((u.getD k 0 : Int) : Rat))
      rw [h3, Rat.zero_mul] at this
      exact this.symm
    exact Rat.intCast_eq_zero_iff.mp h4
  · intro h3
    rw [h3, Rat.intCast_zero, Rat.div_def, Rat.zero_mul]
theorem lenD_tupI (u : List Int) : lenD [tupI u] = some (.da (.int u.length)) := by
  show some (Rv.da (.int ((u.map PyData.int).length : Nat))) = _
  rw [List.length_map]
theorem sumD_tupI (u : List Int) : sumD [tupI u] = some (.da (.int u.sum)) := by
  show (intsOf (u.map .int)).map _ = _
  rw [intsOf_map]
  rfl
theorem ixD_rule {r : List (List Int)} {j : Nat} {x : List Int} (h : r[j]? = some x) : ixD (ruleD r) (.int j) = some (.da (tupI x)) := by
  unfold ruleD
  rw [ixD_tup, atI_nat' (x := tupI x) (by rw [List.getElem?_map, h]; rfl)]
  rfl
def drD (ks : List Nat) : D := .tuple (ks.map fun k : Nat => .int k)
theorem lenD_drD (u : List Nat) : lenD [drD u] = some (.da (.int u.length)) := by
  show some (Rv.da (.int ((u.map fun k : Nat => PyData.int k).length : Nat))) = _
  rw [List.length_map]
theorem lt64_8000 {b : Int} (h : b < 2 ^ 64) : b < 2 ^ 8000 := by
  have h1 : (2 : Nat) ^ 64 ≤ 2 ^ 8000 := Nat.pow_le_pow_right (by decide) (by decide)
  have h2 : ((2 ^ 64 : Nat) : Int) ≤ ((2 ^ 8000 : Nat) : Int) := Int.ofNat_le.mpr h1
  rw [Int.natCast_pow, Int.natCast_pow] at h2
  exact Int.lt_of_lt_of_le h h2
def Val (ds : List D) : Prop := ∃ s b, ds = [.int s, .bool b] ∧ (b = true ∨ (0 ≤ s ∧ s < 2147483647))
theorem modD_nz {i j : Int} (h : j ≠ 0) : modD (.int i) (.int j) = some (.da (.int (i.fmod j))) := if_neg h
theorem mulD_sm {i j : Int} (h1 : i.natAbs < 2 ^ 128) (h2 : j.natAbs < 2 ^ 128) : mulD (.int i) (.int j) = some (.da (.int (i * j))) :=
  mulD_int (bigI_of h1 (by decide) (by decide)) (bigI_of h2 (by decide) (by decide))
theorem put_map {u l : List Int} : ((u.map PyData.int).zip (l.map PyData.int)).map (fun p => PyData.int (iv p.1 + iv p.2)) = (List.zipWith (· + ·) u l).map .int := by
  rw [List.zip_map, List.map_map, List.map_zipWith, List.zip, List.map_zipWith]
  rfl
theorem rng_nat {n : Nat} (h : n ≤ 1000000) : rngD [.da (.int n)] = some ((List.range n).map fun i : Nat => .int i) := by
  show (if _ then some ((List.range (n : Int).toNat).map fun i : Nat => PyData.int i) else none) = _
  rw [if_pos (by omega)]
  rfl
theorem sumD_lst (u : List Int) : sumD [.list (u.map .int)] = some (.da (.int u.sum)) := by
  show (intsOf (u.map .int)).map _ = _
  rw [intsOf_map]
  rfl
theorem ys_nats {b : Int} : ∀ {ys : List D}, (∀ y ∈ ys, ∃ x : Nat, y = .int x ∧ (x : Int) < b) → ∃ ks : List Nat, ys = ks.map (fun k : Nat => .int k) ∧ ks.length = ys.length ∧ ∀ k ∈ ks, (k : Int) < b
  | [], _ => ⟨[], rfl, rfl, by simp⟩
  | y :: ys, h => by
    obtain ⟨x, rfl, hx⟩ := h y (by simp)
    obtain ⟨ks, rfl, _, h2⟩ := ys_nats (ys := ys) (fun z hz => h z (by simp [hz]))
    exact ⟨x :: ks, rfl, by simp, by simpa using ⟨hx, h2⟩⟩
theorem ys_ints {b : Int} {ys : List D} (h : ∀ y ∈ ys, ∃ x : Nat, y = .int x ∧ (x : Int) < b) : ∃ us : List Int, ys = us.map .int ∧ us.length = ys.length ∧ ∀ x ∈ us, 0 ≤ x ∧ x ≤ b - 1 := by
  obtain ⟨ks, rfl, h1, h2⟩ := ys_nats h
  refine ⟨ks.map (fun k : Nat => (k : Int)), by rw [List.map_map]; rfl, by simp, ?_⟩
  intro x hx
  obtain ⟨k, hk, rfl⟩ := List.mem_map.mp hx
  have := h2 k hk
  omega
theorem ys_rows {n : Nat} {b : Int} : ∀ {ys : List D}, (∀ y ∈ ys, ∃ u : List Int, y = tupI u ∧ u.length = n ∧ ∀ x ∈ u, 0 ≤ x ∧ x ≤ b) → ∃ r : List (List Int), ys = r.map tupI ∧ r.length = ys.length ∧ ∀ l ∈ r, l.length = n ∧ ∀ x ∈ l, 0 ≤ x ∧ x ≤ b
  | [], _ => ⟨[], rfl, rfl, by simp⟩
  | y :: ys, h => by
    obtain ⟨u, rfl, hu⟩ := h y (by simp)
    obtain ⟨r, rfl, _, h2⟩ := ys_rows (ys := ys) (fun z hz => h z (by simp [hz]))
    refine ⟨u :: r, rfl, by simp, ?_⟩
    intro l hl
    rcases List.mem_cons.mp hl with hl | hl
    · subst hl; exact hu
    · exact h2 l hl
theorem sum_pos : ∀ {us : List Int}, (∀ x ∈ us, 0 ≤ x) → (∃ y ∈ us, 0 < y) → 0 < us.sum
  | [], _, h => by obtain ⟨y, hy, _⟩ := h; simp at hy
  | x :: us, h, h2 => by
    have h0 := h x (by simp)
    have h3 : 0 ≤ us.sum := by
      have : ∀ {vs : List Int}, (∀ x ∈ vs, 0 ≤ x) → 0 ≤ vs.sum := by
        intro vs
        induction vs with
        | nil => simp
        | cons a as ih => intro q; have := q a (by simp); have := ih (fun x hx => q x (by simp [hx])); simp only [List.sum_cons]; omega
      exact this (fun y hy => h y (by simp [hy]))
    simp only [List.sum_cons]
    obtain ⟨y, hy, hp⟩ := h2
    rcases List.mem_cons.mp hy with hy | hy
    · omega
    · have := sum_pos (us := us) (fun y hy => h y (by simp [hy])) ⟨y, hy, hp⟩
      omega
theorem set_all {b : Int} {us : List Int} {k : Nat} {y : Int} (h : ∀ x ∈ us, 0 ≤ x ∧ x ≤ b) (hy : 0 ≤ y) (hb : y ≤ b) : ∀ x ∈ us.set k y, 0 ≤ x ∧ x ≤ b := by
  intro x hx
  rcases List.mem_or_eq_of_mem_set hx with hx | hx
  · exact h x hx
  · subst hx; exact ⟨hy, hb⟩
theorem ixN_nat {n k : Nat} (h : k < n) : L2.ixN n (k : Int) = some k := by
  unfold L2.ixN
  rw [if_pos (by omega), if_pos (by omega)]
  simp
theorem ixD_dr0 (k : Nat) (ks : List Nat) : ixD (drD (k :: ks)) (.int 0) = some (.da (.int k)) := by
  unfold drD
  rw [ixD_tup, List.map_cons, at0]
  rfl
theorem slD_dr_tail (k : Nat) (ks : List Nat) : slD (drD (k :: ks)) (some 1) none = some (.da (drD ks)) := by
  show some (Rv.da (.tuple (cutD ((k :: ks).map fun k : Nat => .int k) (some 1) none))) = some (.da (.tuple (ks.map fun k : Nat => .int k)))
  unfold cutD
  have e1 : HT.sIx ((k :: ks).map fun k : Nat => PyData.int k).length 0 (some 1) = 1 := by
    unfold HT.sIx
    simp
    try omega
  have e2 : HT.sIx ((k :: ks).map fun k : Nat => PyData.int k).length ((k :: ks).map fun k : Nat => PyData.int k).length none = ks.length + 1 := by
    unfold HT.sIx
    simp
  rw [e1, e2]
  rw [List.map_cons, List.drop_succ_cons, List.drop_zero, List.take_of_length_le (by simp)]
theorem slD_dr_head (k : Nat) (ks : List Nat) : slD (drD (k :: ks)) none (some 1) = some (.da (drD [k])) := by
  show some (Rv.da (.tuple (cutD ((k :: ks).map fun k : Nat => .int k) none (some 1)))) = some (.da (.tuple [.int k]))
  unfold cutD
  have e1 : HT.sIx ((k :: ks).map fun k : Nat => PyData.int k).length 0 none = 0 := by
    unfold HT.sIx
    simp
  have e2 : HT.sIx ((k :: ks).map fun k : Nat => PyData.int k).length ((k :: ks).map fun k : Nat => PyData.int k).length (some 1) = 1 := by
    unfold HT.sIx
    simp
    try omega
  rw [e1, e2]
  rfl
theorem eqD_fr0 (p : Rat) : eqD (frD p) (.tuple [.int 0, .int 1]) = some (.da (.bool (decide (p = 0)))) := eqD_fr p 0
theorem eqD_fr1 (p : Rat) : eqD (frD p) (.tuple [.int 1, .int 1]) = some (.da (.bool (decide (p = 1)))) := eqD_fr p 1
theorem neD_fr0 (p : Rat) : neD (frD p) (.tuple [.int 0, .int 1]) = some (.da (.bool (!decide (p = 0)))) := neD_fr p 0
theorem neD_fr1 (p : Rat) : neD (frD p) (.tuple [.int 1, .int 1]) = some (.da (.bool (!decide (p = 1)))) := neD_fr p 1
def behD (q : Rat) (u : List Int) : D := if q = 0 then .none else tupI u
theorem behD_zero (u : List Int) : behD 0 u = .none := if_pos rfl
theorem behD_pos {q : Rat} (h : q ≠ 0) (u : List Int) : behD q u = tupI u := if_neg h
theorem neD_none : neD .none .none = some (.da (.bool false)) := by simp [neD]
theorem neD_tupI_self (u : List Int) : neD (tupI u) (tupI u) = some (.da (.bool false)) := by simp [neD]
theorem mulD_tup1 (x : D) {n : Nat} (h : n ≤ 1000) : mulD (.tuple [x]) (.int n) = some (.da (.tuple (List.replicate n x))) := by
  show (if [x].length ≤ 1000 ∧ (0 : Int) ≤ n ∧ (n : Int) ≤ 1000 then some (Rv.da (.tuple (List.replicate (n : Int).toNat [x]).flatten)) else none) = _
  rw [if_pos ⟨by simp, by omega, by omega⟩]
  simp [List.flatten_replicate_singleton]
theorem zipadd_zero : ∀ {n : Nat} {u : List Int}, u.length = n → List.zipWith (· + ·) u (List.replicate n 0) = u
  | 0, [], _ => rfl
  | n + 1, x :: u, h => by
    rw [List.replicate_succ, List.zipWith_cons_cons, zipadd_zero (by simpa using h), Int.add_zero]
theorem sub_le {u : List Int} {b : Int} (h : Urn b u) (k : Nat) (hk : k < u.length) (h0 : u.getD k 0 ≠ 0) : 0 < u.getD k 0 := by
  have e : u.getD k 0 = u[k] := by simp [List.getD, List.getElem?_eq_getElem hk]
  have := (h.all _ (List.getElem_mem hk)).1
  omega
/-! ### sums -/
def sumQ : List Rat → Rat
  | [] => 0
  | q :: qs => q + sumQ qs
@[simp] theorem sumQ_nil : sumQ [] = 0 := rfl
@[simp] theorem sumQ_cons (q : Rat) (qs : List Rat) : sumQ (q :: qs) = q + sumQ qs := rfl
theorem sumQ_app : ∀ ps qs : List Rat, sumQ (ps ++ qs) = sumQ ps + sumQ qs
  | [], qs => by simp [Rat.zero_add]
  | p :: ps, qs => by rw [List.cons_append, sumQ_cons, sumQ_cons, sumQ_app ps qs, Rat.add_assoc]
theorem sumQ_mul (c : Rat) : ∀ ps : List Rat, sumQ (ps.map (c * ·)) = c * sumQ ps
  | [] => by simp [Rat.mul_zero]
  | p :: ps => by rw [List.map_cons, sumQ_cons, sumQ_cons, sumQ_mul c ps, Rat.mul_add]
theorem sumQ_div (s : Rat) : ∀ u : List Int, sumQ (u.map fun x : Int => (x : Rat) / s) = (u.sum : Int) / s
  | [] => by simp [Rat.div_def, Rat.zero_mul]
  | x :: u => by
    rw [List.map_cons, sumQ_cons, sumQ_div s u, List.sum_cons, Rat.intCast_add, Rat.div_def, Rat.div_def, Rat.div_def, Rat.add_mul]
theorem range_map_getD (u : List Int) : (List.range u.length).map (fun k => u.getD k 0) = u := by
  apply List.ext_getElem?
  intro i
  by_cases h : i < u.length
  · simp [List.getElem?_map, List.getElem?_range h, List.getD, List.getElem?_eq_getElem h]
  · simp [List.getElem?_map, List.getElem?_eq_none (by omega : u.length ≤ i), List.getElem?_eq_none (by simp; omega : (List.range u.length).length ≤ i)]
theorem sh_sum {u : List Int} {b : Int} (h : Urn b u) : sumQ ((List.range u.length).map (sh u)) = 1 := by
  have e : (List.range u.length).map (sh u) = u.map fun x : Int => (x : Rat) / (u.sum : Int) := by
    conv => rhs; rw [← range_map_getD u]
    rw [List.map_map]
    simp only [Function.comp_def, range_map_getD]
    rfl
  rw [e, sumQ_div]
  have := h.pos
  rw [Rat.div_def]
  exact Rat.mul_inv_cancel _ (by intro h3; have := Rat.intCast_eq_zero_iff.mp h3; omega)
theorem sumQ_flatMap {α β : Type} (f : α → List β) (g : β → Rat) : ∀ xs : List α, sumQ ((xs.flatMap f).map g) = sumQ (xs.map fun x => sumQ ((f x).map g))
  | [] => rfl
  | x :: xs => by rw [List.flatMap_cons, List.map_append, sumQ_app, sumQ_flatMap f g xs, List.map_cons, sumQ_cons]
theorem sumQ_congr {α : Type} {f g : α → Rat} : ∀ {xs : List α}, (∀ x ∈ xs, f x = g x) → sumQ (xs.map f) = sumQ (xs.map g)
  | [], _ => rfl
  | x :: xs, h => by rw [List.map_cons, List.map_cons, sumQ_cons, sumQ_cons, h x (by simp), sumQ_congr fun y hy => h y (by simp [hy])]
theorem sumQ_mul' {α : Type} (c : Rat) (f : α → Rat) : ∀ xs : List α, sumQ (xs.map fun x => c * f x) = c * sumQ (xs.map f)
  | [] => by simp [Rat.mul_zero]
  | x :: xs => by rw [List.map_cons, List.map_cons, sumQ_cons, sumQ_cons, sumQ_mul' c f xs, Rat.mul_add]
theorem one_more {r : List (List Int)} {n : Nat} {b c : Int} {u : List Int} {ks : List Nat} (hr : Rule n c r) (hu : Urn b u) (hl : u.length = n) (hk : ∀ k ∈ ks, k < n) : sumQ ((List.range n).map fun k => cq u r (ks ++ [k])) = cq u r ks := by
  obtain ⟨h1, h2⟩ := bh_urn hr ks u b hu hl hk
  have h3 := sh_sum h1
  rw [h2] at h3
  have e : ((List.range n).map fun k => cq u r (ks ++ [k])) = (List.range n).map fun k => cq u r ks * sh (bh u r ks) k := List.map_congr_left fun k _ => cq_app r k ks u
  rw [e, sumQ_mul', h3, Rat.mul_one]
end GD

namespace LawHere
open PySem GD
def fu_divisor (g : List Sl) : Nat := match g[(1 : Nat)]? with
  | some (.da (.int b)) => b.natAbs + 1
  | _ => 0
def fu__law_cut (g : List Sl) : Nat := match g[(3 : Nat)]? with
  | some (.da (.int b)) => b.natAbs + 1
  | _ => 0
/-- is_whole(thing); slots 0:thing -/
def d_is_whole : G → SR :=
  (retS (andV (isiE "int" (vE 0)) (notV (isiE "bool" (vE 0)))))
def m_is_whole : List D → Re Rv := runP 1 1 d_is_whole
/-- is_between(thing, least, most); slots 0:thing 1:least 2:most -/
def d_is_between : G → SR :=
  (retS (andV (callE m_is_whole (aC (vE 0) aN)) (chE leD leD (vE 1) (vE 0) (vE 2))))
def m_is_between : List D → Re Rv := runP 3 3 d_is_between
-- FUEL fu_divisor : G → Nat  slots ['one', 'other']
/-- divisor(one, other); slots 0:one 1:other -/
def d_divisor : G → SR :=
  (seqS (whileS fu_divisor (tB' (op2 neD (vE 1) (cE (.int 0)))) (parS 0 1 (aC (vE 1) (aC (op2 modD (vE 0) (vE 1)) aN)))) (retS (caE absD (aC (vE 0) aN))))
def m_divisor : List D → Re Rv := runP 2 2 d_divisor
/-- fraction(top, bottom); slots 0:top 1:bottom 2:part -/
def d_fraction : G → SR :=
  (seqS (asgS (callE m_divisor (aC (vE 1) (aC (vE 0) aN))) (tgN 2)) (retS (tupE (aC (op2 fdivD (vE 0) (vE 2)) (aC (op2 fdivD (vE 1) (vE 2)) aN)))))
def m_fraction : List D → Re Rv := runP 2 3 d_fraction
/-- by(one, other); slots 0:one 1:other -/
def d_by : G → SR :=
  (retS (callE m_fraction (aC (op2 mulD (op2 ixD (vE 0) (cE (.int 0))) (op2 ixD (vE 1) (cE (.int 0)))) (aC (op2 mulD (op2 ixD (vE 0) (cE (.int 1))) (op2 ixD (vE 1) (cE (.int 1)))) aN))))
def m_by : List D → Re Rv := runP 2 2 d_by
/-- is_urn(thing); slots 0:thing 1:many -/
def d_is_urn : G → SR :=
  (seqS (ifS (orT (notT (tB' (isiE "tuple" (vE 0)))) (notT (tB' (chE leD leD (cE (.int 1)) (caE lenD (aC (vE 0) aN)) (cE (.int 4)))))) (retS (cE (.bool false))) nextS) (retS (andV (caE allD (aC (lcE (anyI (vE 0)) (cgN 1) yesT (callE m_is_between (aC (vE 1) (aC (cE (.int 0)) (aC (cE (.int 20)) aN)))) [1]) aN)) (op2 gtD (caE sumD (aC (vE 0) aN)) (cE (.int 0))))))
def m_is_urn : List D → Re Rv := runP 1 2 d_is_urn
/-- is_rule_of(kinds, thing); slots 0:kinds 1:thing 2:line 3:many -/
def d_is_rule_of : G → SR :=
  (seqS (ifS (orT (notT (tB' (isiE "tuple" (vE 1)))) (tB' (op2 neD (caE lenD (aC (vE 1) aN)) (vE 0)))) (retS (cE (.bool false))) nextS) (seqS (forS (anyI (vE 1)) (tgN 2) (seqS (ifS (orT (notT (tB' (isiE "tuple" (vE 2)))) (tB' (op2 neD (caE lenD (aC (vE 2) aN)) (vE 0)))) (retS (cE (.bool false))) nextS) (ifS (notT (tB' (caE allD (aC (lcE (anyI (vE 2)) (cgN 3) yesT (callE m_is_between (aC (vE 3) (aC (cE (.int 0)) (aC (cE (.int 5)) aN)))) [3]) aN)))) (retS (cE (.bool false))) nextS))) (retS (cE (.bool true)))))
def m_is_rule_of : List D → Re Rv := runP 2 4 d_is_rule_of
/-- need_number(thing, least, most); slots 0:thing 1:least 2:most -/
def d_need_number : G → SR :=
  (ifS (notT (tB' (callE m_is_between (aC (vE 0) (aC (vE 1) (aC (vE 2) aN)))))) neverS nextS)
def m_need_number : List D → Re Rv := runP 3 3 d_need_number
/-- is_rule(kinds, thing); slots 0:kinds 1:thing -/
def d_is_rule : G → SR :=
  (seqS (dropS (callE m_need_number (aC (vE 0) (aC (cE (.int 1)) (aC (cE (.int 4)) aN))))) (retS (callE m_is_rule_of (aC (vE 0) (aC (vE 1) aN)))))
def m_is_rule : List D → Re Rv := runP 2 2 d_is_rule
/-- need_urn(urn); slots 0:urn -/
def d_need_urn : G → SR :=
  (ifS (notT (tB' (callE m_is_urn (aC (vE 0) aN)))) neverS nextS)
def m_need_urn : List D → Re Rv := runP 1 1 d_need_urn
/-- need_rule(kinds, rule); slots 0:kinds 1:rule -/
def d_need_rule : G → SR :=
  (ifS (notT (tB' (callE m_is_rule_of (aC (vE 0) (aC (vE 1) aN))))) neverS nextS)
def m_need_rule : List D → Re Rv := runP 2 2 d_need_rule
/-- need_kind(urn, kind); slots 0:urn 1:kind -/
def d_need_kind : G → SR :=
  (ifS (notT (tB' (callE m_is_between (aC (vE 1) (aC (cE (.int 0)) (aC (op2 subD (caE lenD (aC (vE 0) aN)) (cE (.int 1))) aN)))))) neverS nextS)
def m_need_kind : List D → Re Rv := runP 2 2 d_need_kind
/-- share(urn, kind); slots 0:urn 1:kind -/
def d_share : G → SR :=
  (retS (callE m_fraction (aC (op2 ixD (vE 0) (vE 1)) (aC (caE sumD (aC (vE 0) aN)) aN))))
def m_share : List D → Re Rv := runP 2 2 d_share
/-- chance(urn, kind); slots 0:urn 1:kind -/
def d_chance : G → SR :=
  (seqS (dropS (callE m_need_urn (aC (vE 0) aN))) (seqS (dropS (callE m_need_kind (aC (vE 0) (aC (vE 1) aN)))) (retS (callE m_share (aC (vE 0) (aC (vE 1) aN))))))
def m_chance : List D → Re Rv := runP 2 2 d_chance
/-- put_behind(urn, rule, kind); slots 0:urn 1:rule 2:kind 3:many 4:more -/
def d_put_behind : G → SR :=
  (retS (caE tupleD (aC (lcE (zipI (aC (vE 0) (aC (op2 ixD (vE 1) (vE 2)) aN))) (cgT [(cgN 3), (cgN 4)]) yesT (op2 addD (vE 3) (vE 4)) [3, 4]) aN)))
def m_put_behind : List D → Re Rv := runP 3 5 d_put_behind
/-- after(urn, rule, kind); slots 0:urn 1:rule 2:kind -/
def d_after : G → SR :=
  (seqS (dropS (callE m_need_urn (aC (vE 0) aN))) (seqS (dropS (callE m_need_rule (aC (caE lenD (aC (vE 0) aN)) (aC (vE 1) aN)))) (seqS (dropS (callE m_need_kind (aC (vE 0) (aC (vE 2) aN)))) (seqS (ifS (tB' (op2 eqD (op2 ixD (vE 0) (vE 2)) (cE (.int 0)))) neverS nextS) (retS (callE m_put_behind (aC (vE 0) (aC (vE 1) (aC (vE 2) aN)))))))))
def m_after : List D → Re Rv := runP 3 3 d_after
/-- need_draws(urn, draws); slots 0:urn 1:draws 2:kind -/
def d_need_draws : G → SR :=
  (seqS (ifS (orT (notT (tB' (isiE "tuple" (vE 1)))) (tB' (op2 gtD (caE lenD (aC (vE 1) aN)) (cE (.int 20))))) neverS nextS) (ifS (notT (tB' (caE allD (aC (lcE (anyI (vE 1)) (cgN 2) yesT (callE m_is_between (aC (vE 2) (aC (cE (.int 0)) (aC (op2 subD (caE lenD (aC (vE 0) aN)) (cE (.int 1))) aN)))) [2]) aN)))) neverS nextS))
def m_need_draws : List D → Re Rv := runP 2 3 d_need_draws
/-- gone_through(urn, rule, draws); slots 0:urn 1:rule 2:draws 3:found 4:kind -/
def d_gone_through : G → SR :=
  (seqS (asgS (tupE (aC (cE (.int 1)) (aC (cE (.int 1)) aN))) (tgN 3)) (seqS (forS (anyI (vE 2)) (tgN 4) (seqS (asgS (callE m_by (aC (vE 3) (aC (callE m_share (aC (vE 0) (aC (vE 4) aN))) aN))) (tgN 3)) (asgS (callE m_put_behind (aC (vE 0) (aC (vE 1) (aC (vE 4) aN)))) (tgN 0)))) (retS (tupE (aC (vE 3) (aC (vE 0) aN))))))
def m_gone_through : List D → Re Rv := runP 3 5 d_gone_through
/-- chance_of(urn, rule, draws); slots 0:urn 1:rule 2:draws -/
def d_chance_of : G → SR :=
  (seqS (dropS (callE m_need_urn (aC (vE 0) aN))) (seqS (dropS (callE m_need_rule (aC (caE lenD (aC (vE 0) aN)) (aC (vE 1) aN)))) (seqS (dropS (callE m_need_draws (aC (vE 0) (aC (vE 2) aN)))) (retS (op2 ixD (callE m_gone_through (aC (vE 0) (aC (vE 1) (aC (vE 2) aN)))) (cE (.int 0)))))))
def m_chance_of : List D → Re Rv := runP 3 3 d_chance_of
/-- urn_behind(urn, rule, draws); slots 0:urn 1:rule 2:draws -/
def d_urn_behind : G → SR :=
  (seqS (ifS (tB' (op2 eqD (callE m_chance_of (aC (vE 0) (aC (vE 1) (aC (vE 2) aN)))) (tupE (aC (cE (.int 0)) (aC (cE (.int 1)) aN))))) (retS (cE .none)) nextS) (retS (op2 ixD (callE m_gone_through (aC (vE 0) (aC (vE 1) (aC (vE 2) aN)))) (cE (.int 1)))))
def m_urn_behind : List D → Re Rv := runP 3 3 d_urn_behind
/-- _law_cell_at(_law_script, _law_k); slots 0:_law_script 1:_law_k -/
def d__law_cell_at : G → SR :=
  (seqS (ifS (tB' (op2 ltD (vE 1) (caE lenD (aC (vE 0) aN)))) (retS (op2 ixD (vE 0) (vE 1))) nextS) (retS (cE (.int 0))))
def m__law_cell_at : List D → Re Rv := runP 2 2 d__law_cell_at
/-- _law_state(_law_script, _law_k); slots 0:_law_script 1:_law_k 2:_law_cell -/
def d__law_state : G → SR :=
  (seqS (asgS (callE m__law_cell_at (aC (vE 0) (aC (vE 1) aN))) (tgN 2)) (seqS (ifS (tB' (op2 geD (vE 2) (op2 powD (cE (.int 10)) (cE (.int 18))))) (retS (lstE (aC (op2 subD (vE 2) (op2 powD (cE (.int 10)) (cE (.int 18)))) (aC (cE (.bool true)) aN)))) nextS) (retS (lstE (aC (op2 modD (vE 2) (cE (.int 2147483647))) (aC (cE (.bool false)) aN))))))
def m__law_state : List D → Re Rv := runP 2 3 d__law_state
/-- _law_take(_law_state_here, _law_many); slots 0:_law_state_here 1:_law_many 2:_law_found 3:_law_mixed -/
def d__law_take : G → SR :=
  (seqS (ifS (tB' (op2 ixD (vE 0) (cE (.int 1)))) (seqS (asgS (op2 modD (op2 ixD (vE 0) (cE (.int 0))) (vE 1)) (tgN 2)) (seqS (asgS (op2 fdivD (op2 ixD (vE 0) (cE (.int 0))) (vE 1)) (tgS (vE 0) (cE (.int 0)))) (retS (vE 2)))) nextS) (seqS (asgS (op2 modD (op2 addD (op2 mulD (op2 ixD (vE 0) (cE (.int 0))) (cE (.int 48271))) (cE (.int 29))) (cE (.int 2147483647))) (tgS (vE 0) (cE (.int 0)))) (seqS (asgS (op2 modD (op2 addD (op2 addD (op2 mulD (op2 ixD (vE 0) (cE (.int 0))) (op2 ixD (vE 0) (cE (.int 0)))) (op2 mulD (cE (.int 39373)) (op2 ixD (vE 0) (cE (.int 0))))) (cE (.int 7))) (cE (.int 2147483629))) (tgN 3)) (seqS (asgS (op2 modD (op2 addD (op2 mulD (vE 3) (vE 3)) (op2 mulD (cE (.int 16807)) (vE 3))) (cE (.int 2147483587))) (tgN 3)) (retS (op2 modD (op2 fdivD (vE 3) (cE (.int 8))) (vE 1)))))))
def m__law_take : List D → List D → Re (D × List D) := runS 2 4 d__law_take
-- FUEL fu__law_cut : G → Nat  slots ['_law_top', '_law_bottom', '_law_one', '_law_other']
/-- _law_cut(_law_top, _law_bottom); slots 0:_law_top 1:_law_bottom 2:_law_one 3:_law_other -/
def d__law_cut : G → SR :=
  (seqS (parS 2 3 (aC (caE absD (aC (vE 0) aN)) (aC (vE 1) aN))) (seqS (whileS fu__law_cut (tB' (op2 gtD (vE 3) (cE (.int 0)))) (parS 2 3 (aC (vE 3) (aC (op2 modD (vE 2) (vE 3)) aN)))) (retS (tupE (aC (op2 fdivD (vE 0) (vE 2)) (aC (op2 fdivD (vE 1) (vE 2)) aN))))))
def m__law_cut : List D → Re Rv := runP 2 4 d__law_cut
/-- _law_plus(_law_one, _law_other); slots 0:_law_one 1:_law_other -/
def d__law_plus : G → SR :=
  (retS (callE m__law_cut (aC (op2 addD (op2 mulD (op2 ixD (vE 0) (cE (.int 0))) (op2 ixD (vE 1) (cE (.int 1)))) (op2 mulD (op2 ixD (vE 1) (cE (.int 0))) (op2 ixD (vE 0) (cE (.int 1))))) (aC (op2 mulD (op2 ixD (vE 0) (cE (.int 1))) (op2 ixD (vE 1) (cE (.int 1)))) aN))))
def m__law_plus : List D → Re Rv := runP 2 2 d__law_plus
/-- _law_by(_law_one, _law_other); slots 0:_law_one 1:_law_other -/
def d__law_by : G → SR :=
  (retS (callE m__law_cut (aC (op2 mulD (op2 ixD (vE 0) (cE (.int 0))) (op2 ixD (vE 1) (cE (.int 0)))) (aC (op2 mulD (op2 ixD (vE 0) (cE (.int 1))) (op2 ixD (vE 1) (cE (.int 1)))) aN))))
def m__law_by : List D → Re Rv := runP 2 2 d__law_by
/-- _law_small(_law_state_here, _law_kinds); slots 0:_law_state_here 1:_law_kinds 2:_law_found 3:_law_kind -/
def d__law_small : G → SR :=
  (seqS (asgS (lcE (rngI (aC (vE 1) aN)) (cgN 3) yesT (callS m__law_take (aC (vE 0) (aC (cE (.int 8)) aN))) [3]) (tgM 2)) (seqS (ifS (tB' (op2 eqD (caE sumD (aC (vE 2) aN)) (cE (.int 0)))) (asgS (cE (.int 1)) (tgS (vE 2) (callS m__law_take (aC (vE 0) (aC (vE 1) aN))))) nextS) (retS (caE tupleD (aC (vE 2) aN)))))
def m__law_small : List D → List D → Re (D × List D) := runS 2 4 d__law_small
/-- _law_longer(_law_every, _law_kinds); slots 0:_law_every 1:_law_kinds 2:_law_found 3:_law_some 4:_law_kind -/
def d__law_longer : G → SR :=
  (seqS (asgS (lstE aN) (tgM 2)) (seqS (forS (anyI (vE 0)) (tgN 3) (extS (vE 2) (lcE (rngI (aC (vE 1) aN)) (cgN 4) yesT (op2 addD (vE 3) (tupE (aC (vE 4) aN))) [4]))) (retS (vE 2))))
def m__law_longer : List D → Re Rv := runP 2 5 d__law_longer
/-- law(_law_script); slots 0:_law_script 1:_law_k 2:_law_state_here 3:_law_kinds 4:_law_urn 5:_law_rule 6:_law_whole 7:_law_kind 8:_law_turn 9:_law_draws 10:_law_likely 11:_law_there 12:_law_every 13:_law_some 14:_law_nothing 15:_law_one 16:_law_other -/
def d_law : G → SR :=
  (seqS (forS (rngI (aC (caE maxD (aC (cE (.int 1)) (aC (caE minD (aC (caE lenD (aC (vE 0) aN)) (aC (cE (.int 6)) aN))) aN))) aN)) (tgN 1) (seqS (asgS (callE m__law_state (aC (vE 0) (aC (vE 1) aN))) (tgM 2)) (seqS (asgS (op2 addD (cE (.int 1)) (callS m__law_take (aC (vE 2) (aC (cE (.int 4)) aN)))) (tgN 3)) (seqS (asgS (callS m__law_small (aC (vE 2) (aC (vE 3) aN))) (tgN 4)) (seqS (asgS (caE tupleD (aC (lcE (rngI (aC (vE 3) aN)) (cgN 15) yesT (caE tupleD (aC (lcE (rngI (aC (vE 3) aN)) (cgN 16) yesT (callS m__law_take (aC (vE 2) (aC (cE (.int 3)) aN))) [16]) aN)) [15]) aN)) (tgN 5)) (seqS (ifS (orT (tB' (op2 isNotD (callE m_is_urn (aC (vE 4) aN)) (cE (.bool true)))) (tB' (op2 isNotD (callE m_is_rule (aC (vE 3) (aC (vE 5) aN))) (cE (.bool true))))) (retS (cE (.bool false))) nextS) (seqS (asgS (tupE (aC (cE (.int 0)) (aC (cE (.int 1)) aN))) (tgN 6)) (seqS (forS (rngI (aC (vE 3) aN)) (tgN 7) (asgS (callE m__law_plus (aC (vE 6) (aC (callE m_chance (aC (vE 4) (aC (vE 7) aN))) aN))) (tgN 6))) (seqS (ifS (tB' (op2 neD (vE 6) (tupE (aC (cE (.int 1)) (aC (cE (.int 1)) aN))))) (retS (cE (.bool false))) nextS) (seqS (asgS (caE tupleD (aC (lcE (rngI (aC (op2 addD (cE (.int 1)) (callS m__law_take (aC (vE 2) (aC (cE (.int 5)) aN)))) aN)) (cgN 8) yesT (callS m__law_take (aC (vE 2) (aC (vE 3) aN))) [8]) aN)) (tgN 9)) (seqS (asgS (callE m_chance_of (aC (vE 4) (aC (vE 5) (aC (vE 9) aN)))) (tgN 10)) (seqS (ifS (tB' (op2 eqD (op2 ixD (vE 4) (op2 ixD (vE 9) (cE (.int 0)))) (cE (.int 0)))) (seqS (ifS (orT (tB' (op2 neD (vE 10) (tupE (aC (cE (.int 0)) (aC (cE (.int 1)) aN))))) (tB' (op2 isNotD (callE m_urn_behind (aC (vE 4) (aC (vE 5) (aC (vE 9) aN)))) (cE .none)))) (retS (cE (.bool false))) nextS) contS) nextS) (seqS (asgS (callE m_after (aC (vE 4) (aC (vE 5) (aC (op2 ixD (vE 9) (cE (.int 0))) aN)))) (tgN 11)) (seqS (ifS (tB' (op2 neD (vE 10) (callE m__law_by (aC (callE m_chance (aC (vE 4) (aC (op2 ixD (vE 9) (cE (.int 0))) aN))) (aC (callE m_chance_of (aC (vE 11) (aC (vE 5) (aC (slE slD (vE 9) (oS (cE (.int 1))) oN) aN)))) aN))))) (retS (cE (.bool false))) nextS) (seqS (ifS (tB' (op2 neD (callE m_urn_behind (aC (vE 4) (aC (vE 5) (aC (vE 9) aN)))) (callE m_urn_behind (aC (vE 11) (aC (vE 5) (aC (slE slD (vE 9) (oS (cE (.int 1))) oN) aN)))))) (retS (cE (.bool false))) nextS) (seqS (asgS (lstE (aC (tupE aN) aN)) (tgN 12)) (seqS (forS (rngI (aC (cE (.int 3)) aN)) (tgN 8) (asgS (callE m__law_longer (aC (vE 12) (aC (vE 3) aN))) (tgN 12))) (seqS (asgS (tupE (aC (cE (.int 0)) (aC (cE (.int 1)) aN))) (tgN 6)) (seqS (forS (anyI (vE 12)) (tgN 13) (asgS (callE m__law_plus (aC (vE 6) (aC (callE m_chance_of (aC (vE 4) (aC (vE 5) (aC (vE 13) aN)))) aN))) (tgN 6))) (seqS (asgS (op2 mulD (tupE (aC (op2 mulD (tupE (aC (cE (.int 0)) aN)) (vE 3)) aN)) (vE 3)) (tgN 14)) (ifS (orT (tB' (op2 neD (vE 6) (tupE (aC (cE (.int 1)) (aC (cE (.int 1)) aN))))) (tB' (op2 neD (callE m_urn_behind (aC (vE 4) (aC (vE 14) (aC (slE slD (vE 9) oN (oS (cE (.int 1)))) aN)))) (vE 4)))) (retS (cE (.bool false))) nextS))))))))))))))))))))) (retS (cE (.bool true))))
def m_law : List D → Re Rv := runP 1 17 d_law
end LawHere

namespace LawHere
open PySem GD
/-! ### the package: urns -/
theorem is_whole_ev (d : D) : m_is_whole [d] = .ok (.da (.bool (whole d))) := by
  unfold m_is_whole d_is_whole; simp only [runP, runS, seqS, nextS_ap, asgS, parS, ifS, retS, retN, dropS, raiseS, neverS, contS_ap, breakS_ap, frzS, appS, extS, tgN, tgM, tgs, tgT, tgS, vE, cE, op2, op1, aN, aC, tB', andT, orT, notT, andV, orV, notV, ifE, tupE, lstE, caE, chE, callE, callS, isiE_ap, oN, oS, slE, anyI, rngI, zipI, forS, yesT, cgN, cgT, cgs, whileS, rawL, rawOf, rawL_nil, datL, datL_nil, Rv.dat, GD.toBool, toBool_bool, intOf, intOf_int, ofO, ofO_some, ofO_none, Re.ok_bind, Re.ex_bind, Re.no_bind, Re.pure_eq, addD_int, addD_tup, addD_lst, addD_str, subD_int, negD_int, ltD_int, leD_int, gtD_int, geD_int, isD_none, isD_bool, isNotD_none, isNotD_bool, isNoneD_none, isNoneD_bool, isNoneD_int, isNoneD_str, isNoneD_list, isNoneD_tuple, isNoneD_dict, lenD_lst, lenD_tup, absD_int, intD_int, intD_bool, tupleD_lst, tupleD_tup, listD_lst, listD_tup, itemsOf_lst, itemsOf_tup, zipD_lst, zipD_tup, maxD_int, minD_int, slD_tup, slD_lst, pow_10_18, itemsOf_tupI, isi_tuple, isi_int, isi_bool, isi_str, isi_list, isTup_none, isTup_bool, isTup_int, isTup_str, isTup_list, isTup_tuple, isTup_dict, isWB_none, isWB_bool, isWB_int, isWB_str, isWB_list, isWB_tuple, isWB_dict, isB_none, isB_bool, isB_int, isB_str, isB_list, isB_tuple, isB_dict, isStr_none, isStr_bool, isStr_int, isStr_str, isStr_list, isStr_tuple, isStr_dict, isLst_none, isLst_bool, isLst_int, isLst_str, isLst_list, isLst_tuple, isTupI, sumD_lst, lenD_tupI, sumD_tupI, lenD_drD, eqD_int, neD_int, ixD_tup, ixD_lst, at0, at1, at2, at3, List.length_cons, List.length_nil, List.map_cons, List.map_nil, List.cons_append, List.nil_append, List.replicate, List.getElem?_cons_zero, List.getElem?_cons_succ, List.getElem?_nil, List.set_cons_zero, List.set_cons_succ, Nat.reduceAdd, Nat.reduceSub, Nat.reduceLeDiff, Nat.reduceEqDiff, if_true, if_false, beq_self_eq_true, decide_true, eq_self, reduceCtorEq, Bool.not_true, Bool.not_false, Bool.true_and, Bool.and_true, Bool.false_and, Bool.and_false, Bool.or_true, Bool.true_or, Bool.or_false, Bool.false_or, Bool.false_eq_true, Option.map_some, Option.map_none, Option.bind_some, Option.bind_none]
  cases d <;> rfl
theorem is_between_ev (d : D) (a b : Int) : m_is_between [d, .int a, .int b] = .ok (.da (.bool (btw d a b))) := by
  unfold m_is_between d_is_between; simp only [runP, runS, seqS, nextS_ap, asgS, parS, ifS, retS, retN, dropS, raiseS, neverS, contS_ap, breakS_ap, frzS, appS, extS, tgN, tgM, tgs, tgT, tgS, vE, cE, op2, op1, aN, aC, tB', andT, orT, notT, andV, orV, notV, ifE, tupE, lstE, caE, chE, callE, callS, isiE_ap, oN, oS, slE, anyI, rngI, zipI, forS, yesT, cgN, cgT, cgs, whileS, rawL, rawOf, rawL_nil, datL, datL_nil, Rv.dat, GD.toBool, toBool_bool, intOf, intOf_int, ofO, ofO_some, ofO_none, Re.ok_bind, Re.ex_bind, Re.no_bind, Re.pure_eq, addD_int, addD_tup, addD_lst, addD_str, subD_int, negD_int, ltD_int, leD_int, gtD_int, geD_int, isD_none, isD_bool, isNotD_none, isNotD_bool, isNoneD_none, isNoneD_bool, isNoneD_int, isNoneD_str, isNoneD_list, isNoneD_tuple, isNoneD_dict, lenD_lst, lenD_tup, absD_int, intD_int, intD_bool, tupleD_lst, tupleD_tup, listD_lst, listD_tup, itemsOf_lst, itemsOf_tup, zipD_lst, zipD_tup, maxD_int, minD_int, slD_tup, slD_lst, pow_10_18, itemsOf_tupI, isi_tuple, isi_int, isi_bool, isi_str, isi_list, isTup_none, isTup_bool, isTup_int, isTup_str, isTup_list, isTup_tuple, isTup_dict, isWB_none, isWB_bool, isWB_int, isWB_str, isWB_list, isWB_tuple, isWB_dict, isB_none, isB_bool, isB_int, isB_str, isB_list, isB_tuple, isB_dict, isStr_none, isStr_bool, isStr_int, isStr_str, isStr_list, isStr_tuple, isStr_dict, isLst_none, isLst_bool, isLst_int, isLst_str, isLst_list, isLst_tuple, isTupI, sumD_lst, lenD_tupI, sumD_tupI, lenD_drD, eqD_int, neD_int, ixD_tup, ixD_lst, at0, at1, at2, at3, List.length_cons, List.length_nil, List.map_cons, List.map_nil, List.cons_append, List.nil_append, List.replicate, List.getElem?_cons_zero, List.getElem?_cons_succ, List.getElem?_nil, List.set_cons_zero, List.set_cons_succ, Nat.reduceAdd, Nat.reduceSub, Nat.reduceLeDiff, Nat.reduceEqDiff, if_true, if_false, beq_self_eq_true, decide_true, eq_self, reduceCtorEq, Bool.not_true, Bool.not_false, Bool.true_and, Bool.and_true, Bool.false_and, Bool.and_false, Bool.or_true, Bool.true_or, Bool.or_false, Bool.false_or, Bool.false_eq_true, Option.map_some, Option.map_none, Option.bind_some, Option.bind_none, is_whole_ev]
  cases d
  case int x =>
    simp only [runP, runS, seqS, nextS_ap, asgS, parS, ifS, retS, retN, dropS, raiseS, neverS, contS_ap, breakS_ap, frzS, appS, extS, tgN, tgM, tgs, tgT, tgS, vE, cE, op2, op1, aN, aC, tB', andT, orT, notT, andV, orV, notV, ifE, tupE, lstE, caE, chE, callE, callS, isiE_ap, oN, oS, slE, anyI, rngI, zipI, forS, yesT, cgN, cgT, cgs, whileS, rawL, rawOf, rawL_nil, datL, datL_nil, Rv.dat, GD.toBool, toBool_bool, intOf, intOf_int, ofO, ofO_some, ofO_none, Re.ok_bind, Re.ex_bind, Re.no_bind, Re.pure_eq, addD_int, addD_tup, addD_lst, addD_str, subD_int, negD_int, ltD_int, leD_int, gtD_int, geD_int, isD_none, isD_bool, isNotD_none, isNotD_bool, isNoneD_none, isNoneD_bool, isNoneD_int, isNoneD_str, isNoneD_list, isNoneD_tuple, isNoneD_dict, lenD_lst, lenD_tup, absD_int, intD_int, intD_bool, tupleD_lst, tupleD_tup, listD_lst, listD_tup, itemsOf_lst, itemsOf_tup, zipD_lst, zipD_tup, maxD_int, minD_int, slD_tup, slD_lst, pow_10_18, itemsOf_tupI, isi_tuple, isi_int, isi_bool, isi_str, isi_list, isTup_none, isTup_bool, isTup_int, isTup_str, isTup_list, isTup_tuple, isTup_dict, isWB_none, isWB_bool, isWB_int, isWB_str, isWB_list, isWB_tuple, isWB_dict, isB_none, isB_bool, isB_int, isB_str, isB_list, isB_tuple, isB_dict, isStr_none, isStr_bool, isStr_int, isStr_str, isStr_list, isStr_tuple, isStr_dict, isLst_none, isLst_bool, isLst_int, isLst_str, isLst_list, isLst_tuple, isTupI, sumD_lst, lenD_tupI, sumD_tupI, lenD_drD, eqD_int, neD_int, ixD_tup, ixD_lst, at0, at1, at2, at3, List.length_cons, List.length_nil, List.map_cons, List.map_nil, List.cons_append, List.nil_append, List.replicate, List.getElem?_cons_zero, List.getElem?_cons_succ, List.getElem?_nil, List.set_cons_zero, List.set_cons_succ, Nat.reduceAdd, Nat.reduceSub, Nat.reduceLeDiff, Nat.reduceEqDiff, if_true, if_false, beq_self_eq_true, decide_true, eq_self, reduceCtorEq, Bool.not_true, Bool.not_false, Bool.true_and, Bool.and_true, Bool.false_and, Bool.and_false, Bool.or_true, Bool.true_or, Bool.or_false, Bool.false_or, Bool.false_eq_true, Option.map_some, Option.map_none, Option.bind_some, Option.bind_none, whole, btw]
    cases decide (a ≤ x) <;> rfl
  all_goals (simp only [runP, runS, seqS, nextS_ap, asgS, parS, ifS, retS, retN, dropS, raiseS, neverS, contS_ap, breakS_ap, frzS, appS, extS, tgN, tgM, tgs, tgT, tgS, vE, cE, op2, op1, aN, aC, tB', andT, orT, notT, andV, orV, notV, ifE, tupE, lstE, caE, chE, callE, callS, isiE_ap, oN, oS, slE, anyI, rngI, zipI, forS, yesT, cgN, cgT, cgs, whileS, rawL, rawOf, rawL_nil, datL, datL_nil, Rv.dat, GD.toBool, toBool_bool, intOf, intOf_int, ofO, ofO_some, ofO_none, Re.ok_bind, Re.ex_bind, Re.no_bind, Re.pure_eq, addD_int, addD_tup, addD_lst, addD_str, subD_int, negD_int, ltD_int, leD_int, gtD_int, geD_int, isD_none, isD_bool, isNotD_none, isNotD_bool, isNoneD_none, isNoneD_bool, isNoneD_int, isNoneD_str, isNoneD_list, isNoneD_tuple, isNoneD_dict, lenD_lst, lenD_tup, absD_int, intD_int, intD_bool, tupleD_lst, tupleD_tup, listD_lst, listD_tup, itemsOf_lst, itemsOf_tup, zipD_lst, zipD_tup, maxD_int, minD_int, slD_tup, slD_lst, pow_10_18, itemsOf_tupI, isi_tuple, isi_int, isi_bool, isi_str, isi_list, isTup_none, isTup_bool, isTup_int, isTup_str, isTup_list, isTup_tuple, isTup_dict, isWB_none, isWB_bool, isWB_int, isWB_str, isWB_list, isWB_tuple, isWB_dict, isB_none, isB_bool, isB_int, isB_str, isB_list, isB_tuple, isB_dict, isStr_none, isStr_bool, isStr_int, isStr_str, isStr_list, isStr_tuple, isStr_dict, isLst_none, isLst_bool, isLst_int, isLst_str, isLst_list, isLst_tuple, isTupI, sumD_lst, lenD_tupI, sumD_tupI, lenD_drD, eqD_int, neD_int, ixD_tup, ixD_lst, at0, at1, at2, at3, List.length_cons, List.length_nil, List.map_cons, List.map_nil, List.cons_append, List.nil_append, List.replicate, List.getElem?_cons_zero, List.getElem?_cons_succ, List.getElem?_nil, List.set_cons_zero, List.set_cons_succ, Nat.reduceAdd, Nat.reduceSub, Nat.reduceLeDiff, Nat.reduceEqDiff, if_true, if_false, beq_self_eq_true, decide_true, eq_self, reduceCtorEq, Bool.not_true, Bool.not_false, Bool.true_and, Bool.and_true, Bool.false_and, Bool.and_false, Bool.or_true, Bool.true_or, Bool.or_false, Bool.false_or, Bool.false_eq_true, Option.map_some, Option.map_none, Option.bind_some, Option.bind_none, whole, btw])
theorem div_loop (a0 : List Sl) : ∀ (n : Nat) (a b : Int), b.natAbs < n → ∃ a' : Int, whileD (tB' (op2 neD (vE 1) (cE (.int 0)))) (parS 0 1 (aC (vE 1) (aC (op2 modD (vE 0) (vE 1)) aN))) n [.da (.int a), .da (.int b)] = .nx [.da (.int a'), .da (.int 0)] ∧ a'.natAbs = Nat.gcd a.natAbs b.natAbs
  | 0, a, b, h => by omega
  | n + 1, a, b, h => by
    unfold whileD
    simp only [runP, runS, seqS, nextS_ap, asgS, parS, ifS, retS, retN, dropS, raiseS, neverS, contS_ap, breakS_ap, frzS, appS, extS, tgN, tgM, tgs, tgT, tgS, vE, cE, op2, op1, aN, aC, tB', andT, orT, notT, andV, orV, notV, ifE, tupE, lstE, caE, chE, callE, callS, isiE_ap, oN, oS, slE, anyI, rngI, zipI, forS, yesT, cgN, cgT, cgs, whileS, rawL, rawOf, rawL_nil, datL, datL_nil, Rv.dat, GD.toBool, toBool_bool, intOf, intOf_int, ofO, ofO_some, ofO_none, Re.ok_bind, Re.ex_bind, Re.no_bind, Re.pure_eq, addD_int, addD_tup, addD_lst, addD_str, subD_int, negD_int, ltD_int, leD_int, gtD_int, geD_int, isD_none, isD_bool, isNotD_none, isNotD_bool, isNoneD_none, isNoneD_bool, isNoneD_int, isNoneD_str, isNoneD_list, isNoneD_tuple, isNoneD_dict, lenD_lst, lenD_tup, absD_int, intD_int, intD_bool, tupleD_lst, tupleD_tup, listD_lst, listD_tup, itemsOf_lst, itemsOf_tup, zipD_lst, zipD_tup, maxD_int, minD_int, slD_tup, slD_lst, pow_10_18, itemsOf_tupI, isi_tuple, isi_int, isi_bool, isi_str, isi_list, isTup_none, isTup_bool, isTup_int, isTup_str, isTup_list, isTup_tuple, isTup_dict, isWB_none, isWB_bool, isWB_int, isWB_str, isWB_list, isWB_tuple, isWB_dict, isB_none, isB_bool, isB_int, isB_str, isB_list, isB_tuple, isB_dict, isStr_none, isStr_bool, isStr_int, isStr_str, isStr_list, isStr_tuple, isStr_dict, isLst_none, isLst_bool, isLst_int, isLst_str, isLst_list, isLst_tuple, isTupI, sumD_lst, lenD_tupI, sumD_tupI, lenD_drD, eqD_int, neD_int, ixD_tup, ixD_lst, at0, at1, at2, at3, List.length_cons, List.length_nil, List.map_cons, List.map_nil, List.cons_append, List.nil_append, List.replicate, List.getElem?_cons_zero, List.getElem?_cons_succ, List.getElem?_nil, List.set_cons_zero, List.set_cons_succ, Nat.reduceAdd, Nat.reduceSub, Nat.reduceLeDiff, Nat.reduceEqDiff, if_true, if_false, beq_self_eq_true, decide_true, eq_self, reduceCtorEq, Bool.not_true, Bool.not_false, Bool.true_and, Bool.and_true, Bool.false_and, Bool.and_false, Bool.or_true, Bool.true_or, Bool.or_false, Bool.false_or, Bool.false_eq_true, Option.map_some, Option.map_none, Option.bind_some, Option.bind_none]
    by_cases hb : b = 0
    · subst hb
      exact ⟨a, rfl, by simp⟩
    · have e : (!(b == 0)) = true := by simp [hb]
      have e2 : modD (.int a) (.int b) = some (.da (.int (a.fmod b))) := if_neg hb
      simp only [runP, runS, seqS, nextS_ap, asgS, parS, ifS, retS, retN, dropS, raiseS, neverS, contS_ap, breakS_ap, frzS, appS, extS, tgN, tgM, tgs, tgT, tgS, vE, cE, op2, op1, aN, aC, tB', andT, orT, notT, andV, orV, notV, ifE, tupE, lstE, caE, chE, callE, callS, isiE_ap, oN, oS, slE, anyI, rngI, zipI, forS, yesT, cgN, cgT, cgs, whileS, rawL, rawOf, rawL_nil, datL, datL_nil, Rv.dat, GD.toBool, toBool_bool, intOf, intOf_int, ofO, ofO_some, ofO_none, Re.ok_bind, Re.ex_bind, Re.no_bind, Re.pure_eq, addD_int, addD_tup, addD_lst, addD_str, subD_int, negD_int, ltD_int, leD_int, gtD_int, geD_int, isD_none, isD_bool, isNotD_none, isNotD_bool, isNoneD_none, isNoneD_bool, isNoneD_int, isNoneD_str, isNoneD_list, isNoneD_tuple, isNoneD_dict, lenD_lst, lenD_tup, absD_int, intD_int, intD_bool, tupleD_lst, tupleD_tup, listD_lst, listD_tup, itemsOf_lst, itemsOf_tup, zipD_lst, zipD_tup, maxD_int, minD_int, slD_tup, slD_lst, pow_10_18, itemsOf_tupI, isi_tuple, isi_int, isi_bool, isi_str, isi_list, isTup_none, isTup_bool, isTup_int, isTup_str, isTup_list, isTup_tuple, isTup_dict, isWB_none, isWB_bool, isWB_int, isWB_str, isWB_list, isWB_tuple, isWB_dict, isB_none, isB_bool, isB_int, isB_str, isB_list, isB_tuple, isB_dict, isStr_none, isStr_bool, isStr_int, isStr_str, isStr_list, isStr_tuple, isStr_dict, isLst_none, isLst_bool, isLst_int, isLst_str, isLst_list, isLst_tuple, isTupI, sumD_lst, lenD_tupI, sumD_tupI, lenD_drD, eqD_int, neD_int, ixD_tup, ixD_lst, at0, at1, at2, at3, List.length_cons, List.length_nil, List.map_cons, List.map_nil, List.cons_append, List.nil_append, List.replicate, List.getElem?_cons_zero, List.getElem?_cons_succ, List.getElem?_nil, List.set_cons_zero, List.set_cons_succ, Nat.reduceAdd, Nat.reduceSub, Nat.reduceLeDiff, Nat.reduceEqDiff, if_true, if_false, beq_self_eq_true, decide_true, eq_self, reduceCtorEq, Bool.not_true, Bool.not_false, Bool.true_and, Bool.and_true, Bool.false_and, Bool.and_false, Bool.or_true, Bool.true_or, Bool.or_false, Bool.false_or, Bool.false_eq_true, Option.map_some, Option.map_none, Option.bind_some, Option.bind_none, e, e2]
      obtain ⟨a', h1, h2⟩ := div_loop a0 n b (a.fmod b) (by have := fmod_natAbs_lt a hb; omega)
      exact ⟨a', h1, by rw [h2, gcd_fmod]⟩
theorem divisor_ev (a b : Int) : m_divisor [.int a, .int b] = .ok (.da (.int (Nat.gcd a.natAbs b.natAbs : Nat))) := by
  unfold m_divisor d_divisor; simp only [runP, runS, seqS, nextS_ap, asgS, parS, ifS, retS, retN, dropS, raiseS, neverS, contS_ap, breakS_ap, frzS, appS, extS, tgN, tgM, tgs, tgT, tgS, vE, cE, op2, op1, aN, aC, tB', andT, orT, notT, andV, orV, notV, ifE, tupE, lstE, caE, chE, callE, callS, isiE_ap, oN, oS, slE, anyI, rngI, zipI, forS, yesT, cgN, cgT, cgs, whileS, rawL, rawOf, rawL_nil, datL, datL_nil, Rv.dat, GD.toBool, toBool_bool, intOf, intOf_int, ofO, ofO_some, ofO_none, Re.ok_bind, Re.ex_bind, Re.no_bind, Re.pure_eq, addD_int, addD_tup, addD_lst, addD_str, subD_int, negD_int, ltD_int, leD_int, gtD_int, geD_int, isD_none, isD_bool, isNotD_none, isNotD_bool, isNoneD_none, isNoneD_bool, isNoneD_int, isNoneD_str, isNoneD_list, isNoneD_tuple, isNoneD_dict, lenD_lst, lenD_tup, absD_int, intD_int, intD_bool, tupleD_lst, tupleD_tup, listD_lst, listD_tup, itemsOf_lst, itemsOf_tup, zipD_lst, zipD_tup, maxD_int, minD_int, slD_tup, slD_lst, pow_10_18, itemsOf_tupI, isi_tuple, isi_int, isi_bool, isi_str, isi_list, isTup_none, isTup_bool, isTup_int, isTup_str, isTup_list, isTup_tuple, isTup_dict, isWB_none, isWB_bool, isWB_int, isWB_str, isWB_list, isWB_tuple, isWB_dict, isB_none, isB_bool, isB_int, isB_str, isB_list, isB_tuple, isB_dict, isStr_none, isStr_bool, isStr_int, isStr_str, isStr_list, isStr_tuple, isStr_dict, isLst_none, isLst_bool, isLst_int, isLst_str, isLst_list, isLst_tuple, isTupI, sumD_lst, lenD_tupI, sumD_tupI, lenD_drD, eqD_int, neD_int, ixD_tup, ixD_lst, at0, at1, at2, at3, List.length_cons, List.length_nil, List.map_cons, List.map_nil, List.cons_append, List.nil_append, List.replicate, List.getElem?_cons_zero, List.getElem?_cons_succ, List.getElem?_nil, List.set_cons_zero, List.set_cons_succ, Nat.reduceAdd, Nat.reduceSub, Nat.reduceLeDiff, Nat.reduceEqDiff, if_true, if_false, beq_self_eq_true, decide_true, eq_self, reduceCtorEq, Bool.not_true, Bool.not_false, Bool.true_and, Bool.and_true, Bool.false_and, Bool.and_false, Bool.or_true, Bool.true_or, Bool.or_false, Bool.false_or, Bool.false_eq_true, Option.map_some, Option.map_none, Option.bind_some, Option.bind_none]
  obtain ⟨a', h1, h2⟩ := div_loop [] (fu_divisor [.da (.int a), .da (.int b)]) a b (by show b.natAbs < b.natAbs + 1; omega)
  simp only [runP, runS, seqS, nextS_ap, asgS, parS, ifS, retS, retN, dropS, raiseS, neverS, contS_ap, breakS_ap, frzS, appS, extS, tgN, tgM, tgs, tgT, tgS, vE, cE, op2, op1, aN, aC, tB', andT, orT, notT, andV, orV, notV, ifE, tupE, lstE, caE, chE, callE, callS, isiE_ap, oN, oS, slE, anyI, rngI, zipI, forS, yesT, cgN, cgT, cgs, whileS, rawL, rawOf, rawL_nil, datL, datL_nil, Rv.dat, GD.toBool, toBool_bool, intOf, intOf_int, ofO, ofO_some, ofO_none, Re.ok_bind, Re.ex_bind, Re.no_bind, Re.pure_eq, addD_int, addD_tup, addD_lst, addD_str, subD_int, negD_int, ltD_int, leD_int, gtD_int, geD_int, isD_none, isD_bool, isNotD_none, isNotD_bool, isNoneD_none, isNoneD_bool, isNoneD_int, isNoneD_str, isNoneD_list, isNoneD_tuple, isNoneD_dict, lenD_lst, lenD_tup, absD_int, intD_int, intD_bool, tupleD_lst, tupleD_tup, listD_lst, listD_tup, itemsOf_lst, itemsOf_tup, zipD_lst, zipD_tup, maxD_int, minD_int, slD_tup, slD_lst, pow_10_18, itemsOf_tupI, isi_tuple, isi_int, isi_bool, isi_str, isi_list, isTup_none, isTup_bool, isTup_int, isTup_str, isTup_list, isTup_tuple, isTup_dict, isWB_none, isWB_bool, isWB_int, isWB_str, isWB_list, isWB_tuple, isWB_dict, isB_none, isB_bool, isB_int, isB_str, isB_list, isB_tuple, isB_dict, isStr_none, isStr_bool, isStr_int, isStr_str, isStr_list, isStr_tuple, isStr_dict, isLst_none, isLst_bool, isLst_int, isLst_str, isLst_list, isLst_tuple, isTupI, sumD_lst, lenD_tupI, sumD_tupI, lenD_drD, eqD_int, neD_int, ixD_tup, ixD_lst, at0, at1, at2, at3, List.length_cons, List.length_nil, List.map_cons, List.map_nil, List.cons_append, List.nil_append, List.replicate, List.getElem?_cons_zero, List.getElem?_cons_succ, List.getElem?_nil, List.set_cons_zero, List.set_cons_succ, Nat.reduceAdd, Nat.reduceSub, Nat.reduceLeDiff, Nat.reduceEqDiff, if_true, if_false, beq_self_eq_true, decide_true, eq_self, reduceCtorEq, Bool.not_true, Bool.not_false, Bool.true_and, Bool.and_true, Bool.false_and, Bool.and_false, Bool.or_true, Bool.true_or, Bool.or_false, Bool.false_or, Bool.false_eq_true, Option.map_some, Option.map_none, Option.bind_some, Option.bind_none, h1]
  rw [← h2]
  have e : (if a' < 0 then -a' else a') = (a'.natAbs : Int) := by split <;> omega
  rw [e]
theorem fraction_nat (a : Int) {d : Nat} (hd : d ≠ 0) (hs : d < 2 ^ 8000) : m_fraction [.int a, .int (d : Int)] = .ok (.da (frD (mkRat a d))) := by
  have g0 : 0 < Nat.gcd (d : Int).natAbs a.natAbs := Nat.gcd_pos_of_pos_left _ (by omega)
  have gl : Nat.gcd (d : Int).natAbs a.natAbs ≤ d := Nat.le_of_dvd (by omega) (Nat.gcd_dvd_left d a.natAbs)
  have c : ((Nat.gcd (d : Int).natAbs a.natAbs : Nat) : Int).natAbs.log2 < 9000 := by
    have := log2_lt' (Nat.lt_of_le_of_lt gl hs) (by decide)
    simp only [Int.natAbs_natCast] at this ⊢
    omega
  have c0 : 0 < ((Nat.gcd (d : Int).natAbs a.natAbs : Nat) : Int) := by omega
  have f : ∀ i, fdivD (.int i) (.int ((Nat.gcd (d : Int).natAbs a.natAbs : Nat) : Int)) = some (.da (.int (i / ((Nat.gcd (d : Int).natAbs a.natAbs : Nat) : Int)))) := fun i => fdivD_int c0 c
  unfold m_fraction d_fraction; simp only [runP, runS, seqS, nextS_ap, asgS, parS, ifS, retS, retN, dropS, raiseS, neverS, contS_ap, breakS_ap, frzS, appS, extS, tgN, tgM, tgs, tgT, tgS, vE, cE, op2, op1, aN, aC, tB', andT, orT, notT, andV, orV, notV, ifE, tupE, lstE, caE, chE, callE, callS, isiE_ap, oN, oS, slE, anyI, rngI, zipI, forS, yesT, cgN, cgT, cgs, whileS, rawL, rawOf, rawL_nil, datL, datL_nil, Rv.dat, GD.toBool, toBool_bool, intOf, intOf_int, ofO, ofO_some, ofO_none, Re.ok_bind, Re.ex_bind, Re.no_bind, Re.pure_eq, addD_int, addD_tup, addD_lst, addD_str, subD_int, negD_int, ltD_int, leD_int, gtD_int, geD_int, isD_none, isD_bool, isNotD_none, isNotD_bool, isNoneD_none, isNoneD_bool, isNoneD_int, isNoneD_str, isNoneD_list, isNoneD_tuple, isNoneD_dict, lenD_lst, lenD_tup, absD_int, intD_int, intD_bool, tupleD_lst, tupleD_tup, listD_lst, listD_tup, itemsOf_lst, itemsOf_tup, zipD_lst, zipD_tup, maxD_int, minD_int, slD_tup, slD_lst, pow_10_18, itemsOf_tupI, isi_tuple, isi_int, isi_bool, isi_str, isi_list, isTup_none, isTup_bool, isTup_int, isTup_str, isTup_list, isTup_tuple, isTup_dict, isWB_none, isWB_bool, isWB_int, isWB_str, isWB_list, isWB_tuple, isWB_dict, isB_none, isB_bool, isB_int, isB_str, isB_list, isB_tuple, isB_dict, isStr_none, isStr_bool, isStr_int, isStr_str, isStr_list, isStr_tuple, isStr_dict, isLst_none, isLst_bool, isLst_int, isLst_str, isLst_list, isLst_tuple, isTupI, sumD_lst, lenD_tupI, sumD_tupI, lenD_drD, eqD_int, neD_int, ixD_tup, ixD_lst, at0, at1, at2, at3, List.length_cons, List.length_nil, List.map_cons, List.map_nil, List.cons_append, List.nil_append, List.replicate, List.getElem?_cons_zero, List.getElem?_cons_succ, List.getElem?_nil, List.set_cons_zero, List.set_cons_succ, Nat.reduceAdd, Nat.reduceSub, Nat.reduceLeDiff, Nat.reduceEqDiff, if_true, if_false, beq_self_eq_true, decide_true, eq_self, reduceCtorEq, Bool.not_true, Bool.not_false, Bool.true_and, Bool.and_true, Bool.false_and, Bool.and_false, Bool.or_true, Bool.true_or, Bool.or_false, Bool.false_or, Bool.false_eq_true, Option.map_some, Option.map_none, Option.bind_some, Option.bind_none, divisor_ev, f]
  obtain ⟨h1, h2⟩ := mkRat_nd a hd
  unfold frD
  rw [h1, h2]
  have e : Nat.gcd (d : Int).natAbs a.natAbs = a.natAbs.gcd d := Nat.gcd_comm _ _
  rw [e, Int.natCast_ediv]
theorem fraction_ev (a : Int) {b : Int} (h : 0 < b) (hs : b < 2 ^ 8000) : m_fraction [.int a, .int b] = .ok (.da (frD ((a : Rat) / (b : Rat)))) := by
  have h2 := fraction_nat a (d := b.toNat) (by omega) (by rw [← Int.ofNat_lt]; rw [Int.toNat_of_nonneg (by omega)]; simpa using hs)
  rw [Int.toNat_of_nonneg (by omega), mkRat_div a h] at h2
  exact h2
theorem by_ev {k l : Nat} {p q : Rat} (hp : Sm' k p) (hq : Sm' l q) (hk : k + l ≤ 8000) (hk0 : 0 < k) (hl0 : 0 < l) : m_by [frD p, frD q] = .ok (.da (frD (p * q))) := by
  have b1 := bigI_of hp.num (by omega) hk0
  have b2 := bigI_of hq.num (by omega) hl0
  have b3 : bigI (p.den : Int) = false := bigI_of (k := k) (by simpa using hp.den) (by omega) hk0
  have b4 : bigI (q.den : Int) = false := bigI_of (k := l) (by simpa using hq.den) (by omega) hl0
  have := fraction_nat (p.num * q.num) (d := p.den * q.den) (Nat.mul_ne_zero p.den_nz q.den_nz) (Nat.lt_of_lt_of_le (mul_lt_pow hp.den hq.den) (Nat.pow_le_pow_right (by decide) hk))
  rw [Int.natCast_mul] at this
  unfold m_by d_by frD; simp only [runP, runS, seqS, nextS_ap, asgS, parS, ifS, retS, retN, dropS, raiseS, neverS, contS_ap, breakS_ap, frzS, appS, extS, tgN, tgM, tgs, tgT, tgS, vE, cE, op2, op1, aN, aC, tB', andT, orT, notT, andV, orV, notV, ifE, tupE, lstE, caE, chE, callE, callS, isiE_ap, oN, oS, slE, anyI, rngI, zipI, forS, yesT, cgN, cgT, cgs, whileS, rawL, rawOf, rawL_nil, datL, datL_nil, Rv.dat, GD.toBool, toBool_bool, intOf, intOf_int, ofO, ofO_some, ofO_none, Re.ok_bind, Re.ex_bind, Re.no_bind, Re.pure_eq, addD_int, addD_tup, addD_lst, addD_str, subD_int, negD_int, ltD_int, leD_int, gtD_int, geD_int, isD_none, isD_bool, isNotD_none, isNotD_bool, isNoneD_none, isNoneD_bool, isNoneD_int, isNoneD_str, isNoneD_list, isNoneD_tuple, isNoneD_dict, lenD_lst, lenD_tup, absD_int, intD_int, intD_bool, tupleD_lst, tupleD_tup, listD_lst, listD_tup, itemsOf_lst, itemsOf_tup, zipD_lst, zipD_tup, maxD_int, minD_int, slD_tup, slD_lst, pow_10_18, itemsOf_tupI, isi_tuple, isi_int, isi_bool, isi_str, isi_list, isTup_none, isTup_bool, isTup_int, isTup_str, isTup_list, isTup_tuple, isTup_dict, isWB_none, isWB_bool, isWB_int, isWB_str, isWB_list, isWB_tuple, isWB_dict, isB_none, isB_bool, isB_int, isB_str, isB_list, isB_tuple, isB_dict, isStr_none, isStr_bool, isStr_int, isStr_str, isStr_list, isStr_tuple, isStr_dict, isLst_none, isLst_bool, isLst_int, isLst_str, isLst_list, isLst_tuple, isTupI, sumD_lst, lenD_tupI, sumD_tupI, lenD_drD, eqD_int, neD_int, ixD_tup, ixD_lst, at0, at1, at2, at3, List.length_cons, List.length_nil, List.map_cons, List.map_nil, List.cons_append, List.nil_append, List.replicate, List.getElem?_cons_zero, List.getElem?_cons_succ, List.getElem?_nil, List.set_cons_zero, List.set_cons_succ, Nat.reduceAdd, Nat.reduceSub, Nat.reduceLeDiff, Nat.reduceEqDiff, if_true, if_false, beq_self_eq_true, decide_true, eq_self, reduceCtorEq, Bool.not_true, Bool.not_false, Bool.true_and, Bool.and_true, Bool.false_and, Bool.and_false, Bool.or_true, Bool.true_or, Bool.or_false, Bool.false_or, Bool.false_eq_true, Option.map_some, Option.map_none, Option.bind_some, Option.bind_none, mulD_int b1 b2, mulD_int b3 b4, this]
  rw [Rat.mul_def']
  rfl
theorem is_urn_ev (d : D) : m_is_urn [d] = .ok (.da (.bool (isUrn d))) := by
  unfold m_is_urn d_is_urn
  cases d
  case tuple xs =>
    simp only [runP, runS, seqS, nextS_ap, asgS, parS, ifS, retS, retN, dropS, raiseS, neverS, contS_ap, breakS_ap, frzS, appS, extS, tgN, tgM, tgs, tgT, tgS, vE, cE, op2, op1, aN, aC, tB', andT, orT, notT, andV, orV, notV, ifE, tupE, lstE, caE, chE, callE, callS, isiE_ap, oN, oS, slE, anyI, rngI, zipI, forS, yesT, cgN, cgT, cgs, whileS, rawL, rawOf, rawL_nil, datL, datL_nil, Rv.dat, GD.toBool, toBool_bool, intOf, intOf_int, ofO, ofO_some, ofO_none, Re.ok_bind, Re.ex_bind, Re.no_bind, Re.pure_eq, addD_int, addD_tup, addD_lst, addD_str, subD_int, negD_int, ltD_int, leD_int, gtD_int, geD_int, isD_none, isD_bool, isNotD_none, isNotD_bool, isNoneD_none, isNoneD_bool, isNoneD_int, isNoneD_str, isNoneD_list, isNoneD_tuple, isNoneD_dict, lenD_lst, lenD_tup, absD_int, intD_int, intD_bool, tupleD_lst, tupleD_tup, listD_lst, listD_tup, itemsOf_lst, itemsOf_tup, zipD_lst, zipD_tup, maxD_int, minD_int, slD_tup, slD_lst, pow_10_18, itemsOf_tupI, isi_tuple, isi_int, isi_bool, isi_str, isi_list, isTup_none, isTup_bool, isTup_int, isTup_str, isTup_list, isTup_tuple, isTup_dict, isWB_none, isWB_bool, isWB_int, isWB_str, isWB_list, isWB_tuple, isWB_dict, isB_none, isB_bool, isB_int, isB_str, isB_list, isB_tuple, isB_dict, isStr_none, isStr_bool, isStr_int, isStr_str, isStr_list, isStr_tuple, isStr_dict, isLst_none, isLst_bool, isLst_int, isLst_str, isLst_list, isLst_tuple, isTupI, sumD_lst, lenD_tupI, sumD_tupI, lenD_drD, eqD_int, neD_int, ixD_tup, ixD_lst, at0, at1, at2, at3, List.length_cons, List.length_nil, List.map_cons, List.map_nil, List.cons_append, List.nil_append, List.replicate, List.getElem?_cons_zero, List.getElem?_cons_succ, List.getElem?_nil, List.set_cons_zero, List.set_cons_succ, Nat.reduceAdd, Nat.reduceSub, Nat.reduceLeDiff, Nat.reduceEqDiff, if_true, if_false, beq_self_eq_true, decide_true, eq_self, reduceCtorEq, Bool.not_true, Bool.not_false, Bool.true_and, Bool.and_true, Bool.false_and, Bool.and_false, Bool.or_true, Bool.true_or, Bool.or_false, Bool.false_or, Bool.false_eq_true, Option.map_some, Option.map_none, Option.bind_some, Option.bind_none]
    by_cases h1 : (1 : Int) ≤ xs.length
    · by_cases h2 : (xs.length : Int) ≤ 4
      · have L := lc_map (it := anyI (vE 0)) (j := 1) (te := callE m_is_between (aC (vE 1) (aC (cE (.int 0)) (aC (cE (.int 20)) aN)))) (h := fun d => .bool (btw d 0 20)) (g := [.da (.tuple xs), .un]) (g1 := [.da (.tuple xs), .un]) (ds := xs) rfl (by omega)
          (fun d _ => ⟨.da (.bool (btw d 0 20)), by simp only [runP, runS, seqS, nextS_ap, asgS, parS, ifS, retS, retN, dropS, raiseS, neverS, contS_ap, breakS_ap, frzS, appS, extS, tgN, tgM, tgs, tgT, tgS, vE, cE, op2, op1, aN, aC, tB', andT, orT, notT, andV, orV, notV, ifE, tupE, lstE, caE, chE, callE, callS, isiE_ap, oN, oS, slE, anyI, rngI, zipI, forS, yesT, cgN, cgT, cgs, whileS, rawL, rawOf, rawL_nil, datL, datL_nil, Rv.dat, GD.toBool, toBool_bool, intOf, intOf_int, ofO, ofO_some, ofO_none, Re.ok_bind, Re.ex_bind, Re.no_bind, Re.pure_eq, addD_int, addD_tup, addD_lst, addD_str, subD_int, negD_int, ltD_int, leD_int, gtD_int, geD_int, isD_none, isD_bool, isNotD_none, isNotD_bool, isNoneD_none, isNoneD_bool, isNoneD_int, isNoneD_str, isNoneD_list, isNoneD_tuple, isNoneD_dict, lenD_lst, lenD_tup, absD_int, intD_int, intD_bool, tupleD_lst, tupleD_tup, listD_lst, listD_tup, itemsOf_lst, itemsOf_tup, zipD_lst, zipD_tup, maxD_int, minD_int, slD_tup, slD_lst, pow_10_18, itemsOf_tupI, isi_tuple, isi_int, isi_bool, isi_str, isi_list, isTup_none, isTup_bool, isTup_int, isTup_str, isTup_list, isTup_tuple, isTup_dict, isWB_none, isWB_bool, isWB_int, isWB_str, isWB_list, isWB_tuple, isWB_dict, isB_none, isB_bool, isB_int, isB_str, isB_list, isB_tuple, isB_dict, isStr_none, isStr_bool, isStr_int, isStr_str, isStr_list, isStr_tuple, isStr_dict, isLst_none, isLst_bool, isLst_int, isLst_str, isLst_list, isLst_tuple, isTupI, sumD_lst, lenD_tupI, sumD_tupI, lenD_drD, eqD_int, neD_int, ixD_tup, ixD_lst, at0, at1, at2, at3, List.length_cons, List.length_nil, List.map_cons, List.map_nil, List.cons_append, List.nil_append, List.replicate, List.getElem?_cons_zero, List.getElem?_cons_succ, List.getElem?_nil, List.set_cons_zero, List.set_cons_succ, Nat.reduceAdd, Nat.reduceSub, Nat.reduceLeDiff, Nat.reduceEqDiff, if_true, if_false, beq_self_eq_true, decide_true, eq_self, reduceCtorEq, Bool.not_true, Bool.not_false, Bool.true_and, Bool.and_true, Bool.false_and, Bool.and_false, Bool.or_true, Bool.true_or, Bool.or_false, Bool.false_or, Bool.false_eq_true, Option.map_some, Option.map_none, Option.bind_some, Option.bind_none, is_between_ev], rfl⟩)
        simp only [runP, runS, seqS, nextS_ap, asgS, parS, ifS, retS, retN, dropS, raiseS, neverS, contS_ap, breakS_ap, frzS, appS, extS, tgN, tgM, tgs, tgT, tgS, vE, cE, op2, op1, aN, aC, tB', andT, orT, notT, andV, orV, notV, ifE, tupE, lstE, caE, chE, callE, callS, isiE_ap, oN, oS, slE, anyI, rngI, zipI, forS, yesT, cgN, cgT, cgs, whileS, rawL, rawOf, rawL_nil, datL, datL_nil, Rv.dat, GD.toBool, toBool_bool, intOf, intOf_int, ofO, ofO_some, ofO_none, Re.ok_bind, Re.ex_bind, Re.no_bind, Re.pure_eq, addD_int, addD_tup, addD_lst, addD_str, subD_int, negD_int, ltD_int, leD_int, gtD_int, geD_int, isD_none, isD_bool, isNotD_none, isNotD_bool, isNoneD_none, isNoneD_bool, isNoneD_int, isNoneD_str, isNoneD_list, isNoneD_tuple, isNoneD_dict, lenD_lst, lenD_tup, absD_int, intD_int, intD_bool, tupleD_lst, tupleD_tup, listD_lst, listD_tup, itemsOf_lst, itemsOf_tup, zipD_lst, zipD_tup, maxD_int, minD_int, slD_tup, slD_lst, pow_10_18, itemsOf_tupI, isi_tuple, isi_int, isi_bool, isi_str, isi_list, isTup_none, isTup_bool, isTup_int, isTup_str, isTup_list, isTup_tuple, isTup_dict, isWB_none, isWB_bool, isWB_int, isWB_str, isWB_list, isWB_tuple, isWB_dict, isB_none, isB_bool, isB_int, isB_str, isB_list, isB_tuple, isB_dict, isStr_none, isStr_bool, isStr_int, isStr_str, isStr_list, isStr_tuple, isStr_dict, isLst_none, isLst_bool, isLst_int, isLst_str, isLst_list, isLst_tuple, isTupI, sumD_lst, lenD_tupI, sumD_tupI, lenD_drD, eqD_int, neD_int, ixD_tup, ixD_lst, at0, at1, at2, at3, List.length_cons, List.length_nil, List.map_cons, List.map_nil, List.cons_append, List.nil_append, List.replicate, List.getElem?_cons_zero, List.getElem?_cons_succ, List.getElem?_nil, List.set_cons_zero, List.set_cons_succ, Nat.reduceAdd, Nat.reduceSub, Nat.reduceLeDiff, Nat.reduceEqDiff, if_true, if_false, beq_self_eq_true, decide_true, eq_self, reduceCtorEq, Bool.not_true, Bool.not_false, Bool.true_and, Bool.and_true, Bool.false_and, Bool.and_false, Bool.or_true, Bool.true_or, Bool.or_false, Bool.false_or, Bool.false_eq_true, Option.map_some, Option.map_none, Option.bind_some, Option.bind_none, h1, h2, decide_true, L, allD_fn, isUrn, List.set_cons_succ, List.set_cons_zero]
        cases h3 : xs.all (btw · 0 20)
        · rfl
        · obtain ⟨h4, h5⟩ := intsOf_btw h3
          have e : sumD [.tuple xs] = some (.da (.int (xs.map iv).sum)) := by show (intsOf xs).map _ = _; rw [h4]; rfl
          simp only [runP, runS, seqS, nextS_ap, asgS, parS, ifS, retS, retN, dropS, raiseS, neverS, contS_ap, breakS_ap, frzS, appS, extS, tgN, tgM, tgs, tgT, tgS, vE, cE, op2, op1, aN, aC, tB', andT, orT, notT, andV, orV, notV, ifE, tupE, lstE, caE, chE, callE, callS, isiE_ap, oN, oS, slE, anyI, rngI, zipI, forS, yesT, cgN, cgT, cgs, whileS, rawL, rawOf, rawL_nil, datL, datL_nil, Rv.dat, GD.toBool, toBool_bool, intOf, intOf_int, ofO, ofO_some, ofO_none, Re.ok_bind, Re.ex_bind, Re.no_bind, Re.pure_eq, addD_int, addD_tup, addD_lst, addD_str, subD_int, negD_int, ltD_int, leD_int, gtD_int, geD_int, isD_none, isD_bool, isNotD_none, isNotD_bool, isNoneD_none, isNoneD_bool, isNoneD_int, isNoneD_str, isNoneD_list, isNoneD_tuple, isNoneD_dict, lenD_lst, lenD_tup, absD_int, intD_int, intD_bool, tupleD_lst, tupleD_tup, listD_lst, listD_tup, itemsOf_lst, itemsOf_tup, zipD_lst, zipD_tup, maxD_int, minD_int, slD_tup, slD_lst, pow_10_18, itemsOf_tupI, isi_tuple, isi_int, isi_bool, isi_str, isi_list, isTup_none, isTup_bool, isTup_int, isTup_str, isTup_list, isTup_tuple, isTup_dict, isWB_none, isWB_bool, isWB_int, isWB_str, isWB_list, isWB_tuple, isWB_dict, isB_none, isB_bool, isB_int, isB_str, isB_list, isB_tuple, isB_dict, isStr_none, isStr_bool, isStr_int, isStr_str, isStr_list, isStr_tuple, isStr_dict, isLst_none, isLst_bool, isLst_int, isLst_str, isLst_list, isLst_tuple, isTupI, sumD_lst, lenD_tupI, sumD_tupI, lenD_drD, eqD_int, neD_int, ixD_tup, ixD_lst, at0, at1, at2, at3, List.length_cons, List.length_nil, List.map_cons, List.map_nil, List.cons_append, List.nil_append, List.replicate, List.getElem?_cons_zero, List.getElem?_cons_succ, List.getElem?_nil, List.set_cons_zero, List.set_cons_succ, Nat.reduceAdd, Nat.reduceSub, Nat.reduceLeDiff, Nat.reduceEqDiff, if_true, if_false, beq_self_eq_true, decide_true, eq_self, reduceCtorEq, Bool.not_true, Bool.not_false, Bool.true_and, Bool.and_true, Bool.false_and, Bool.and_false, Bool.or_true, Bool.true_or, Bool.or_false, Bool.false_or, Bool.false_eq_true, Option.map_some, Option.map_none, Option.bind_some, Option.bind_none, e]
      · have e : decide ((xs.length : Int) ≤ 4) = false := decide_eq_false h2
        simp only [runP, runS, seqS, nextS_ap, asgS, parS, ifS, retS, retN, dropS, raiseS, neverS, contS_ap, breakS_ap, frzS, appS, extS, tgN, tgM, tgs, tgT, tgS, vE, cE, op2, op1, aN, aC, tB', andT, orT, notT, andV, orV, notV, ifE, tupE, lstE, caE, chE, callE, callS, isiE_ap, oN, oS, slE, anyI, rngI, zipI, forS, yesT, cgN, cgT, cgs, whileS, rawL, rawOf, rawL_nil, datL, datL_nil, Rv.dat, GD.toBool, toBool_bool, intOf, intOf_int, ofO, ofO_some, ofO_none, Re.ok_bind, Re.ex_bind, Re.no_bind, Re.pure_eq, addD_int, addD_tup, addD_lst, addD_str, subD_int, negD_int, ltD_int, leD_int, gtD_int, geD_int, isD_none, isD_bool, isNotD_none, isNotD_bool, isNoneD_none, isNoneD_bool, isNoneD_int, isNoneD_str, isNoneD_list, isNoneD_tuple, isNoneD_dict, lenD_lst, lenD_tup, absD_int, intD_int, intD_bool, tupleD_lst, tupleD_tup, listD_lst, listD_tup, itemsOf_lst, itemsOf_tup, zipD_lst, zipD_tup, maxD_int, minD_int, slD_tup, slD_lst, pow_10_18, itemsOf_tupI, isi_tuple, isi_int, isi_bool, isi_str, isi_list, isTup_none, isTup_bool, isTup_int, isTup_str, isTup_list, isTup_tuple, isTup_dict, isWB_none, isWB_bool, isWB_int, isWB_str, isWB_list, isWB_tuple, isWB_dict, isB_none, isB_bool, isB_int, isB_str, isB_list, isB_tuple, isB_dict, isStr_none, isStr_bool, isStr_int, isStr_str, isStr_list, isStr_tuple, isStr_dict, isLst_none, isLst_bool, isLst_int, isLst_str, isLst_list, isLst_tuple, isTupI, sumD_lst, lenD_tupI, sumD_tupI, lenD_drD, eqD_int, neD_int, ixD_tup, ixD_lst, at0, at1, at2, at3, List.length_cons, List.length_nil, List.map_cons, List.map_nil, List.cons_append, List.nil_append, List.replicate, List.getElem?_cons_zero, List.getElem?_cons_succ, List.getElem?_nil, List.set_cons_zero, List.set_cons_succ, Nat.reduceAdd, Nat.reduceSub, Nat.reduceLeDiff, Nat.reduceEqDiff, if_true, if_false, beq_self_eq_true, decide_true, eq_self, reduceCtorEq, Bool.not_true, Bool.not_false, Bool.true_and, Bool.and_true, Bool.false_and, Bool.and_false, Bool.or_true, Bool.true_or, Bool.or_false, Bool.false_or, Bool.false_eq_true, Option.map_some, Option.map_none, Option.bind_some, Option.bind_none, isUrn, e, h1, decide_true]
    · have e : decide ((1 : Int) ≤ xs.length) = false := decide_eq_false h1
      simp only [runP, runS, seqS, nextS_ap, asgS, parS, ifS, retS, retN, dropS, raiseS, neverS, contS_ap, breakS_ap, frzS, appS, extS, tgN, tgM, tgs, tgT, tgS, vE, cE, op2, op1, aN, aC, tB', andT, orT, notT, andV, orV, notV, ifE, tupE, lstE, caE, chE, callE, callS, isiE_ap, oN, oS, slE, anyI, rngI, zipI, forS, yesT, cgN, cgT, cgs, whileS, rawL, rawOf, rawL_nil, datL, datL_nil, Rv.dat, GD.toBool, toBool_bool, intOf, intOf_int, ofO, ofO_some, ofO_none, Re.ok_bind, Re.ex_bind, Re.no_bind, Re.pure_eq, addD_int, addD_tup, addD_lst, addD_str, subD_int, negD_int, ltD_int, leD_int, gtD_int, geD_int, isD_none, isD_bool, isNotD_none, isNotD_bool, isNoneD_none, isNoneD_bool, isNoneD_int, isNoneD_str, isNoneD_list, isNoneD_tuple, isNoneD_dict, lenD_lst, lenD_tup, absD_int, intD_int, intD_bool, tupleD_lst, tupleD_tup, listD_lst, listD_tup, itemsOf_lst, itemsOf_tup, zipD_lst, zipD_tup, maxD_int, minD_int, slD_tup, slD_lst, pow_10_18, itemsOf_tupI, isi_tuple, isi_int, isi_bool, isi_str, isi_list, isTup_none, isTup_bool, isTup_int, isTup_str, isTup_list, isTup_tuple, isTup_dict, isWB_none, isWB_bool, isWB_int, isWB_str, isWB_list, isWB_tuple, isWB_dict, isB_none, isB_bool, isB_int, isB_str, isB_list, isB_tuple, isB_dict, isStr_none, isStr_bool, isStr_int, isStr_str, isStr_list, isStr_tuple, isStr_dict, isLst_none, isLst_bool, isLst_int, isLst_str, isLst_list, isLst_tuple, isTupI, sumD_lst, lenD_tupI, sumD_tupI, lenD_drD, eqD_int, neD_int, ixD_tup, ixD_lst, at0, at1, at2, at3, List.length_cons, List.length_nil, List.map_cons, List.map_nil, List.cons_append, List.nil_append, List.replicate, List.getElem?_cons_zero, List.getElem?_cons_succ, List.getElem?_nil, List.set_cons_zero, List.set_cons_succ, Nat.reduceAdd, Nat.reduceSub, Nat.reduceLeDiff, Nat.reduceEqDiff, if_true, if_false, beq_self_eq_true, decide_true, eq_self, reduceCtorEq, Bool.not_true, Bool.not_false, Bool.true_and, Bool.and_true, Bool.false_and, Bool.and_false, Bool.or_true, Bool.true_or, Bool.or_false, Bool.false_or, Bool.false_eq_true, Option.map_some, Option.map_none, Option.bind_some, Option.bind_none, isUrn, e]
  all_goals (simp only [runP, runS, seqS, nextS_ap, asgS, parS, ifS, retS, retN, dropS, raiseS, neverS, contS_ap, breakS_ap, frzS, appS, extS, tgN, tgM, tgs, tgT, tgS, vE, cE, op2, op1, aN, aC, tB', andT, orT, notT, andV, orV, notV, ifE, tupE, lstE, caE, chE, callE, callS, isiE_ap, oN, oS, slE, anyI, rngI, zipI, forS, yesT, cgN, cgT, cgs, whileS, rawL, rawOf, rawL_nil, datL, datL_nil, Rv.dat, GD.toBool, toBool_bool, intOf, intOf_int, ofO, ofO_some, ofO_none, Re.ok_bind, Re.ex_bind, Re.no_bind, Re.pure_eq, addD_int, addD_tup, addD_lst, addD_str, subD_int, negD_int, ltD_int, leD_int, gtD_int, geD_int, isD_none, isD_bool, isNotD_none, isNotD_bool, isNoneD_none, isNoneD_bool, isNoneD_int, isNoneD_str, isNoneD_list, isNoneD_tuple, isNoneD_dict, lenD_lst, lenD_tup, absD_int, intD_int, intD_bool, tupleD_lst, tupleD_tup, listD_lst, listD_tup, itemsOf_lst, itemsOf_tup, zipD_lst, zipD_tup, maxD_int, minD_int, slD_tup, slD_lst, pow_10_18, itemsOf_tupI, isi_tuple, isi_int, isi_bool, isi_str, isi_list, isTup_none, isTup_bool, isTup_int, isTup_str, isTup_list, isTup_tuple, isTup_dict, isWB_none, isWB_bool, isWB_int, isWB_str, isWB_list, isWB_tuple, isWB_dict, isB_none, isB_bool, isB_int, isB_str, isB_list, isB_tuple, isB_dict, isStr_none, isStr_bool, isStr_int, isStr_str, isStr_list, isStr_tuple, isStr_dict, isLst_none, isLst_bool, isLst_int, isLst_str, isLst_list, isLst_tuple, isTupI, sumD_lst, lenD_tupI, sumD_tupI, lenD_drD, eqD_int, neD_int, ixD_tup, ixD_lst, at0, at1, at2, at3, List.length_cons, List.length_nil, List.map_cons, List.map_nil, List.cons_append, List.nil_append, List.replicate, List.getElem?_cons_zero, List.getElem?_cons_succ, List.getElem?_nil, List.set_cons_zero, List.set_cons_succ, Nat.reduceAdd, Nat.reduceSub, Nat.reduceLeDiff, Nat.reduceEqDiff, if_true, if_false, beq_self_eq_true, decide_true, eq_self, reduceCtorEq, Bool.not_true, Bool.not_false, Bool.true_and, Bool.and_true, Bool.false_and, Bool.and_false, Bool.or_true, Bool.true_or, Bool.or_false, Bool.false_or, Bool.false_eq_true, Option.map_some, Option.map_none, Option.bind_some, Option.bind_none, isUrn])
theorem rule_loop (k : Int) (hk : k ≤ 1000000) (t : D) : ∀ (ls : List D) (s2 s3 : Sl), ∃ s2' s3', forD (tgN 2)
      (seqS (ifS (orT (notT (tB' (isiE "tuple" (vE 2)))) (tB' (op2 neD (caE lenD (aC (vE 2) aN)) (vE 0)))) (retS (cE (.bool false))) nextS) (ifS (notT (tB' (caE allD (aC (lcE (anyI (vE 2)) (cgN 3) yesT (callE m_is_between (aC (vE 3) (aC (cE (.int 0)) (aC (cE (.int 5)) aN)))) [3]) aN)))) (retS (cE (.bool false))) nextS))
      ls [.da (.int k), .da t, s2, s3] = if ls.all (isLine k) then .nx [.da (.int k), .da t, s2', s3'] else .rt (.da (.bool false)) [.da (.int k), .da t, s2', s3']
  | [], s2, s3 => ⟨s2, s3, rfl⟩
  | d :: ls, s2, s3 => by
    unfold forD
    cases d
    case tuple xs =>
      by_cases h : (xs.length : Int) = k
      · subst h
        have L := lc_map (it := anyI (vE 2)) (j := 3) (te := callE m_is_between (aC (vE 3) (aC (cE (.int 0)) (aC (cE (.int 5)) aN)))) (h := fun d => .bool (btw d 0 5)) (g := [.da (.int xs.length), .da t, .da (.tuple xs), s3]) (g1 := [.da (.int xs.length), .da t, .da (.tuple xs), s3]) (ds := xs) rfl (by omega)
          (fun d _ => ⟨.da (.bool (btw d 0 5)), by simp only [runP, runS, seqS, nextS_ap, asgS, parS, ifS, retS, retN, dropS, raiseS, neverS, contS_ap, breakS_ap, frzS, appS, extS, tgN, tgM, tgs, tgT, tgS, vE, cE, op2, op1, aN, aC, tB', andT, orT, notT, andV, orV, notV, ifE, tupE, lstE, caE, chE, callE, callS, isiE_ap, oN, oS, slE, anyI, rngI, zipI, forS, yesT, cgN, cgT, cgs, whileS, rawL, rawOf, rawL_nil, datL, datL_nil, Rv.dat, GD.toBool, toBool_bool, intOf, intOf_int, ofO, ofO_some, ofO_none, Re.ok_bind, Re.ex_bind, Re.no_bind, Re.pure_eq, addD_int, addD_tup, addD_lst, addD_str, subD_int, negD_int, ltD_int, leD_int, gtD_int, geD_int, isD_none, isD_bool, isNotD_none, isNotD_bool, isNoneD_none, isNoneD_bool, isNoneD_int, isNoneD_str, isNoneD_list, isNoneD_tuple, isNoneD_dict, lenD_lst, lenD_tup, absD_int, intD_int, intD_bool, tupleD_lst, tupleD_tup, listD_lst, listD_tup, itemsOf_lst, itemsOf_tup, zipD_lst, zipD_tup, maxD_int, minD_int, slD_tup, slD_lst, pow_10_18, itemsOf_tupI, isi_tuple, isi_int, isi_bool, isi_str, isi_list, isTup_none, isTup_bool, isTup_int, isTup_str, isTup_list, isTup_tuple, isTup_dict, isWB_none, isWB_bool, isWB_int, isWB_str, isWB_list, isWB_tuple, isWB_dict, isB_none, isB_bool, isB_int, isB_str, isB_list, isB_tuple, isB_dict, isStr_none, isStr_bool, isStr_int, isStr_str, isStr_list, isStr_tuple, isStr_dict, isLst_none, isLst_bool, isLst_int, isLst_str, isLst_list, isLst_tuple, isTupI, sumD_lst, lenD_tupI, sumD_tupI, lenD_drD, eqD_int, neD_int, ixD_tup, ixD_lst, at0, at1, at2, at3, List.length_cons, List.length_nil, List.map_cons, List.map_nil, List.cons_append, List.nil_append, List.replicate, List.getElem?_cons_zero, List.getElem?_cons_succ, List.getElem?_nil, List.set_cons_zero, List.set_cons_succ, Nat.reduceAdd, Nat.reduceSub, Nat.reduceLeDiff, Nat.reduceEqDiff, if_true, if_false, beq_self_eq_true, decide_true, eq_self, reduceCtorEq, Bool.not_true, Bool.not_false, Bool.true_and, Bool.and_true, Bool.false_and, Bool.and_false, Bool.or_true, Bool.true_or, Bool.or_false, Bool.false_or, Bool.false_eq_true, Option.map_some, Option.map_none, Option.bind_some, Option.bind_none, is_between_ev], rfl⟩)
        cases h3 : xs.all (btw · 0 5)
        · refine ⟨.da (.tuple xs), .un, ?_⟩
          simp only [runP, runS, seqS, nextS_ap, asgS, parS, ifS, retS, retN, dropS, raiseS, neverS, contS_ap, breakS_ap, frzS, appS, extS, tgN, tgM, tgs, tgT, tgS, vE, cE, op2, op1, aN, aC, tB', andT, orT, notT, andV, orV, notV, ifE, tupE, lstE, caE, chE, callE, callS, isiE_ap, oN, oS, slE, anyI, rngI, zipI, forS, yesT, cgN, cgT, cgs, whileS, rawL, rawOf, rawL_nil, datL, datL_nil, Rv.dat, GD.toBool, toBool_bool, intOf, intOf_int, ofO, ofO_some, ofO_none, Re.ok_bind, Re.ex_bind, Re.no_bind, Re.pure_eq, addD_int, addD_tup, addD_lst, addD_str, subD_int, negD_int, ltD_int, leD_int, gtD_int, geD_int, isD_none, isD_bool, isNotD_none, isNotD_bool, isNoneD_none, isNoneD_bool, isNoneD_int, isNoneD_str, isNoneD_list, isNoneD_tuple, isNoneD_dict, lenD_lst, lenD_tup, absD_int, intD_int, intD_bool, tupleD_lst, tupleD_tup, listD_lst, listD_tup, itemsOf_lst, itemsOf_tup, zipD_lst, zipD_tup, maxD_int, minD_int, slD_tup, slD_lst, pow_10_18, itemsOf_tupI, isi_tuple, isi_int, isi_bool, isi_str, isi_list, isTup_none, isTup_bool, isTup_int, isTup_str, isTup_list, isTup_tuple, isTup_dict, isWB_none, isWB_bool, isWB_int, isWB_str, isWB_list, isWB_tuple, isWB_dict, isB_none, isB_bool, isB_int, isB_str, isB_list, isB_tuple, isB_dict, isStr_none, isStr_bool, isStr_int, isStr_str, isStr_list, isStr_tuple, isStr_dict, isLst_none, isLst_bool, isLst_int, isLst_str, isLst_list, isLst_tuple, isTupI, sumD_lst, lenD_tupI, sumD_tupI, lenD_drD, eqD_int, neD_int, ixD_tup, ixD_lst, at0, at1, at2, at3, List.length_cons, List.length_nil, List.map_cons, List.map_nil, List.cons_append, List.nil_append, List.replicate, List.getElem?_cons_zero, List.getElem?_cons_succ, List.getElem?_nil, List.set_cons_zero, List.set_cons_succ, Nat.reduceAdd, Nat.reduceSub, Nat.reduceLeDiff, Nat.reduceEqDiff, if_true, if_false, beq_self_eq_true, decide_true, eq_self, reduceCtorEq, Bool.not_true, Bool.not_false, Bool.true_and, Bool.and_true, Bool.false_and, Bool.and_false, Bool.or_true, Bool.true_or, Bool.or_false, Bool.false_or, Bool.false_eq_true, Option.map_some, Option.map_none, Option.bind_some, Option.bind_none, L, allD_fn, h3, List.all_cons, isLine]
        · obtain ⟨s2', s3', ih⟩ := rule_loop xs.length hk t ls (.da (.tuple xs)) .un
          refine ⟨s2', s3', ?_⟩
          simp only [runP, runS, seqS, nextS_ap, asgS, parS, ifS, retS, retN, dropS, raiseS, neverS, contS_ap, breakS_ap, frzS, appS, extS, tgN, tgM, tgs, tgT, tgS, vE, cE, op2, op1, aN, aC, tB', andT, orT, notT, andV, orV, notV, ifE, tupE, lstE, caE, chE, callE, callS, isiE_ap, oN, oS, slE, anyI, rngI, zipI, forS, yesT, cgN, cgT, cgs, whileS, rawL, rawOf, rawL_nil, datL, datL_nil, Rv.dat, GD.toBool, toBool_bool, intOf, intOf_int, ofO, ofO_some, ofO_none, Re.ok_bind, Re.ex_bind, Re.no_bind, Re.pure_eq, addD_int, addD_tup, addD_lst, addD_str, subD_int, negD_int, ltD_int, leD_int, gtD_int, geD_int, isD_none, isD_bool, isNotD_none, isNotD_bool, isNoneD_none, isNoneD_bool, isNoneD_int, isNoneD_str, isNoneD_list, isNoneD_tuple, isNoneD_dict, lenD_lst, lenD_tup, absD_int, intD_int, intD_bool, tupleD_lst, tupleD_tup, listD_lst, listD_tup, itemsOf_lst, itemsOf_tup, zipD_lst, zipD_tup, maxD_int, minD_int, slD_tup, slD_lst, pow_10_18, itemsOf_tupI, isi_tuple, isi_int, isi_bool, isi_str, isi_list, isTup_none, isTup_bool, isTup_int, isTup_str, isTup_list, isTup_tuple, isTup_dict, isWB_none, isWB_bool, isWB_int, isWB_str, isWB_list, isWB_tuple, isWB_dict, isB_none, isB_bool, isB_int, isB_str, isB_list, isB_tuple, isB_dict, isStr_none, isStr_bool, isStr_int, isStr_str, isStr_list, isStr_tuple, isStr_dict, isLst_none, isLst_bool, isLst_int, isLst_str, isLst_list, isLst_tuple, isTupI, sumD_lst, lenD_tupI, sumD_tupI, lenD_drD, eqD_int, neD_int, ixD_tup, ixD_lst, at0, at1, at2, at3, List.length_cons, List.length_nil, List.map_cons, List.map_nil, List.cons_append, List.nil_append, List.replicate, List.getElem?_cons_zero, List.getElem?_cons_succ, List.getElem?_nil, List.set_cons_zero, List.set_cons_succ, Nat.reduceAdd, Nat.reduceSub, Nat.reduceLeDiff, Nat.reduceEqDiff, if_true, if_false, beq_self_eq_true, decide_true, eq_self, reduceCtorEq, Bool.not_true, Bool.not_false, Bool.true_and, Bool.and_true, Bool.false_and, Bool.and_false, Bool.or_true, Bool.true_or, Bool.or_false, Bool.false_or, Bool.false_eq_true, Option.map_some, Option.map_none, Option.bind_some, Option.bind_none, L, allD_fn, h3, List.all_cons, isLine]
          exact ih
      · have e : (!((xs.length : Int) == k)) = true := by simp [h]
        have e2 : decide ((xs.length : Int) = k) = false := decide_eq_false h
        refine ⟨.da (.tuple xs), s3, ?_⟩
        simp only [runP, runS, seqS, nextS_ap, asgS, parS, ifS, retS, retN, dropS, raiseS, neverS, contS_ap, breakS_ap, frzS, appS, extS, tgN, tgM, tgs, tgT, tgS, vE, cE, op2, op1, aN, aC, tB', andT, orT, notT, andV, orV, notV, ifE, tupE, lstE, caE, chE, callE, callS, isiE_ap, oN, oS, slE, anyI, rngI, zipI, forS, yesT, cgN, cgT, cgs, whileS, rawL, rawOf, rawL_nil, datL, datL_nil, Rv.dat, GD.toBool, toBool_bool, intOf, intOf_int, ofO, ofO_some, ofO_none, Re.ok_bind, Re.ex_bind, Re.no_bind, Re.pure_eq, addD_int, addD_tup, addD_lst, addD_str, subD_int, negD_int, ltD_int, leD_int, gtD_int, geD_int, isD_none, isD_bool, isNotD_none, isNotD_bool, isNoneD_none, isNoneD_bool, isNoneD_int, isNoneD_str, isNoneD_list, isNoneD_tuple, isNoneD_dict, lenD_lst, lenD_tup, absD_int, intD_int, intD_bool, tupleD_lst, tupleD_tup, listD_lst, listD_tup, itemsOf_lst, itemsOf_tup, zipD_lst, zipD_tup, maxD_int, minD_int, slD_tup, slD_lst, pow_10_18, itemsOf_tupI, isi_tuple, isi_int, isi_bool, isi_str, isi_list, isTup_none, isTup_bool, isTup_int, isTup_str, isTup_list, isTup_tuple, isTup_dict, isWB_none, isWB_bool, isWB_int, isWB_str, isWB_list, isWB_tuple, isWB_dict, isB_none, isB_bool, isB_int, isB_str, isB_list, isB_tuple, isB_dict, isStr_none, isStr_bool, isStr_int, isStr_str, isStr_list, isStr_tuple, isStr_dict, isLst_none, isLst_bool, isLst_int, isLst_str, isLst_list, isLst_tuple, isTupI, sumD_lst, lenD_tupI, sumD_tupI, lenD_drD, eqD_int, neD_int, ixD_tup, ixD_lst, at0, at1, at2, at3, List.length_cons, List.length_nil, List.map_cons, List.map_nil, List.cons_append, List.nil_append, List.replicate, List.getElem?_cons_zero, List.getElem?_cons_succ, List.getElem?_nil, List.set_cons_zero, List.set_cons_succ, Nat.reduceAdd, Nat.reduceSub, Nat.reduceLeDiff, Nat.reduceEqDiff, if_true, if_false, beq_self_eq_true, decide_true, eq_self, reduceCtorEq, Bool.not_true, Bool.not_false, Bool.true_and, Bool.and_true, Bool.false_and, Bool.and_false, Bool.or_true, Bool.true_or, Bool.or_false, Bool.false_or, Bool.false_eq_true, Option.map_some, Option.map_none, Option.bind_some, Option.bind_none, e, List.all_cons, isLine, e2]
    all_goals exact ⟨_, s3, by simp only [runP, runS, seqS, nextS_ap, asgS, parS, ifS, retS, retN, dropS, raiseS, neverS, contS_ap, breakS_ap, frzS, appS, extS, tgN, tgM, tgs, tgT, tgS, vE, cE, op2, op1, aN, aC, tB', andT, orT, notT, andV, orV, notV, ifE, tupE, lstE, caE, chE, callE, callS, isiE_ap, oN, oS, slE, anyI, rngI, zipI, forS, yesT, cgN, cgT, cgs, whileS, rawL, rawOf, rawL_nil, datL, datL_nil, Rv.dat, GD.toBool, toBool_bool, intOf, intOf_int, ofO, ofO_some, ofO_none, Re.ok_bind, Re.ex_bind, Re.no_bind, Re.pure_eq, addD_int, addD_tup, addD_lst, addD_str, subD_int, negD_int, ltD_int, leD_int, gtD_int, geD_int, isD_none, isD_bool, isNotD_none, isNotD_bool, isNoneD_none, isNoneD_bool, isNoneD_int, isNoneD_str, isNoneD_list, isNoneD_tuple, isNoneD_dict, lenD_lst, lenD_tup, absD_int, intD_int, intD_bool, tupleD_lst, tupleD_tup, listD_lst, listD_tup, itemsOf_lst, itemsOf_tup, zipD_lst, zipD_tup, maxD_int, minD_int, slD_tup, slD_lst, pow_10_18, itemsOf_tupI, isi_tuple, isi_int, isi_bool, isi_str, isi_list, isTup_none, isTup_bool, isTup_int, isTup_str, isTup_list, isTup_tuple, isTup_dict, isWB_none, isWB_bool, isWB_int, isWB_str, isWB_list, isWB_tuple, isWB_dict, isB_none, isB_bool, isB_int, isB_str, isB_list, isB_tuple, isB_dict, isStr_none, isStr_bool, isStr_int, isStr_str, isStr_list, isStr_tuple, isStr_dict, isLst_none, isLst_bool, isLst_int, isLst_str, isLst_list, isLst_tuple, isTupI, sumD_lst, lenD_tupI, sumD_tupI, lenD_drD, eqD_int, neD_int, ixD_tup, ixD_lst, at0, at1, at2, at3, List.length_cons, List.length_nil, List.map_cons, List.map_nil, List.cons_append, List.nil_append, List.replicate, List.getElem?_cons_zero, List.getElem?_cons_succ, List.getElem?_nil, List.set_cons_zero, List.set_cons_succ, Nat.reduceAdd, Nat.reduceSub, Nat.reduceLeDiff, Nat.reduceEqDiff, if_true, if_false, beq_self_eq_true, decide_true, eq_self, reduceCtorEq, Bool.not_true, Bool.not_false, Bool.true_and, Bool.and_true, Bool.false_and, Bool.and_false, Bool.or_true, Bool.true_or, Bool.or_false, Bool.false_or, Bool.false_eq_true, Option.map_some, Option.map_none, Option.bind_some, Option.bind_none, List.all_cons, isLine]; rfl⟩
theorem is_rule_of_ev {k : Int} (hk : k ≤ 1000000) (t : D) : m_is_rule_of [.int k, t] = .ok (.da (.bool (isRuleOf k t))) := by
  unfold m_is_rule_of d_is_rule_of
  cases t
  case tuple ls =>
    by_cases h : (ls.length : Int) = k
    · subst h
      obtain ⟨s2', s3', ih⟩ := rule_loop ls.length hk (.tuple ls) ls .un .un
      simp only [runP, runS, seqS, nextS_ap, asgS, parS, ifS, retS, retN, dropS, raiseS, neverS, contS_ap, breakS_ap, frzS, appS, extS, tgN, tgM, tgs, tgT, tgS, vE, cE, op2, op1, aN, aC, tB', andT, orT, notT, andV, orV, notV, ifE, tupE, lstE, caE, chE, callE, callS, isiE_ap, oN, oS, slE, anyI, rngI, zipI, forS, yesT, cgN, cgT, cgs, whileS, rawL, rawOf, rawL_nil, datL, datL_nil, Rv.dat, GD.toBool, toBool_bool, intOf, intOf_int, ofO, ofO_some, ofO_none, Re.ok_bind, Re.ex_bind, Re.no_bind, Re.pure_eq, addD_int, addD_tup, addD_lst, addD_str, subD_int, negD_int, ltD_int, leD_int, gtD_int, geD_int, isD_none, isD_bool, isNotD_none, isNotD_bool, isNoneD_none, isNoneD_bool, isNoneD_int, isNoneD_str, isNoneD_list, isNoneD_tuple, isNoneD_dict, lenD_lst, lenD_tup, absD_int, intD_int, intD_bool, tupleD_lst, tupleD_tup, listD_lst, listD_tup, itemsOf_lst, itemsOf_tup, zipD_lst, zipD_tup, maxD_int, minD_int, slD_tup, slD_lst, pow_10_18, itemsOf_tupI, isi_tuple, isi_int, isi_bool, isi_str, isi_list, isTup_none, isTup_bool, isTup_int, isTup_str, isTup_list, isTup_tuple, isTup_dict, isWB_none, isWB_bool, isWB_int, isWB_str, isWB_list, isWB_tuple, isWB_dict, isB_none, isB_bool, isB_int, isB_str, isB_list, isB_tuple, isB_dict, isStr_none, isStr_bool, isStr_int, isStr_str, isStr_list, isStr_tuple, isStr_dict, isLst_none, isLst_bool, isLst_int, isLst_str, isLst_list, isLst_tuple, isTupI, sumD_lst, lenD_tupI, sumD_tupI, lenD_drD, eqD_int, neD_int, ixD_tup, ixD_lst, at0, at1, at2, at3, List.length_cons, List.length_nil, List.map_cons, List.map_nil, List.cons_append, List.nil_append, List.replicate, List.getElem?_cons_zero, List.getElem?_cons_succ, List.getElem?_nil, List.set_cons_zero, List.set_cons_succ, Nat.reduceAdd, Nat.reduceSub, Nat.reduceLeDiff, Nat.reduceEqDiff, if_true, if_false, beq_self_eq_true, decide_true, eq_self, reduceCtorEq, Bool.not_true, Bool.not_false, Bool.true_and, Bool.and_true, Bool.false_and, Bool.and_false, Bool.or_true, Bool.true_or, Bool.or_false, Bool.false_or, Bool.false_eq_true, Option.map_some, Option.map_none, Option.bind_some, Option.bind_none, isRuleOf, ih]
      cases ls.all (isLine ls.length) <;> rfl
    · have e : (!((ls.length : Int) == k)) = true := by simp [h]
      have e2 : decide ((ls.length : Int) = k) = false := decide_eq_false h
      simp only [runP, runS, seqS, nextS_ap, asgS, parS, ifS, retS, retN, dropS, raiseS, neverS, contS_ap, breakS_ap, frzS, appS, extS, tgN, tgM, tgs, tgT, tgS, vE, cE, op2, op1, aN, aC, tB', andT, orT, notT, andV, orV, notV, ifE, tupE, lstE, caE, chE, callE, callS, isiE_ap, oN, oS, slE, anyI, rngI, zipI, forS, yesT, cgN, cgT, cgs, whileS, rawL, rawOf, rawL_nil, datL, datL_nil, Rv.dat, GD.toBool, toBool_bool, intOf, intOf_int, ofO, ofO_some, ofO_none, Re.ok_bind, Re.ex_bind, Re.no_bind, Re.pure_eq, addD_int, addD_tup, addD_lst, addD_str, subD_int, negD_int, ltD_int, leD_int, gtD_int, geD_int, isD_none, isD_bool, isNotD_none, isNotD_bool, isNoneD_none, isNoneD_bool, isNoneD_int, isNoneD_str, isNoneD_list, isNoneD_tuple, isNoneD_dict, lenD_lst, lenD_tup, absD_int, intD_int, intD_bool, tupleD_lst, tupleD_tup, listD_lst, listD_tup, itemsOf_lst, itemsOf_tup, zipD_lst, zipD_tup, maxD_int, minD_int, slD_tup, slD_lst, pow_10_18, itemsOf_tupI, isi_tuple, isi_int, isi_bool, isi_str, isi_list, isTup_none, isTup_bool, isTup_int, isTup_str, isTup_list, isTup_tuple, isTup_dict, isWB_none, isWB_bool, isWB_int, isWB_str, isWB_list, isWB_tuple, isWB_dict, isB_none, isB_bool, isB_int, isB_str, isB_list, isB_tuple, isB_dict, isStr_none, isStr_bool, isStr_int, isStr_str, isStr_list, isStr_tuple, isStr_dict, isLst_none, isLst_bool, isLst_int, isLst_str, isLst_list, isLst_tuple, isTupI, sumD_lst, lenD_tupI, sumD_tupI, lenD_drD, eqD_int, neD_int, ixD_tup, ixD_lst, at0, at1, at2, at3, List.length_cons, List.length_nil, List.map_cons, List.map_nil, List.cons_append, List.nil_append, List.replicate, List.getElem?_cons_zero, List.getElem?_cons_succ, List.getElem?_nil, List.set_cons_zero, List.set_cons_succ, Nat.reduceAdd, Nat.reduceSub, Nat.reduceLeDiff, Nat.reduceEqDiff, if_true, if_false, beq_self_eq_true, decide_true, eq_self, reduceCtorEq, Bool.not_true, Bool.not_false, Bool.true_and, Bool.and_true, Bool.false_and, Bool.and_false, Bool.or_true, Bool.true_or, Bool.or_false, Bool.false_or, Bool.false_eq_true, Option.map_some, Option.map_none, Option.bind_some, Option.bind_none, e, isRuleOf, e2]
  all_goals (simp only [runP, runS, seqS, nextS_ap, asgS, parS, ifS, retS, retN, dropS, raiseS, neverS, contS_ap, breakS_ap, frzS, appS, extS, tgN, tgM, tgs, tgT, tgS, vE, cE, op2, op1, aN, aC, tB', andT, orT, notT, andV, orV, notV, ifE, tupE, lstE, caE, chE, callE, callS, isiE_ap, oN, oS, slE, anyI, rngI, zipI, forS, yesT, cgN, cgT, cgs, whileS, rawL, rawOf, rawL_nil, datL, datL_nil, Rv.dat, GD.toBool, toBool_bool, intOf, intOf_int, ofO, ofO_some, ofO_none, Re.ok_bind, Re.ex_bind, Re.no_bind, Re.pure_eq, addD_int, addD_tup, addD_lst, addD_str, subD_int, negD_int, ltD_int, leD_int, gtD_int, geD_int, isD_none, isD_bool, isNotD_none, isNotD_bool, isNoneD_none, isNoneD_bool, isNoneD_int, isNoneD_str, isNoneD_list, isNoneD_tuple, isNoneD_dict, lenD_lst, lenD_tup, absD_int, intD_int, intD_bool, tupleD_lst, tupleD_tup, listD_lst, listD_tup, itemsOf_lst, itemsOf_tup, zipD_lst, zipD_tup, maxD_int, minD_int, slD_tup, slD_lst, pow_10_18, itemsOf_tupI, isi_tuple, isi_int, isi_bool, isi_str, isi_list, isTup_none, isTup_bool, isTup_int, isTup_str, isTup_list, isTup_tuple, isTup_dict, isWB_none, isWB_bool, isWB_int, isWB_str, isWB_list, isWB_tuple, isWB_dict, isB_none, isB_bool, isB_int, isB_str, isB_list, isB_tuple, isB_dict, isStr_none, isStr_bool, isStr_int, isStr_str, isStr_list, isStr_tuple, isStr_dict, isLst_none, isLst_bool, isLst_int, isLst_str, isLst_list, isLst_tuple, isTupI, sumD_lst, lenD_tupI, sumD_tupI, lenD_drD, eqD_int, neD_int, ixD_tup, ixD_lst, at0, at1, at2, at3, List.length_cons, List.length_nil, List.map_cons, List.map_nil, List.cons_append, List.nil_append, List.replicate, List.getElem?_cons_zero, List.getElem?_cons_succ, List.getElem?_nil, List.set_cons_zero, List.set_cons_succ, Nat.reduceAdd, Nat.reduceSub, Nat.reduceLeDiff, Nat.reduceEqDiff, if_true, if_false, beq_self_eq_true, decide_true, eq_self, reduceCtorEq, Bool.not_true, Bool.not_false, Bool.true_and, Bool.and_true, Bool.false_and, Bool.and_false, Bool.or_true, Bool.true_or, Bool.or_false, Bool.false_or, Bool.false_eq_true, Option.map_some, Option.map_none, Option.bind_some, Option.bind_none, isRuleOf])

theorem need_urn_ok {d : D} (h : isUrn d = true) : m_need_urn [d] = .ok (.da .none) := by
  unfold m_need_urn d_need_urn; simp only [runP, runS, seqS, nextS_ap, asgS, parS, ifS, retS, retN, dropS, raiseS, neverS, contS_ap, breakS_ap, frzS, appS, extS, tgN, tgM, tgs, tgT, tgS, vE, cE, op2, op1, aN, aC, tB', andT, orT, notT, andV, orV, notV, ifE, tupE, lstE, caE, chE, callE, callS, isiE_ap, oN, oS, slE, anyI, rngI, zipI, forS, yesT, cgN, cgT, cgs, whileS, rawL, rawOf, rawL_nil, datL, datL_nil, Rv.dat, GD.toBool, toBool_bool, intOf, intOf_int, ofO, ofO_some, ofO_none, Re.ok_bind, Re.ex_bind, Re.no_bind, Re.pure_eq, addD_int, addD_tup, addD_lst, addD_str, subD_int, negD_int, ltD_int, leD_int, gtD_int, geD_int, isD_none, isD_bool, isNotD_none, isNotD_bool, isNoneD_none, isNoneD_bool, isNoneD_int, isNoneD_str, isNoneD_list, isNoneD_tuple, isNoneD_dict, lenD_lst, lenD_tup, absD_int, intD_int, intD_bool, tupleD_lst, tupleD_tup, listD_lst, listD_tup, itemsOf_lst, itemsOf_tup, zipD_lst, zipD_tup, maxD_int, minD_int, slD_tup, slD_lst, pow_10_18, itemsOf_tupI, isi_tuple, isi_int, isi_bool, isi_str, isi_list, isTup_none, isTup_bool, isTup_int, isTup_str, isTup_list, isTup_tuple, isTup_dict, isWB_none, isWB_bool, isWB_int, isWB_str, isWB_list, isWB_tuple, isWB_dict, isB_none, isB_bool, isB_int, isB_str, isB_list, isB_tuple, isB_dict, isStr_none, isStr_bool, isStr_int, isStr_str, isStr_list, isStr_tuple, isStr_dict, isLst_none, isLst_bool, isLst_int, isLst_str, isLst_list, isLst_tuple, isTupI, sumD_lst, lenD_tupI, sumD_tupI, lenD_drD, eqD_int, neD_int, ixD_tup, ixD_lst, at0, at1, at2, at3, List.length_cons, List.length_nil, List.map_cons, List.map_nil, List.cons_append, List.nil_append, List.replicate, List.getElem?_cons_zero, List.getElem?_cons_succ, List.getElem?_nil, List.set_cons_zero, List.set_cons_succ, Nat.reduceAdd, Nat.reduceSub, Nat.reduceLeDiff, Nat.reduceEqDiff, if_true, if_false, beq_self_eq_true, decide_true, eq_self, reduceCtorEq, Bool.not_true, Bool.not_false, Bool.true_and, Bool.and_true, Bool.false_and, Bool.and_false, Bool.or_true, Bool.true_or, Bool.or_false, Bool.false_or, Bool.false_eq_true, Option.map_some, Option.map_none, Option.bind_some, Option.bind_none, is_urn_ev, h]
theorem need_rule_ok {k : Int} (hk : k ≤ 1000000) {d : D} (h : isRuleOf k d = true) : m_need_rule [.int k, d] = .ok (.da .none) := by
  unfold m_need_rule d_need_rule; simp only [runP, runS, seqS, nextS_ap, asgS, parS, ifS, retS, retN, dropS, raiseS, neverS, contS_ap, breakS_ap, frzS, appS, extS, tgN, tgM, tgs, tgT, tgS, vE, cE, op2, op1, aN, aC, tB', andT, orT, notT, andV, orV, notV, ifE, tupE, lstE, caE, chE, callE, callS, isiE_ap, oN, oS, slE, anyI, rngI, zipI, forS, yesT, cgN, cgT, cgs, whileS, rawL, rawOf, rawL_nil, datL, datL_nil, Rv.dat, GD.toBool, toBool_bool, intOf, intOf_int, ofO, ofO_some, ofO_none, Re.ok_bind, Re.ex_bind, Re.no_bind, Re.pure_eq, addD_int, addD_tup, addD_lst, addD_str, subD_int, negD_int, ltD_int, leD_int, gtD_int, geD_int, isD_none, isD_bool, isNotD_none, isNotD_bool, isNoneD_none, isNoneD_bool, isNoneD_int, isNoneD_str, isNoneD_list, isNoneD_tuple, isNoneD_dict, lenD_lst, lenD_tup, absD_int, intD_int, intD_bool, tupleD_lst, tupleD_tup, listD_lst, listD_tup, itemsOf_lst, itemsOf_tup, zipD_lst, zipD_tup, maxD_int, minD_int, slD_tup, slD_lst, pow_10_18, itemsOf_tupI, isi_tuple, isi_int, isi_bool, isi_str, isi_list, isTup_none, isTup_bool, isTup_int, isTup_str, isTup_list, isTup_tuple, isTup_dict, isWB_none, isWB_bool, isWB_int, isWB_str, isWB_list, isWB_tuple, isWB_dict, isB_none, isB_bool, isB_int, isB_str, isB_list, isB_tuple, isB_dict, isStr_none, isStr_bool, isStr_int, isStr_str, isStr_list, isStr_tuple, isStr_dict, isLst_none, isLst_bool, isLst_int, isLst_str, isLst_list, isLst_tuple, isTupI, sumD_lst, lenD_tupI, sumD_tupI, lenD_drD, eqD_int, neD_int, ixD_tup, ixD_lst, at0, at1, at2, at3, List.length_cons, List.length_nil, List.map_cons, List.map_nil, List.cons_append, List.nil_append, List.replicate, List.getElem?_cons_zero, List.getElem?_cons_succ, List.getElem?_nil, List.set_cons_zero, List.set_cons_succ, Nat.reduceAdd, Nat.reduceSub, Nat.reduceLeDiff, Nat.reduceEqDiff, if_true, if_false, beq_self_eq_true, decide_true, eq_self, reduceCtorEq, Bool.not_true, Bool.not_false, Bool.true_and, Bool.and_true, Bool.false_and, Bool.and_false, Bool.or_true, Bool.true_or, Bool.or_false, Bool.false_or, Bool.false_eq_true, Option.map_some, Option.map_none, Option.bind_some, Option.bind_none, is_rule_of_ev hk, h]
theorem need_number_ok {a b : Int} {d : D} (h : btw d a b = true) : m_need_number [d, .int a, .int b] = .ok (.da .none) := by
  unfold m_need_number d_need_number; simp only [runP, runS, seqS, nextS_ap, asgS, parS, ifS, retS, retN, dropS, raiseS, neverS, contS_ap, breakS_ap, frzS, appS, extS, tgN, tgM, tgs, tgT, tgS, vE, cE, op2, op1, aN, aC, tB', andT, orT, notT, andV, orV, notV, ifE, tupE, lstE, caE, chE, callE, callS, isiE_ap, oN, oS, slE, anyI, rngI, zipI, forS, yesT, cgN, cgT, cgs, whileS, rawL, rawOf, rawL_nil, datL, datL_nil, Rv.dat, GD.toBool, toBool_bool, intOf, intOf_int, ofO, ofO_some, ofO_none, Re.ok_bind, Re.ex_bind, Re.no_bind, Re.pure_eq, addD_int, addD_tup, addD_lst, addD_str, subD_int, negD_int, ltD_int, leD_int, gtD_int, geD_int, isD_none, isD_bool, isNotD_none, isNotD_bool, isNoneD_none, isNoneD_bool, isNoneD_int, isNoneD_str, isNoneD_list, isNoneD_tuple, isNoneD_dict, lenD_lst, lenD_tup, absD_int, intD_int, intD_bool, tupleD_lst, tupleD_tup, listD_lst, listD_tup, itemsOf_lst, itemsOf_tup, zipD_lst, zipD_tup, maxD_int, minD_int, slD_tup, slD_lst, pow_10_18, itemsOf_tupI, isi_tuple, isi_int, isi_bool, isi_str, isi_list, isTup_none, isTup_bool, isTup_int, isTup_str, isTup_list, isTup_tuple, isTup_dict, isWB_none, isWB_bool, isWB_int, isWB_str, isWB_list, isWB_tuple, isWB_dict, isB_none, isB_bool, isB_int, isB_str, isB_list, isB_tuple, isB_dict, isStr_none, isStr_bool, isStr_int, isStr_str, isStr_list, isStr_tuple, isStr_dict, isLst_none, isLst_bool, isLst_int, isLst_str, isLst_list, isLst_tuple, isTupI, sumD_lst, lenD_tupI, sumD_tupI, lenD_drD, eqD_int, neD_int, ixD_tup, ixD_lst, at0, at1, at2, at3, List.length_cons, List.length_nil, List.map_cons, List.map_nil, List.cons_append, List.nil_append, List.replicate, List.getElem?_cons_zero, List.getElem?_cons_succ, List.getElem?_nil, List.set_cons_zero, List.set_cons_succ, Nat.reduceAdd, Nat.reduceSub, Nat.reduceLeDiff, Nat.reduceEqDiff, if_true, if_false, beq_self_eq_true, decide_true, eq_self, reduceCtorEq, Bool.not_true, Bool.not_false, Bool.true_and, Bool.and_true, Bool.false_and, Bool.and_false, Bool.or_true, Bool.true_or, Bool.or_false, Bool.false_or, Bool.false_eq_true, Option.map_some, Option.map_none, Option.bind_some, Option.bind_none, is_between_ev, h]
theorem need_kind_ok {u : List Int} {d : D} (h : btw d 0 (u.length - 1) = true) : m_need_kind [tupI u, d] = .ok (.da .none) := by
  unfold m_need_kind d_need_kind; simp only [runP, runS, seqS, nextS_ap, asgS, parS, ifS, retS, retN, dropS, raiseS, neverS, contS_ap, breakS_ap, frzS, appS, extS, tgN, tgM, tgs, tgT, tgS, vE, cE, op2, op1, aN, aC, tB', andT, orT, notT, andV, orV, notV, ifE, tupE, lstE, caE, chE, callE, callS, isiE_ap, oN, oS, slE, anyI, rngI, zipI, forS, yesT, cgN, cgT, cgs, whileS, rawL, rawOf, rawL_nil, datL, datL_nil, Rv.dat, GD.toBool, toBool_bool, intOf, intOf_int, ofO, ofO_some, ofO_none, Re.ok_bind, Re.ex_bind, Re.no_bind, Re.pure_eq, addD_int, addD_tup, addD_lst, addD_str, subD_int, negD_int, ltD_int, leD_int, gtD_int, geD_int, isD_none, isD_bool, isNotD_none, isNotD_bool, isNoneD_none, isNoneD_bool, isNoneD_int, isNoneD_str, isNoneD_list, isNoneD_tuple, isNoneD_dict, lenD_lst, lenD_tup, absD_int, intD_int, intD_bool, tupleD_lst, tupleD_tup, listD_lst, listD_tup, itemsOf_lst, itemsOf_tup, zipD_lst, zipD_tup, maxD_int, minD_int, slD_tup, slD_lst, pow_10_18, itemsOf_tupI, isi_tuple, isi_int, isi_bool, isi_str, isi_list, isTup_none, isTup_bool, isTup_int, isTup_str, isTup_list, isTup_tuple, isTup_dict, isWB_none, isWB_bool, isWB_int, isWB_str, isWB_list, isWB_tuple, isWB_dict, isB_none, isB_bool, isB_int, isB_str, isB_list, isB_tuple, isB_dict, isStr_none, isStr_bool, isStr_int, isStr_str, isStr_list, isStr_tuple, isStr_dict, isLst_none, isLst_bool, isLst_int, isLst_str, isLst_list, isLst_tuple, isTupI, sumD_lst, lenD_tupI, sumD_tupI, lenD_drD, eqD_int, neD_int, ixD_tup, ixD_lst, at0, at1, at2, at3, List.length_cons, List.length_nil, List.map_cons, List.map_nil, List.cons_append, List.nil_append, List.replicate, List.getElem?_cons_zero, List.getElem?_cons_succ, List.getElem?_nil, List.set_cons_zero, List.set_cons_succ, Nat.reduceAdd, Nat.reduceSub, Nat.reduceLeDiff, Nat.reduceEqDiff, if_true, if_false, beq_self_eq_true, decide_true, eq_self, reduceCtorEq, Bool.not_true, Bool.not_false, Bool.true_and, Bool.and_true, Bool.false_and, Bool.and_false, Bool.or_true, Bool.true_or, Bool.or_false, Bool.false_or, Bool.false_eq_true, Option.map_some, Option.map_none, Option.bind_some, Option.bind_none, lenD_tupI, is_between_ev, h]
theorem btw_nat {k : Nat} {a b : Int} (h : a ≤ k) (h2 : k ≤ b) : btw (.int k) a b = true := by simp [btw, h, h2]
theorem fraction_sm (a : Int) {b : Int} (h : 0 < b) (hs : b < 2 ^ 64) : m_fraction [.int a, .int b] = .ok (.da (frD ((a : Rat) / (b : Rat)))) := fraction_ev a h (lt64_8000 hs)
theorem urn_sum {u : List Int} {b : Int} (h : Urn b u) (hb : b ≤ 1000000) : u.sum ≤ 4000000 := by
  have h2 := sum_le h.all
  have h4 := h.l4
  have h3 : b * (u.length : Int) ≤ 1000000 * u.length := Int.mul_le_mul_of_nonneg_right hb (by omega)
  omega
theorem share_ev {u : List Int} {b : Int} (h : Urn b u) (hb : b ≤ 1000000) {k : Nat} (hk : k < u.length) : m_share [tupI u, .int k] = .ok (.da (frD (sh u k))) := by
  unfold m_share d_share; simp only [runP, runS, seqS, nextS_ap, asgS, parS, ifS, retS, retN, dropS, raiseS, neverS, contS_ap, breakS_ap, frzS, appS, extS, tgN, tgM, tgs, tgT, tgS, vE, cE, op2, op1, aN, aC, tB', andT, orT, notT, andV, orV, notV, ifE, tupE, lstE, caE, chE, callE, callS, isiE_ap, oN, oS, slE, anyI, rngI, zipI, forS, yesT, cgN, cgT, cgs, whileS, rawL, rawOf, rawL_nil, datL, datL_nil, Rv.dat, GD.toBool, toBool_bool, intOf, intOf_int, ofO, ofO_some, ofO_none, Re.ok_bind, Re.ex_bind, Re.no_bind, Re.pure_eq, addD_int, addD_tup, addD_lst, addD_str, subD_int, negD_int, ltD_int, leD_int, gtD_int, geD_int, isD_none, isD_bool, isNotD_none, isNotD_bool, isNoneD_none, isNoneD_bool, isNoneD_int, isNoneD_str, isNoneD_list, isNoneD_tuple, isNoneD_dict, lenD_lst, lenD_tup, absD_int, intD_int, intD_bool, tupleD_lst, tupleD_tup, listD_lst, listD_tup, itemsOf_lst, itemsOf_tup, zipD_lst, zipD_tup, maxD_int, minD_int, slD_tup, slD_lst, pow_10_18, itemsOf_tupI, isi_tuple, isi_int, isi_bool, isi_str, isi_list, isTup_none, isTup_bool, isTup_int, isTup_str, isTup_list, isTup_tuple, isTup_dict, isWB_none, isWB_bool, isWB_int, isWB_str, isWB_list, isWB_tuple, isWB_dict, isB_none, isB_bool, isB_int, isB_str, isB_list, isB_tuple, isB_dict, isStr_none, isStr_bool, isStr_int, isStr_str, isStr_list, isStr_tuple, isStr_dict, isLst_none, isLst_bool, isLst_int, isLst_str, isLst_list, isLst_tuple, isTupI, sumD_lst, lenD_tupI, sumD_tupI, lenD_drD, eqD_int, neD_int, ixD_tup, ixD_lst, at0, at1, at2, at3, List.length_cons, List.length_nil, List.map_cons, List.map_nil, List.cons_append, List.nil_append, List.replicate, List.getElem?_cons_zero, List.getElem?_cons_succ, List.getElem?_nil, List.set_cons_zero, List.set_cons_succ, Nat.reduceAdd, Nat.reduceSub, Nat.reduceLeDiff, Nat.reduceEqDiff, if_true, if_false, beq_self_eq_true, decide_true, eq_self, reduceCtorEq, Bool.not_true, Bool.not_false, Bool.true_and, Bool.and_true, Bool.false_and, Bool.and_false, Bool.or_true, Bool.true_or, Bool.or_false, Bool.false_or, Bool.false_eq_true, Option.map_some, Option.map_none, Option.bind_some, Option.bind_none, ixD_tupI (getD_some hk), sumD_tupI, fraction_sm _ h.pos (Int.lt_of_le_of_lt (urn_sum h hb) (by decide))]
  rfl
theorem chance_ev {u : List Int} {b : Int} (h : Urn b u) (hb : b ≤ 20) {k : Nat} (hk : k < u.length) : m_chance [tupI u, .int k] = .ok (.da (frD (sh u k))) := by
  unfold m_chance d_chance; simp only [runP, runS, seqS, nextS_ap, asgS, parS, ifS, retS, retN, dropS, raiseS, neverS, contS_ap, breakS_ap, frzS, appS, extS, tgN, tgM, tgs, tgT, tgS, vE, cE, op2, op1, aN, aC, tB', andT, orT, notT, andV, orV, notV, ifE, tupE, lstE, caE, chE, callE, callS, isiE_ap, oN, oS, slE, anyI, rngI, zipI, forS, yesT, cgN, cgT, cgs, whileS, rawL, rawOf, rawL_nil, datL, datL_nil, Rv.dat, GD.toBool, toBool_bool, intOf, intOf_int, ofO, ofO_some, ofO_none, Re.ok_bind, Re.ex_bind, Re.no_bind, Re.pure_eq, addD_int, addD_tup, addD_lst, addD_str, subD_int, negD_int, ltD_int, leD_int, gtD_int, geD_int, isD_none, isD_bool, isNotD_none, isNotD_bool, isNoneD_none, isNoneD_bool, isNoneD_int, isNoneD_str, isNoneD_list, isNoneD_tuple, isNoneD_dict, lenD_lst, lenD_tup, absD_int, intD_int, intD_bool, tupleD_lst, tupleD_tup, listD_lst, listD_tup, itemsOf_lst, itemsOf_tup, zipD_lst, zipD_tup, maxD_int, minD_int, slD_tup, slD_lst, pow_10_18, itemsOf_tupI, isi_tuple, isi_int, isi_bool, isi_str, isi_list, isTup_none, isTup_bool, isTup_int, isTup_str, isTup_list, isTup_tuple, isTup_dict, isWB_none, isWB_bool, isWB_int, isWB_str, isWB_list, isWB_tuple, isWB_dict, isB_none, isB_bool, isB_int, isB_str, isB_list, isB_tuple, isB_dict, isStr_none, isStr_bool, isStr_int, isStr_str, isStr_list, isStr_tuple, isStr_dict, isLst_none, isLst_bool, isLst_int, isLst_str, isLst_list, isLst_tuple, isTupI, sumD_lst, lenD_tupI, sumD_tupI, lenD_drD, eqD_int, neD_int, ixD_tup, ixD_lst, at0, at1, at2, at3, List.length_cons, List.length_nil, List.map_cons, List.map_nil, List.cons_append, List.nil_append, List.replicate, List.getElem?_cons_zero, List.getElem?_cons_succ, List.getElem?_nil, List.set_cons_zero, List.set_cons_succ, Nat.reduceAdd, Nat.reduceSub, Nat.reduceLeDiff, Nat.reduceEqDiff, if_true, if_false, beq_self_eq_true, decide_true, eq_self, reduceCtorEq, Bool.not_true, Bool.not_false, Bool.true_and, Bool.and_true, Bool.false_and, Bool.and_false, Bool.or_true, Bool.true_or, Bool.or_false, Bool.false_or, Bool.false_eq_true, Option.map_some, Option.map_none, Option.bind_some, Option.bind_none, need_urn_ok (isUrn_of h hb), need_kind_ok (u := u) (btw_nat (k := k) (a := 0) (b := u.length - 1) (by omega) (by omega)), share_ev h (by omega) hk]
theorem put_behind_ev {u : List Int} {r : List (List Int)} {n : Nat} {c : Int} (hr : Rule n c r) (hn : n ≤ 1000) {k : Nat} (hk : k < n) (hl : u.length = n) : m_put_behind [tupI u, ruleD r, .int k] = .ok (.da (tupI (put u r k))) := by
  obtain ⟨h1, h2, h3⟩ := hr.getRow hk
  unfold m_put_behind d_put_behind
  have L := lc_map2 (it := zipI (aC (vE 0) (aC (op2 ixD (vE 1) (vE 2)) aN))) (i := 3) (j := 4) (te := op2 addD (vE 3) (vE 4)) (h := fun p => .int (iv p.1 + iv p.2)) (g := [.da (tupI u), .da (ruleD r), .da (.int k), .un, .un]) (g1 := [.da (tupI u), .da (ruleD r), .da (.int k), .un, .un])
    (ps := (u.map PyData.int).zip ((r.getD k []).map .int)) (by decide) (by simp only [runP, runS, seqS, nextS_ap, asgS, parS, ifS, retS, retN, dropS, raiseS, neverS, contS_ap, breakS_ap, frzS, appS, extS, tgN, tgM, tgs, tgT, tgS, vE, cE, op2, op1, aN, aC, tB', andT, orT, notT, andV, orV, notV, ifE, tupE, lstE, caE, chE, callE, callS, isiE_ap, oN, oS, slE, anyI, rngI, zipI, forS, yesT, cgN, cgT, cgs, whileS, rawL, rawOf, rawL_nil, datL, datL_nil, Rv.dat, GD.toBool, toBool_bool, intOf, intOf_int, ofO, ofO_some, ofO_none, Re.ok_bind, Re.ex_bind, Re.no_bind, Re.pure_eq, addD_int, addD_tup, addD_lst, addD_str, subD_int, negD_int, ltD_int, leD_int, gtD_int, geD_int, isD_none, isD_bool, isNotD_none, isNotD_bool, isNoneD_none, isNoneD_bool, isNoneD_int, isNoneD_str, isNoneD_list, isNoneD_tuple, isNoneD_dict, lenD_lst, lenD_tup, absD_int, intD_int, intD_bool, tupleD_lst, tupleD_tup, listD_lst, listD_tup, itemsOf_lst, itemsOf_tup, zipD_lst, zipD_tup, maxD_int, minD_int, slD_tup, slD_lst, pow_10_18, itemsOf_tupI, isi_tuple, isi_int, isi_bool, isi_str, isi_list, isTup_none, isTup_bool, isTup_int, isTup_str, isTup_list, isTup_tuple, isTup_dict, isWB_none, isWB_bool, isWB_int, isWB_str, isWB_list, isWB_tuple, isWB_dict, isB_none, isB_bool, isB_int, isB_str, isB_list, isB_tuple, isB_dict, isStr_none, isStr_bool, isStr_int, isStr_str, isStr_list, isStr_tuple, isStr_dict, isLst_none, isLst_bool, isLst_int, isLst_str, isLst_list, isLst_tuple, isTupI, sumD_lst, lenD_tupI, sumD_tupI, lenD_drD, eqD_int, neD_int, ixD_tup, ixD_lst, at0, at1, at2, at3, List.length_cons, List.length_nil, List.map_cons, List.map_nil, List.cons_append, List.nil_append, List.replicate, List.getElem?_cons_zero, List.getElem?_cons_succ, List.getElem?_nil, List.set_cons_zero, List.set_cons_succ, Nat.reduceAdd, Nat.reduceSub, Nat.reduceLeDiff, Nat.reduceEqDiff, if_true, if_false, beq_self_eq_true, decide_true, eq_self, reduceCtorEq, Bool.not_true, Bool.not_false, Bool.true_and, Bool.and_true, Bool.false_and, Bool.and_false, Bool.or_true, Bool.true_or, Bool.or_false, Bool.false_or, Bool.false_eq_true, Option.map_some, Option.map_none, Option.bind_some, Option.bind_none, ixD_rule h1]; rfl) (by simp; omega) (by
      intro p hp
      obtain ⟨a, b⟩ := p
      have h5 := List.of_mem_zip hp
      obtain ⟨x, _, hx⟩ := List.mem_map.mp h5.1
      obtain ⟨y, _, hy⟩ := List.mem_map.mp h5.2
      subst hx hy
      exact ⟨.da (.int (x + y)), by simp only [runP, runS, seqS, nextS_ap, asgS, parS, ifS, retS, retN, dropS, raiseS, neverS, contS_ap, breakS_ap, frzS, appS, extS, tgN, tgM, tgs, tgT, tgS, vE, cE, op2, op1, aN, aC, tB', andT, orT, notT, andV, orV, notV, ifE, tupE, lstE, caE, chE, callE, callS, isiE_ap, oN, oS, slE, anyI, rngI, zipI, forS, yesT, cgN, cgT, cgs, whileS, rawL, rawOf, rawL_nil, datL, datL_nil, Rv.dat, GD.toBool, toBool_bool, intOf, intOf_int, ofO, ofO_some, ofO_none, Re.ok_bind, Re.ex_bind, Re.no_bind, Re.pure_eq, addD_int, addD_tup, addD_lst, addD_str, subD_int, negD_int, ltD_int, leD_int, gtD_int, geD_int, isD_none, isD_bool, isNotD_none, isNotD_bool, isNoneD_none, isNoneD_bool, isNoneD_int, isNoneD_str, isNoneD_list, isNoneD_tuple, isNoneD_dict, lenD_lst, lenD_tup, absD_int, intD_int, intD_bool, tupleD_lst, tupleD_tup, listD_lst, listD_tup, itemsOf_lst, itemsOf_tup, zipD_lst, zipD_tup, maxD_int, minD_int, slD_tup, slD_lst, pow_10_18, itemsOf_tupI, isi_tuple, isi_int, isi_bool, isi_str, isi_list, isTup_none, isTup_bool, isTup_int, isTup_str, isTup_list, isTup_tuple, isTup_dict, isWB_none, isWB_bool, isWB_int, isWB_str, isWB_list, isWB_tuple, isWB_dict, isB_none, isB_bool, isB_int, isB_str, isB_list, isB_tuple, isB_dict, isStr_none, isStr_bool, isStr_int, isStr_str, isStr_list, isStr_tuple, isStr_dict, isLst_none, isLst_bool, isLst_int, isLst_str, isLst_list, isLst_tuple, isTupI, sumD_lst, lenD_tupI, sumD_tupI, lenD_drD, eqD_int, neD_int, ixD_tup, ixD_lst, at0, at1, at2, at3, List.length_cons, List.length_nil, List.map_cons, List.map_nil, List.cons_append, List.nil_append, List.replicate, List.getElem?_cons_zero, List.getElem?_cons_succ, List.getElem?_nil, List.set_cons_zero, List.set_cons_succ, Nat.reduceAdd, Nat.reduceSub, Nat.reduceLeDiff, Nat.reduceEqDiff, if_true, if_false, beq_self_eq_true, decide_true, eq_self, reduceCtorEq, Bool.not_true, Bool.not_false, Bool.true_and, Bool.and_true, Bool.false_and, Bool.and_false, Bool.or_true, Bool.true_or, Bool.or_false, Bool.false_or, Bool.false_eq_true, Option.map_some, Option.map_none, Option.bind_some, Option.bind_none], rfl⟩)
  rw [put_map] at L
  simp only [runP, runS, seqS, nextS_ap, asgS, parS, ifS, retS, retN, dropS, raiseS, neverS, contS_ap, breakS_ap, frzS, appS, extS, tgN, tgM, tgs, tgT, tgS, vE, cE, op2, op1, aN, aC, tB', andT, orT, notT, andV, orV, notV, ifE, tupE, lstE, caE, chE, callE, callS, isiE_ap, oN, oS, slE, anyI, rngI, zipI, forS, yesT, cgN, cgT, cgs, whileS, rawL, rawOf, rawL_nil, datL, datL_nil, Rv.dat, GD.toBool, toBool_bool, intOf, intOf_int, ofO, ofO_some, ofO_none, Re.ok_bind, Re.ex_bind, Re.no_bind, Re.pure_eq, addD_int, addD_tup, addD_lst, addD_str, subD_int, negD_int, ltD_int, leD_int, gtD_int, geD_int, isD_none, isD_bool, isNotD_none, isNotD_bool, isNoneD_none, isNoneD_bool, isNoneD_int, isNoneD_str, isNoneD_list, isNoneD_tuple, isNoneD_dict, lenD_lst, lenD_tup, absD_int, intD_int, intD_bool, tupleD_lst, tupleD_tup, listD_lst, listD_tup, itemsOf_lst, itemsOf_tup, zipD_lst, zipD_tup, maxD_int, minD_int, slD_tup, slD_lst, pow_10_18, itemsOf_tupI, isi_tuple, isi_int, isi_bool, isi_str, isi_list, isTup_none, isTup_bool, isTup_int, isTup_str, isTup_list, isTup_tuple, isTup_dict, isWB_none, isWB_bool, isWB_int, isWB_str, isWB_list, isWB_tuple, isWB_dict, isB_none, isB_bool, isB_int, isB_str, isB_list, isB_tuple, isB_dict, isStr_none, isStr_bool, isStr_int, isStr_str, isStr_list, isStr_tuple, isStr_dict, isLst_none, isLst_bool, isLst_int, isLst_str, isLst_list, isLst_tuple, isTupI, sumD_lst, lenD_tupI, sumD_tupI, lenD_drD, eqD_int, neD_int, ixD_tup, ixD_lst, at0, at1, at2, at3, List.length_cons, List.length_nil, List.map_cons, List.map_nil, List.cons_append, List.nil_append, List.replicate, List.getElem?_cons_zero, List.getElem?_cons_succ, List.getElem?_nil, List.set_cons_zero, List.set_cons_succ, Nat.reduceAdd, Nat.reduceSub, Nat.reduceLeDiff, Nat.reduceEqDiff, if_true, if_false, beq_self_eq_true, decide_true, eq_self, reduceCtorEq, Bool.not_true, Bool.not_false, Bool.true_and, Bool.and_true, Bool.false_and, Bool.and_false, Bool.or_true, Bool.true_or, Bool.or_false, Bool.false_or, Bool.false_eq_true, Option.map_some, Option.map_none, Option.bind_some, Option.bind_none, L]
  rfl
theorem after_ev {u : List Int} {r : List (List Int)} {n : Nat} {b c : Int} (h : Urn b u) (hb : b ≤ 20) (hr : Rule n c r) (hc : c ≤ 5) {k : Nat} (hk : k < n) (hl : u.length = n) (h0 : u.getD k 0 ≠ 0) : m_after [tupI u, ruleD r, .int k] = .ok (.da (tupI (put u r k))) := by
  have l4 := h.l4
  have e : (u.getD k 0 == 0) = false := by simpa using h0
  have hr2 := isRule_of hr hc
  rw [← hl] at hr2
  unfold m_after d_after
  simp only [runP, runS, seqS, nextS_ap, asgS, parS, ifS, retS, retN, dropS, raiseS, neverS, contS_ap, breakS_ap, frzS, appS, extS, tgN, tgM, tgs, tgT, tgS, vE, cE, op2, op1, aN, aC, tB', andT, orT, notT, andV, orV, notV, ifE, tupE, lstE, caE, chE, callE, callS, isiE_ap, oN, oS, slE, anyI, rngI, zipI, forS, yesT, cgN, cgT, cgs, whileS, rawL, rawOf, rawL_nil, datL, datL_nil, Rv.dat, GD.toBool, toBool_bool, intOf, intOf_int, ofO, ofO_some, ofO_none, Re.ok_bind, Re.ex_bind, Re.no_bind, Re.pure_eq, addD_int, addD_tup, addD_lst, addD_str, subD_int, negD_int, ltD_int, leD_int, gtD_int, geD_int, isD_none, isD_bool, isNotD_none, isNotD_bool, isNoneD_none, isNoneD_bool, isNoneD_int, isNoneD_str, isNoneD_list, isNoneD_tuple, isNoneD_dict, lenD_lst, lenD_tup, absD_int, intD_int, intD_bool, tupleD_lst, tupleD_tup, listD_lst, listD_tup, itemsOf_lst, itemsOf_tup, zipD_lst, zipD_tup, maxD_int, minD_int, slD_tup, slD_lst, pow_10_18, itemsOf_tupI, isi_tuple, isi_int, isi_bool, isi_str, isi_list, isTup_none, isTup_bool, isTup_int, isTup_str, isTup_list, isTup_tuple, isTup_dict, isWB_none, isWB_bool, isWB_int, isWB_str, isWB_list, isWB_tuple, isWB_dict, isB_none, isB_bool, isB_int, isB_str, isB_list, isB_tuple, isB_dict, isStr_none, isStr_bool, isStr_int, isStr_str, isStr_list, isStr_tuple, isStr_dict, isLst_none, isLst_bool, isLst_int, isLst_str, isLst_list, isLst_tuple, isTupI, sumD_lst, lenD_tupI, sumD_tupI, lenD_drD, eqD_int, neD_int, ixD_tup, ixD_lst, at0, at1, at2, at3, List.length_cons, List.length_nil, List.map_cons, List.map_nil, List.cons_append, List.nil_append, List.replicate, List.getElem?_cons_zero, List.getElem?_cons_succ, List.getElem?_nil, List.set_cons_zero, List.set_cons_succ, Nat.reduceAdd, Nat.reduceSub, Nat.reduceLeDiff, Nat.reduceEqDiff, if_true, if_false, beq_self_eq_true, decide_true, eq_self, reduceCtorEq, Bool.not_true, Bool.not_false, Bool.true_and, Bool.and_true, Bool.false_and, Bool.and_false, Bool.or_true, Bool.true_or, Bool.or_false, Bool.false_or, Bool.false_eq_true, Option.map_some, Option.map_none, Option.bind_some, Option.bind_none, need_urn_ok (isUrn_of h hb), lenD_tupI, need_rule_ok (k := u.length) (by omega) hr2, need_kind_ok (u := u) (btw_nat (k := k) (a := 0) (b := u.length - 1) (by omega) (by omega)), ixD_tupI (getD_some (u := u) (k := k) (by omega)), e, put_behind_ev hr (by omega) hk hl]
theorem need_draws_ok {u : List Int} {ks : List Nat} (hl : ks.length ≤ 20) (hk : ∀ k ∈ ks, k < u.length) : m_need_draws [tupI u, drD ks] = .ok (.da .none) := by
  have L := lc_map (it := anyI (vE 1)) (j := 2) (te := callE m_is_between (aC (vE 2) (aC (cE (.int 0)) (aC (op2 subD (caE lenD (aC (vE 0) aN)) (cE (.int 1))) aN)))) (h := fun d => .bool (btw d 0 (u.length - 1))) (g := [.da (tupI u), .da (drD ks), .un]) (g1 := [.da (tupI u), .da (drD ks), .un])
    (ds := ks.map fun k : Nat => .int k) rfl (by simp; omega) (fun d _ => ⟨.da (.bool (btw d 0 (u.length - 1))), by simp only [runP, runS, seqS, nextS_ap, asgS, parS, ifS, retS, retN, dropS, raiseS, neverS, contS_ap, breakS_ap, frzS, appS, extS, tgN, tgM, tgs, tgT, tgS, vE, cE, op2, op1, aN, aC, tB', andT, orT, notT, andV, orV, notV, ifE, tupE, lstE, caE, chE, callE, callS, isiE_ap, oN, oS, slE, anyI, rngI, zipI, forS, yesT, cgN, cgT, cgs, whileS, rawL, rawOf, rawL_nil, datL, datL_nil, Rv.dat, GD.toBool, toBool_bool, intOf, intOf_int, ofO, ofO_some, ofO_none, Re.ok_bind, Re.ex_bind, Re.no_bind, Re.pure_eq, addD_int, addD_tup, addD_lst, addD_str, subD_int, negD_int, ltD_int, leD_int, gtD_int, geD_int, isD_none, isD_bool, isNotD_none, isNotD_bool, isNoneD_none, isNoneD_bool, isNoneD_int, isNoneD_str, isNoneD_list, isNoneD_tuple, isNoneD_dict, lenD_lst, lenD_tup, absD_int, intD_int, intD_bool, tupleD_lst, tupleD_tup, listD_lst, listD_tup, itemsOf_lst, itemsOf_tup, zipD_lst, zipD_tup, maxD_int, minD_int, slD_tup, slD_lst, pow_10_18, itemsOf_tupI, isi_tuple, isi_int, isi_bool, isi_str, isi_list, isTup_none, isTup_bool, isTup_int, isTup_str, isTup_list, isTup_tuple, isTup_dict, isWB_none, isWB_bool, isWB_int, isWB_str, isWB_list, isWB_tuple, isWB_dict, isB_none, isB_bool, isB_int, isB_str, isB_list, isB_tuple, isB_dict, isStr_none, isStr_bool, isStr_int, isStr_str, isStr_list, isStr_tuple, isStr_dict, isLst_none, isLst_bool, isLst_int, isLst_str, isLst_list, isLst_tuple, isTupI, sumD_lst, lenD_tupI, sumD_tupI, lenD_drD, eqD_int, neD_int, ixD_tup, ixD_lst, at0, at1, at2, at3, List.length_cons, List.length_nil, List.map_cons, List.map_nil, List.cons_append, List.nil_append, List.replicate, List.getElem?_cons_zero, List.getElem?_cons_succ, List.getElem?_nil, List.set_cons_zero, List.set_cons_succ, Nat.reduceAdd, Nat.reduceSub, Nat.reduceLeDiff, Nat.reduceEqDiff, if_true, if_false, beq_self_eq_true, decide_true, eq_self, reduceCtorEq, Bool.not_true, Bool.not_false, Bool.true_and, Bool.and_true, Bool.false_and, Bool.and_false, Bool.or_true, Bool.true_or, Bool.or_false, Bool.false_or, Bool.false_eq_true, Option.map_some, Option.map_none, Option.bind_some, Option.bind_none, lenD_tupI, is_between_ev], rfl⟩)
  have e : decide ((20 : Int) < ks.length) = false := decide_eq_false (by omega)
  have e2 : ((ks.map fun k : Nat => PyData.int k).all fun d => btw d 0 (u.length - 1)) = true := by
    rw [List.all_map, List.all_eq_true]
    intro k hm
    have := hk k hm
    show btw (.int (k : Int)) 0 (u.length - 1) = true
    exact btw_nat (by omega) (by omega)
  have e3 : isTup (drD ks) = true := rfl
  unfold m_need_draws d_need_draws
  simp only [runP, runS, seqS, nextS_ap, asgS, parS, ifS, retS, retN, dropS, raiseS, neverS, contS_ap, breakS_ap, frzS, appS, extS, tgN, tgM, tgs, tgT, tgS, vE, cE, op2, op1, aN, aC, tB', andT, orT, notT, andV, orV, notV, ifE, tupE, lstE, caE, chE, callE, callS, isiE_ap, oN, oS, slE, anyI, rngI, zipI, forS, yesT, cgN, cgT, cgs, whileS, rawL, rawOf, rawL_nil, datL, datL_nil, Rv.dat, GD.toBool, toBool_bool, intOf, intOf_int, ofO, ofO_some, ofO_none, Re.ok_bind, Re.ex_bind, Re.no_bind, Re.pure_eq, addD_int, addD_tup, addD_lst, addD_str, subD_int, negD_int, ltD_int, leD_int, gtD_int, geD_int, isD_none, isD_bool, isNotD_none, isNotD_bool, isNoneD_none, isNoneD_bool, isNoneD_int, isNoneD_str, isNoneD_list, isNoneD_tuple, isNoneD_dict, lenD_lst, lenD_tup, absD_int, intD_int, intD_bool, tupleD_lst, tupleD_tup, listD_lst, listD_tup, itemsOf_lst, itemsOf_tup, zipD_lst, zipD_tup, maxD_int, minD_int, slD_tup, slD_lst, pow_10_18, itemsOf_tupI, isi_tuple, isi_int, isi_bool, isi_str, isi_list, isTup_none, isTup_bool, isTup_int, isTup_str, isTup_list, isTup_tuple, isTup_dict, isWB_none, isWB_bool, isWB_int, isWB_str, isWB_list, isWB_tuple, isWB_dict, isB_none, isB_bool, isB_int, isB_str, isB_list, isB_tuple, isB_dict, isStr_none, isStr_bool, isStr_int, isStr_str, isStr_list, isStr_tuple, isStr_dict, isLst_none, isLst_bool, isLst_int, isLst_str, isLst_list, isLst_tuple, isTupI, sumD_lst, lenD_tupI, sumD_tupI, lenD_drD, eqD_int, neD_int, ixD_tup, ixD_lst, at0, at1, at2, at3, List.length_cons, List.length_nil, List.map_cons, List.map_nil, List.cons_append, List.nil_append, List.replicate, List.getElem?_cons_zero, List.getElem?_cons_succ, List.getElem?_nil, List.set_cons_zero, List.set_cons_succ, Nat.reduceAdd, Nat.reduceSub, Nat.reduceLeDiff, Nat.reduceEqDiff, if_true, if_false, beq_self_eq_true, decide_true, eq_self, reduceCtorEq, Bool.not_true, Bool.not_false, Bool.true_and, Bool.and_true, Bool.false_and, Bool.and_false, Bool.or_true, Bool.true_or, Bool.or_false, Bool.false_or, Bool.false_eq_true, Option.map_some, Option.map_none, Option.bind_some, Option.bind_none, L, lenD_drD, e, e3, allD_fn, e2]
theorem gone_loop {r : List (List Int)} {n : Nat} {c : Int} (hr : Rule n c r) (hn : n ≤ 1000) (hc : 0 ≤ c) (d2 : Sl) : ∀ (ks : List Nat) (u : List Int) (b : Int) (j : Nat) (q : Rat) (s4 : Sl), Urn b u → u.length = n → (∀ k ∈ ks, k < n) → b + c * ks.length ≤ 120 → j + ks.length ≤ 100 → Sm' (9 * j + 1) q → ∃ s4',
    forD (tgN 4) (seqS (asgS (callE m_by (aC (vE 3) (aC (callE m_share (aC (vE 0) (aC (vE 4) aN))) aN))) (tgN 3)) (asgS (callE m_put_behind (aC (vE 0) (aC (vE 1) (aC (vE 4) aN)))) (tgN 0)))
      (ks.map fun k : Nat => .int k) [.da (tupI u), .da (ruleD r), d2, .da (frD q), s4] = .nx [.da (tupI (goQ r ks q u).2), .da (ruleD r), d2, .da (frD (goQ r ks q u).1), s4']
  | [], u, b, j, q, s4, _, _, _, _, _, _ => ⟨s4, rfl⟩
  | k :: ks, u, b, j, q, s4, hu, hl, hk, hb, hj, hq => by
    have hkn := hk k (by simp)
    have e : b + c + c * (ks.length : Int) = b + c * ((k :: ks).length : Int) := by
      rw [List.length_cons, show ((ks.length + 1 : Nat) : Int) = (ks.length : Int) + 1 by omega, Int.mul_add, Int.mul_one]; omega
    have p : 0 ≤ c * (ks.length : Int) := Int.mul_nonneg hc (by omega)
    simp only [List.length_cons] at hj
    have s := sh_sm hu (by omega) k
    obtain ⟨s4', ih⟩ := gone_loop hr hn hc d2 ks (put u r k) (b + c) (j + 1) (q * sh u k) (.da (.int k)) (put_urn hr hu hl hkn) (put_len hr hl hkn) (fun j hj => hk j (by simp [hj])) (by omega) (by omega)
      ((hq.mul s).mono (by omega))
    refine ⟨s4', ?_⟩
    rw [List.map_cons]
    unfold forD
    simp only [runP, runS, seqS, nextS_ap, asgS, parS, ifS, retS, retN, dropS, raiseS, neverS, contS_ap, breakS_ap, frzS, appS, extS, tgN, tgM, tgs, tgT, tgS, vE, cE, op2, op1, aN, aC, tB', andT, orT, notT, andV, orV, notV, ifE, tupE, lstE, caE, chE, callE, callS, isiE_ap, oN, oS, slE, anyI, rngI, zipI, forS, yesT, cgN, cgT, cgs, whileS, rawL, rawOf, rawL_nil, datL, datL_nil, Rv.dat, GD.toBool, toBool_bool, intOf, intOf_int, ofO, ofO_some, ofO_none, Re.ok_bind, Re.ex_bind, Re.no_bind, Re.pure_eq, addD_int, addD_tup, addD_lst, addD_str, subD_int, negD_int, ltD_int, leD_int, gtD_int, geD_int, isD_none, isD_bool, isNotD_none, isNotD_bool, isNoneD_none, isNoneD_bool, isNoneD_int, isNoneD_str, isNoneD_list, isNoneD_tuple, isNoneD_dict, lenD_lst, lenD_tup, absD_int, intD_int, intD_bool, tupleD_lst, tupleD_tup, listD_lst, listD_tup, itemsOf_lst, itemsOf_tup, zipD_lst, zipD_tup, maxD_int, minD_int, slD_tup, slD_lst, pow_10_18, itemsOf_tupI, isi_tuple, isi_int, isi_bool, isi_str, isi_list, isTup_none, isTup_bool, isTup_int, isTup_str, isTup_list, isTup_tuple, isTup_dict, isWB_none, isWB_bool, isWB_int, isWB_str, isWB_list, isWB_tuple, isWB_dict, isB_none, isB_bool, isB_int, isB_str, isB_list, isB_tuple, isB_dict, isStr_none, isStr_bool, isStr_int, isStr_str, isStr_list, isStr_tuple, isStr_dict, isLst_none, isLst_bool, isLst_int, isLst_str, isLst_list, isLst_tuple, isTupI, sumD_lst, lenD_tupI, sumD_tupI, lenD_drD, eqD_int, neD_int, ixD_tup, ixD_lst, at0, at1, at2, at3, List.length_cons, List.length_nil, List.map_cons, List.map_nil, List.cons_append, List.nil_append, List.replicate, List.getElem?_cons_zero, List.getElem?_cons_succ, List.getElem?_nil, List.set_cons_zero, List.set_cons_succ, Nat.reduceAdd, Nat.reduceSub, Nat.reduceLeDiff, Nat.reduceEqDiff, if_true, if_false, beq_self_eq_true, decide_true, eq_self, reduceCtorEq, Bool.not_true, Bool.not_false, Bool.true_and, Bool.and_true, Bool.false_and, Bool.and_false, Bool.or_true, Bool.true_or, Bool.or_false, Bool.false_or, Bool.false_eq_true, Option.map_some, Option.map_none, Option.bind_some, Option.bind_none, share_ev hu (by omega) (k := k) (by omega), by_ev hq s (by omega) (by omega) (by omega), put_behind_ev hr hn hkn hl]
    exact ih
theorem gone_through_ev {r : List (List Int)} {n : Nat} {b c : Int} {u : List Int} {ks : List Nat} (hu : Urn b u) (hr : Rule n c r) (hc : 0 ≤ c) (hl : u.length = n) (hk : ∀ k ∈ ks, k < n) (hb : b + c * ks.length ≤ 120) (hj : ks.length ≤ 100) :
    m_gone_through [tupI u, ruleD r, drD ks] = .ok (.da (.tuple [frD (cq u r ks), tupI (bh u r ks)])) := by
  obtain ⟨s4, h⟩ := gone_loop hr (by have := hu.l4; omega) hc (.da (drD ks)) ks u b 0 1 .un hu hl hk hb (by omega) (Sm'.one.mono (by omega))
  have e : itemsOf (drD ks) = some (ks.map fun k : Nat => .int k) := rfl
  rw [frD_one] at h
  unfold m_gone_through d_gone_through; simp only [runP, runS, seqS, nextS_ap, asgS, parS, ifS, retS, retN, dropS, raiseS, neverS, contS_ap, breakS_ap, frzS, appS, extS, tgN, tgM, tgs, tgT, tgS, vE, cE, op2, op1, aN, aC, tB', andT, orT, notT, andV, orV, notV, ifE, tupE, lstE, caE, chE, callE, callS, isiE_ap, oN, oS, slE, anyI, rngI, zipI, forS, yesT, cgN, cgT, cgs, whileS, rawL, rawOf, rawL_nil, datL, datL_nil, Rv.dat, GD.toBool, toBool_bool, intOf, intOf_int, ofO, ofO_some, ofO_none, Re.ok_bind, Re.ex_bind, Re.no_bind, Re.pure_eq, addD_int, addD_tup, addD_lst, addD_str, subD_int, negD_int, ltD_int, leD_int, gtD_int, geD_int, isD_none, isD_bool, isNotD_none, isNotD_bool, isNoneD_none, isNoneD_bool, isNoneD_int, isNoneD_str, isNoneD_list, isNoneD_tuple, isNoneD_dict, lenD_lst, lenD_tup, absD_int, intD_int, intD_bool, tupleD_lst, tupleD_tup, listD_lst, listD_tup, itemsOf_lst, itemsOf_tup, zipD_lst, zipD_tup, maxD_int, minD_int, slD_tup, slD_lst, pow_10_18, itemsOf_tupI, isi_tuple, isi_int, isi_bool, isi_str, isi_list, isTup_none, isTup_bool, isTup_int, isTup_str, isTup_list, isTup_tuple, isTup_dict, isWB_none, isWB_bool, isWB_int, isWB_str, isWB_list, isWB_tuple, isWB_dict, isB_none, isB_bool, isB_int, isB_str, isB_list, isB_tuple, isB_dict, isStr_none, isStr_bool, isStr_int, isStr_str, isStr_list, isStr_tuple, isStr_dict, isLst_none, isLst_bool, isLst_int, isLst_str, isLst_list, isLst_tuple, isTupI, sumD_lst, lenD_tupI, sumD_tupI, lenD_drD, eqD_int, neD_int, ixD_tup, ixD_lst, at0, at1, at2, at3, List.length_cons, List.length_nil, List.map_cons, List.map_nil, List.cons_append, List.nil_append, List.replicate, List.getElem?_cons_zero, List.getElem?_cons_succ, List.getElem?_nil, List.set_cons_zero, List.set_cons_succ, Nat.reduceAdd, Nat.reduceSub, Nat.reduceLeDiff, Nat.reduceEqDiff, if_true, if_false, beq_self_eq_true, decide_true, eq_self, reduceCtorEq, Bool.not_true, Bool.not_false, Bool.true_and, Bool.and_true, Bool.false_and, Bool.and_false, Bool.or_true, Bool.true_or, Bool.or_false, Bool.false_or, Bool.false_eq_true, Option.map_some, Option.map_none, Option.bind_some, Option.bind_none, e, h]
  rfl
theorem chance_of_ev {r : List (List Int)} {n : Nat} {b c : Int} {u : List Int} {ks : List Nat} (hu : Urn b u) (hb : b ≤ 20) (hr : Rule n c r) (hc : 0 ≤ c) (hc5 : c ≤ 5) (hl : u.length = n) (hk : ∀ k ∈ ks, k < n) (hj : ks.length ≤ 20) :
    m_chance_of [tupI u, ruleD r, drD ks] = .ok (.da (frD (cq u r ks))) := by
  have hr2 := isRule_of hr hc5
  rw [← hl] at hr2
  have h4 := hu.l4
  have p : c * (ks.length : Int) ≤ 5 * 20 := Int.mul_le_mul hc5 (by omega) (by omega) (by omega)
  unfold m_chance_of d_chance_of
  simp only [runP, runS, seqS, nextS_ap, asgS, parS, ifS, retS, retN, dropS, raiseS, neverS, contS_ap, breakS_ap, frzS, appS, extS, tgN, tgM, tgs, tgT, tgS, vE, cE, op2, op1, aN, aC, tB', andT, orT, notT, andV, orV, notV, ifE, tupE, lstE, caE, chE, callE, callS, isiE_ap, oN, oS, slE, anyI, rngI, zipI, forS, yesT, cgN, cgT, cgs, whileS, rawL, rawOf, rawL_nil, datL, datL_nil, Rv.dat, GD.toBool, toBool_bool, intOf, intOf_int, ofO, ofO_some, ofO_none, Re.ok_bind, Re.ex_bind, Re.no_bind, Re.pure_eq, addD_int, addD_tup, addD_lst, addD_str, subD_int, negD_int, ltD_int, leD_int, gtD_int, geD_int, isD_none, isD_bool, isNotD_none, isNotD_bool, isNoneD_none, isNoneD_bool, isNoneD_int, isNoneD_str, isNoneD_list, isNoneD_tuple, isNoneD_dict, lenD_lst, lenD_tup, absD_int, intD_int, intD_bool, tupleD_lst, tupleD_tup, listD_lst, listD_tup, itemsOf_lst, itemsOf_tup, zipD_lst, zipD_tup, maxD_int, minD_int, slD_tup, slD_lst, pow_10_18, itemsOf_tupI, isi_tuple, isi_int, isi_bool, isi_str, isi_list, isTup_none, isTup_bool, isTup_int, isTup_str, isTup_list, isTup_tuple, isTup_dict, isWB_none, isWB_bool, isWB_int, isWB_str, isWB_list, isWB_tuple, isWB_dict, isB_none, isB_bool, isB_int, isB_str, isB_list, isB_tuple, isB_dict, isStr_none, isStr_bool, isStr_int, isStr_str, isStr_list, isStr_tuple, isStr_dict, isLst_none, isLst_bool, isLst_int, isLst_str, isLst_list, isLst_tuple, isTupI, sumD_lst, lenD_tupI, sumD_tupI, lenD_drD, eqD_int, neD_int, ixD_tup, ixD_lst, at0, at1, at2, at3, List.length_cons, List.length_nil, List.map_cons, List.map_nil, List.cons_append, List.nil_append, List.replicate, List.getElem?_cons_zero, List.getElem?_cons_succ, List.getElem?_nil, List.set_cons_zero, List.set_cons_succ, Nat.reduceAdd, Nat.reduceSub, Nat.reduceLeDiff, Nat.reduceEqDiff, if_true, if_false, beq_self_eq_true, decide_true, eq_self, reduceCtorEq, Bool.not_true, Bool.not_false, Bool.true_and, Bool.and_true, Bool.false_and, Bool.and_false, Bool.or_true, Bool.true_or, Bool.or_false, Bool.false_or, Bool.false_eq_true, Option.map_some, Option.map_none, Option.bind_some, Option.bind_none, need_urn_ok (isUrn_of hu hb), lenD_tupI, need_rule_ok (k := u.length) (by omega) hr2, need_draws_ok hj (by rw [hl]; exact hk), gone_through_ev hu hr hc hl hk (by omega) (by omega)]
theorem urn_behind_ev {r : List (List Int)} {n : Nat} {b c : Int} {u : List Int} {ks : List Nat} (hu : Urn b u) (hb : b ≤ 20) (hr : Rule n c r) (hc : 0 ≤ c) (hc5 : c ≤ 5) (hl : u.length = n) (hk : ∀ k ∈ ks, k < n) (hj : ks.length ≤ 20) :
    m_urn_behind [tupI u, ruleD r, drD ks] = .ok (.da (if cq u r ks = 0 then .none else tupI (bh u r ks))) := by
  have p : c * (ks.length : Int) ≤ 5 * 20 := Int.mul_le_mul hc5 (by omega) (by omega) (by omega)
  have e : eqD (frD (cq u r ks)) (.tuple [.int 0, .int 1]) = some (.da (.bool (decide (cq u r ks = 0)))) := eqD_fr _ 0
  unfold m_urn_behind d_urn_behind
  by_cases h : cq u r ks = 0
  · rw [if_pos h]
    rw [decide_eq_true h] at e
    simp only [runP, runS, seqS, nextS_ap, asgS, parS, ifS, retS, retN, dropS, raiseS, neverS, contS_ap, breakS_ap, frzS, appS, extS, tgN, tgM, tgs, tgT, tgS, vE, cE, op2, op1, aN, aC, tB', andT, orT, notT, andV, orV, notV, ifE, tupE, lstE, caE, chE, callE, callS, isiE_ap, oN, oS, slE, anyI, rngI, zipI, forS, yesT, cgN, cgT, cgs, whileS, rawL, rawOf, rawL_nil, datL, datL_nil, Rv.dat, GD.toBool, toBool_bool, intOf, intOf_int, ofO, ofO_some, ofO_none, Re.ok_bind, Re.ex_bind, Re.no_bind, Re.pure_eq, addD_int, addD_tup, addD_lst, addD_str, subD_int, negD_int, ltD_int, leD_int, gtD_int, geD_int, isD_none, isD_bool, isNotD_none, isNotD_bool, isNoneD_none, isNoneD_bool, isNoneD_int, isNoneD_str, isNoneD_list, isNoneD_tuple, isNoneD_dict, lenD_lst, lenD_tup, absD_int, intD_int, intD_bool, tupleD_lst, tupleD_tup, listD_lst, listD_tup, itemsOf_lst, itemsOf_tup, zipD_lst, zipD_tup, maxD_int, minD_int, slD_tup, slD_lst, pow_10_18, itemsOf_tupI, isi_tuple, isi_int, isi_bool, isi_str, isi_list, isTup_none, isTup_bool, isTup_int, isTup_str, isTup_list, isTup_tuple, isTup_dict, isWB_none, isWB_bool, isWB_int, isWB_str, isWB_list, isWB_tuple, isWB_dict, isB_none, isB_bool, isB_int, isB_str, isB_list, isB_tuple, isB_dict, isStr_none, isStr_bool, isStr_int, isStr_str, isStr_list, isStr_tuple, isStr_dict, isLst_none, isLst_bool, isLst_int, isLst_str, isLst_list, isLst_tuple, isTupI, sumD_lst, lenD_tupI, sumD_tupI, lenD_drD, eqD_int, neD_int, ixD_tup, ixD_lst, at0, at1, at2, at3, List.length_cons, List.length_nil, List.map_cons, List.map_nil, List.cons_append, List.nil_append, List.replicate, List.getElem?_cons_zero, List.getElem?_cons_succ, List.getElem?_nil, List.set_cons_zero, List.set_cons_succ, Nat.reduceAdd, Nat.reduceSub, Nat.reduceLeDiff, Nat.reduceEqDiff, if_true, if_false, beq_self_eq_true, decide_true, eq_self, reduceCtorEq, Bool.not_true, Bool.not_false, Bool.true_and, Bool.and_true, Bool.false_and, Bool.and_false, Bool.or_true, Bool.true_or, Bool.or_false, Bool.false_or, Bool.false_eq_true, Option.map_some, Option.map_none, Option.bind_some, Option.bind_none, chance_of_ev hu hb hr hc hc5 hl hk hj, e]
  · rw [if_neg h]
    rw [decide_eq_false h] at e
    simp only [runP, runS, seqS, nextS_ap, asgS, parS, ifS, retS, retN, dropS, raiseS, neverS, contS_ap, breakS_ap, frzS, appS, extS, tgN, tgM, tgs, tgT, tgS, vE, cE, op2, op1, aN, aC, tB', andT, orT, notT, andV, orV, notV, ifE, tupE, lstE, caE, chE, callE, callS, isiE_ap, oN, oS, slE, anyI, rngI, zipI, forS, yesT, cgN, cgT, cgs, whileS, rawL, rawOf, rawL_nil, datL, datL_nil, Rv.dat, GD.toBool, toBool_bool, intOf, intOf_int, ofO, ofO_some, ofO_none, Re.ok_bind, Re.ex_bind, Re.no_bind, Re.pure_eq, addD_int, addD_tup, addD_lst, addD_str, subD_int, negD_int, ltD_int, leD_int, gtD_int, geD_int, isD_none, isD_bool, isNotD_none, isNotD_bool, isNoneD_none, isNoneD_bool, isNoneD_int, isNoneD_str, isNoneD_list, isNoneD_tuple, isNoneD_dict, lenD_lst, lenD_tup, absD_int, intD_int, intD_bool, tupleD_lst, tupleD_tup, listD_lst, listD_tup, itemsOf_lst, itemsOf_tup, zipD_lst, zipD_tup, maxD_int, minD_int, slD_tup, slD_lst, pow_10_18, itemsOf_tupI, isi_tuple, isi_int, isi_bool, isi_str, isi_list, isTup_none, isTup_bool, isTup_int, isTup_str, isTup_list, isTup_tuple, isTup_dict, isWB_none, isWB_bool, isWB_int, isWB_str, isWB_list, isWB_tuple, isWB_dict, isB_none, isB_bool, isB_int, isB_str, isB_list, isB_tuple, isB_dict, isStr_none, isStr_bool, isStr_int, isStr_str, isStr_list, isStr_tuple, isStr_dict, isLst_none, isLst_bool, isLst_int, isLst_str, isLst_list, isLst_tuple, isTupI, sumD_lst, lenD_tupI, sumD_tupI, lenD_drD, eqD_int, neD_int, ixD_tup, ixD_lst, at0, at1, at2, at3, List.length_cons, List.length_nil, List.map_cons, List.map_nil, List.cons_append, List.nil_append, List.replicate, List.getElem?_cons_zero, List.getElem?_cons_succ, List.getElem?_nil, List.set_cons_zero, List.set_cons_succ, Nat.reduceAdd, Nat.reduceSub, Nat.reduceLeDiff, Nat.reduceEqDiff, if_true, if_false, beq_self_eq_true, decide_true, eq_self, reduceCtorEq, Bool.not_true, Bool.not_false, Bool.true_and, Bool.and_true, Bool.false_and, Bool.and_false, Bool.or_true, Bool.true_or, Bool.or_false, Bool.false_or, Bool.false_eq_true, Option.map_some, Option.map_none, Option.bind_some, Option.bind_none, chance_of_ev hu hb hr hc hc5 hl hk hj, e, gone_through_ev hu hr hc hl hk (by omega) (by omega)]

/-! ### the law's script -/
theorem cell_at_ev (ns : List Int) (k : Nat) : ∃ x, m__law_cell_at [scrD ns, .int k] = .ok (.da (.int x)) := by
  have e : lenD [scrD ns] = some (.da (.int ns.length)) := by
    show some (Rv.da (.int ((ns.map PyData.int).length : Nat))) = _
    rw [List.length_map]
  unfold m__law_cell_at d__law_cell_at
  by_cases h : k < ns.length
  · refine ⟨ns[k], ?_⟩
    have e2 : ixD (scrD ns) (.int k) = some (.da (.int ns[k])) := by
      show (L2.atI (ns.map PyData.int) k).map Rv.da = _
      rw [atI_nat' (x := PyData.int ns[k]) (by rw [List.getElem?_map, List.getElem?_eq_getElem h]; rfl)]
      rfl
    simp only [runP, runS, seqS, nextS_ap, asgS, parS, ifS, retS, retN, dropS, raiseS, neverS, contS_ap, breakS_ap, frzS, appS, extS, tgN, tgM, tgs, tgT, tgS, vE, cE, op2, op1, aN, aC, tB', andT, orT, notT, andV, orV, notV, ifE, tupE, lstE, caE, chE, callE, callS, isiE_ap, oN, oS, slE, anyI, rngI, zipI, forS, yesT, cgN, cgT, cgs, whileS, rawL, rawOf, rawL_nil, datL, datL_nil, Rv.dat, GD.toBool, toBool_bool, intOf, intOf_int, ofO, ofO_some, ofO_none, Re.ok_bind, Re.ex_bind, Re.no_bind, Re.pure_eq, addD_int, addD_tup, addD_lst, addD_str, subD_int, negD_int, ltD_int, leD_int, gtD_int, geD_int, isD_none, isD_bool, isNotD_none, isNotD_bool, isNoneD_none, isNoneD_bool, isNoneD_int, isNoneD_str, isNoneD_list, isNoneD_tuple, isNoneD_dict, lenD_lst, lenD_tup, absD_int, intD_int, intD_bool, tupleD_lst, tupleD_tup, listD_lst, listD_tup, itemsOf_lst, itemsOf_tup, zipD_lst, zipD_tup, maxD_int, minD_int, slD_tup, slD_lst, pow_10_18, itemsOf_tupI, isi_tuple, isi_int, isi_bool, isi_str, isi_list, isTup_none, isTup_bool, isTup_int, isTup_str, isTup_list, isTup_tuple, isTup_dict, isWB_none, isWB_bool, isWB_int, isWB_str, isWB_list, isWB_tuple, isWB_dict, isB_none, isB_bool, isB_int, isB_str, isB_list, isB_tuple, isB_dict, isStr_none, isStr_bool, isStr_int, isStr_str, isStr_list, isStr_tuple, isStr_dict, isLst_none, isLst_bool, isLst_int, isLst_str, isLst_list, isLst_tuple, isTupI, sumD_lst, lenD_tupI, sumD_tupI, lenD_drD, eqD_int, neD_int, ixD_tup, ixD_lst, at0, at1, at2, at3, List.length_cons, List.length_nil, List.map_cons, List.map_nil, List.cons_append, List.nil_append, List.replicate, List.getElem?_cons_zero, List.getElem?_cons_succ, List.getElem?_nil, List.set_cons_zero, List.set_cons_succ, Nat.reduceAdd, Nat.reduceSub, Nat.reduceLeDiff, Nat.reduceEqDiff, if_true, if_false, beq_self_eq_true, decide_true, eq_self, reduceCtorEq, Bool.not_true, Bool.not_false, Bool.true_and, Bool.and_true, Bool.false_and, Bool.and_false, Bool.or_true, Bool.true_or, Bool.or_false, Bool.false_or, Bool.false_eq_true, Option.map_some, Option.map_none, Option.bind_some, Option.bind_none, e, e2, decide_eq_true (show (k : Int) < ns.length by omega)]
  · refine ⟨0, ?_⟩
    simp only [runP, runS, seqS, nextS_ap, asgS, parS, ifS, retS, retN, dropS, raiseS, neverS, contS_ap, breakS_ap, frzS, appS, extS, tgN, tgM, tgs, tgT, tgS, vE, cE, op2, op1, aN, aC, tB', andT, orT, notT, andV, orV, notV, ifE, tupE, lstE, caE, chE, callE, callS, isiE_ap, oN, oS, slE, anyI, rngI, zipI, forS, yesT, cgN, cgT, cgs, whileS, rawL, rawOf, rawL_nil, datL, datL_nil, Rv.dat, GD.toBool, toBool_bool, intOf, intOf_int, ofO, ofO_some, ofO_none, Re.ok_bind, Re.ex_bind, Re.no_bind, Re.pure_eq, addD_int, addD_tup, addD_lst, addD_str, subD_int, negD_int, ltD_int, leD_int, gtD_int, geD_int, isD_none, isD_bool, isNotD_none, isNotD_bool, isNoneD_none, isNoneD_bool, isNoneD_int, isNoneD_str, isNoneD_list, isNoneD_tuple, isNoneD_dict, lenD_lst, lenD_tup, absD_int, intD_int, intD_bool, tupleD_lst, tupleD_tup, listD_lst, listD_tup, itemsOf_lst, itemsOf_tup, zipD_lst, zipD_tup, maxD_int, minD_int, slD_tup, slD_lst, pow_10_18, itemsOf_tupI, isi_tuple, isi_int, isi_bool, isi_str, isi_list, isTup_none, isTup_bool, isTup_int, isTup_str, isTup_list, isTup_tuple, isTup_dict, isWB_none, isWB_bool, isWB_int, isWB_str, isWB_list, isWB_tuple, isWB_dict, isB_none, isB_bool, isB_int, isB_str, isB_list, isB_tuple, isB_dict, isStr_none, isStr_bool, isStr_int, isStr_str, isStr_list, isStr_tuple, isStr_dict, isLst_none, isLst_bool, isLst_int, isLst_str, isLst_list, isLst_tuple, isTupI, sumD_lst, lenD_tupI, sumD_tupI, lenD_drD, eqD_int, neD_int, ixD_tup, ixD_lst, at0, at1, at2, at3, List.length_cons, List.length_nil, List.map_cons, List.map_nil, List.cons_append, List.nil_append, List.replicate, List.getElem?_cons_zero, List.getElem?_cons_succ, List.getElem?_nil, List.set_cons_zero, List.set_cons_succ, Nat.reduceAdd, Nat.reduceSub, Nat.reduceLeDiff, Nat.reduceEqDiff, if_true, if_false, beq_self_eq_true, decide_true, eq_self, reduceCtorEq, Bool.not_true, Bool.not_false, Bool.true_and, Bool.and_true, Bool.false_and, Bool.and_false, Bool.or_true, Bool.true_or, Bool.or_false, Bool.false_or, Bool.false_eq_true, Option.map_some, Option.map_none, Option.bind_some, Option.bind_none, e, decide_eq_false (show ¬ (k : Int) < ns.length by omega)]
theorem state_ev (ns : List Int) (k : Nat) : ∃ ds, m__law_state [scrD ns, .int k] = .ok (.fl ds) ∧ Val ds := by
  obtain ⟨x, h⟩ := cell_at_ev ns k
  have e : ¬ ((18 : Int) < 0) := by decide
  unfold m__law_state d__law_state
  by_cases c : (1000000000000000000 : Int) ≤ x
  · refine ⟨[.int (x - 1000000000000000000), .bool true], ?_, _, _, rfl, .inl rfl⟩
    have : decide ((1000000000000000000 : Int) ≤ x) = true := decide_eq_true c
    simp only [runP, runS, seqS, nextS_ap, asgS, parS, ifS, retS, retN, dropS, raiseS, neverS, contS_ap, breakS_ap, frzS, appS, extS, tgN, tgM, tgs, tgT, tgS, vE, cE, op2, op1, aN, aC, tB', andT, orT, notT, andV, orV, notV, ifE, tupE, lstE, caE, chE, callE, callS, isiE_ap, oN, oS, slE, anyI, rngI, zipI, forS, yesT, cgN, cgT, cgs, whileS, rawL, rawOf, rawL_nil, datL, datL_nil, Rv.dat, GD.toBool, toBool_bool, intOf, intOf_int, ofO, ofO_some, ofO_none, Re.ok_bind, Re.ex_bind, Re.no_bind, Re.pure_eq, addD_int, addD_tup, addD_lst, addD_str, subD_int, negD_int, ltD_int, leD_int, gtD_int, geD_int, isD_none, isD_bool, isNotD_none, isNotD_bool, isNoneD_none, isNoneD_bool, isNoneD_int, isNoneD_str, isNoneD_list, isNoneD_tuple, isNoneD_dict, lenD_lst, lenD_tup, absD_int, intD_int, intD_bool, tupleD_lst, tupleD_tup, listD_lst, listD_tup, itemsOf_lst, itemsOf_tup, zipD_lst, zipD_tup, maxD_int, minD_int, slD_tup, slD_lst, pow_10_18, itemsOf_tupI, isi_tuple, isi_int, isi_bool, isi_str, isi_list, isTup_none, isTup_bool, isTup_int, isTup_str, isTup_list, isTup_tuple, isTup_dict, isWB_none, isWB_bool, isWB_int, isWB_str, isWB_list, isWB_tuple, isWB_dict, isB_none, isB_bool, isB_int, isB_str, isB_list, isB_tuple, isB_dict, isStr_none, isStr_bool, isStr_int, isStr_str, isStr_list, isStr_tuple, isStr_dict, isLst_none, isLst_bool, isLst_int, isLst_str, isLst_list, isLst_tuple, isTupI, sumD_lst, lenD_tupI, sumD_tupI, lenD_drD, eqD_int, neD_int, ixD_tup, ixD_lst, at0, at1, at2, at3, List.length_cons, List.length_nil, List.map_cons, List.map_nil, List.cons_append, List.nil_append, List.replicate, List.getElem?_cons_zero, List.getElem?_cons_succ, List.getElem?_nil, List.set_cons_zero, List.set_cons_succ, Nat.reduceAdd, Nat.reduceSub, Nat.reduceLeDiff, Nat.reduceEqDiff, if_true, if_false, beq_self_eq_true, decide_true, eq_self, reduceCtorEq, Bool.not_true, Bool.not_false, Bool.true_and, Bool.and_true, Bool.false_and, Bool.and_false, Bool.or_true, Bool.true_or, Bool.or_false, Bool.false_or, Bool.false_eq_true, Option.map_some, Option.map_none, Option.bind_some, Option.bind_none, h, this]
  · refine ⟨[.int (x % 2147483647), .bool false], ?_, _, _, rfl, .inr ⟨by omega, by omega⟩⟩
    have : decide ((1000000000000000000 : Int) ≤ x) = false := decide_eq_false c
    simp only [runP, runS, seqS, nextS_ap, asgS, parS, ifS, retS, retN, dropS, raiseS, neverS, contS_ap, breakS_ap, frzS, appS, extS, tgN, tgM, tgs, tgT, tgS, vE, cE, op2, op1, aN, aC, tB', andT, orT, notT, andV, orV, notV, ifE, tupE, lstE, caE, chE, callE, callS, isiE_ap, oN, oS, slE, anyI, rngI, zipI, forS, yesT, cgN, cgT, cgs, whileS, rawL, rawOf, rawL_nil, datL, datL_nil, Rv.dat, GD.toBool, toBool_bool, intOf, intOf_int, ofO, ofO_some, ofO_none, Re.ok_bind, Re.ex_bind, Re.no_bind, Re.pure_eq, addD_int, addD_tup, addD_lst, addD_str, subD_int, negD_int, ltD_int, leD_int, gtD_int, geD_int, isD_none, isD_bool, isNotD_none, isNotD_bool, isNoneD_none, isNoneD_bool, isNoneD_int, isNoneD_str, isNoneD_list, isNoneD_tuple, isNoneD_dict, lenD_lst, lenD_tup, absD_int, intD_int, intD_bool, tupleD_lst, tupleD_tup, listD_lst, listD_tup, itemsOf_lst, itemsOf_tup, zipD_lst, zipD_tup, maxD_int, minD_int, slD_tup, slD_lst, pow_10_18, itemsOf_tupI, isi_tuple, isi_int, isi_bool, isi_str, isi_list, isTup_none, isTup_bool, isTup_int, isTup_str, isTup_list, isTup_tuple, isTup_dict, isWB_none, isWB_bool, isWB_int, isWB_str, isWB_list, isWB_tuple, isWB_dict, isB_none, isB_bool, isB_int, isB_str, isB_list, isB_tuple, isB_dict, isStr_none, isStr_bool, isStr_int, isStr_str, isStr_list, isStr_tuple, isStr_dict, isLst_none, isLst_bool, isLst_int, isLst_str, isLst_list, isLst_tuple, isTupI, sumD_lst, lenD_tupI, sumD_tupI, lenD_drD, eqD_int, neD_int, ixD_tup, ixD_lst, at0, at1, at2, at3, List.length_cons, List.length_nil, List.map_cons, List.map_nil, List.cons_append, List.nil_append, List.replicate, List.getElem?_cons_zero, List.getElem?_cons_succ, List.getElem?_nil, List.set_cons_zero, List.set_cons_succ, Nat.reduceAdd, Nat.reduceSub, Nat.reduceLeDiff, Nat.reduceEqDiff, if_true, if_false, beq_self_eq_true, decide_true, eq_self, reduceCtorEq, Bool.not_true, Bool.not_false, Bool.true_and, Bool.and_true, Bool.false_and, Bool.and_false, Bool.or_true, Bool.true_or, Bool.or_false, Bool.false_or, Bool.false_eq_true, Option.map_some, Option.map_none, Option.bind_some, Option.bind_none, h, this, modD_int (i := x) (j := 2147483647) (by decide)]
theorem take_ev {ds : List D} {n : Int} (h : Val ds) (h0 : 0 < n) (h1 : n < 2 ^ 64) : ∃ (v : Nat) (ds' : List D), m__law_take ds [.int n] = .ok (.int v, ds') ∧ (v : Int) < n ∧ Val ds' := by
  obtain ⟨s, b, rfl, hs⟩ := h
  have f : fdivD (.int s) (.int n) = some (.da (.int (s / n))) := fdivD_int h0 (by have := log2_lt' (n := n.natAbs) (k := 64) (by omega) (by decide); omega)
  have m : ∀ i, modD (.int i) (.int n) = some (.da (.int (i % n))) := fun i => modD_int h0
  have ix0 : L2.ixN 2 0 = some 0 := rfl
  have nn : ∀ i : Int, ∃ v : Nat, i % n = v := fun i => ⟨(i % n).toNat, by have := Int.emod_nonneg i (show n ≠ 0 by omega); omega⟩
  unfold m__law_take d__law_take
  cases b
  · have hs := hs.resolve_left (by simp)
    have M := fun (i : Int) => modD_int (i := i) (j := 2147483647) (by decide)
    have M2 := fun (i : Int) => modD_int (i := i) (j := 2147483629) (by decide)
    have M3 := fun (i : Int) => modD_int (i := i) (j := 2147483587) (by decide)
    have a1 := mulD_sm (i := s) (j := 48271) (by omega) (by decide)
    generalize ht : (s * 48271 + 29) % 2147483647 = t
    have ht1 : 0 ≤ t := by omega
    have ht2 : t < 2147483647 := by omega
    have a2 := mulD_sm (i := t) (j := t) (by omega) (by omega)
    have a3 := mulD_sm (i := 39373) (j := t) (by omega) (by omega)
    generalize hx : (t * t + 39373 * t + 7) % 2147483629 = x
    have hx1 : 0 ≤ x := by omega
    have hx2 : x < 2147483647 := by omega
    have a4 := mulD_sm (i := x) (j := x) (by omega) (by omega)
    have a5 := mulD_sm (i := 16807) (j := x) (by omega) (by omega)
    have f8 : ∀ i, fdivD (.int i) (.int 8) = some (.da (.int (i / 8))) := fun i => fdivD_int (by decide) (by decide)
    obtain ⟨v, hv⟩ := nn ((x * x + 16807 * x) % 2147483587 / 8)
    refine ⟨v, [.int t, .bool false], ?_, ?_, _, _, rfl, .inr ⟨ht1, ht2⟩⟩
    · simp only [runP, runS, seqS, nextS_ap, asgS, parS, ifS, retS, retN, dropS, raiseS, neverS, contS_ap, breakS_ap, frzS, appS, extS, tgN, tgM, tgs, tgT, tgS, vE, cE, op2, op1, aN, aC, tB', andT, orT, notT, andV, orV, notV, ifE, tupE, lstE, caE, chE, callE, callS, isiE_ap, oN, oS, slE, anyI, rngI, zipI, forS, yesT, cgN, cgT, cgs, whileS, rawL, rawOf, rawL_nil, datL, datL_nil, Rv.dat, GD.toBool, toBool_bool, intOf, intOf_int, ofO, ofO_some, ofO_none, Re.ok_bind, Re.ex_bind, Re.no_bind, Re.pure_eq, addD_int, addD_tup, addD_lst, addD_str, subD_int, negD_int, ltD_int, leD_int, gtD_int, geD_int, isD_none, isD_bool, isNotD_none, isNotD_bool, isNoneD_none, isNoneD_bool, isNoneD_int, isNoneD_str, isNoneD_list, isNoneD_tuple, isNoneD_dict, lenD_lst, lenD_tup, absD_int, intD_int, intD_bool, tupleD_lst, tupleD_tup, listD_lst, listD_tup, itemsOf_lst, itemsOf_tup, zipD_lst, zipD_tup, maxD_int, minD_int, slD_tup, slD_lst, pow_10_18, itemsOf_tupI, isi_tuple, isi_int, isi_bool, isi_str, isi_list, isTup_none, isTup_bool, isTup_int, isTup_str, isTup_list, isTup_tuple, isTup_dict, isWB_none, isWB_bool, isWB_int, isWB_str, isWB_list, isWB_tuple, isWB_dict, isB_none, isB_bool, isB_int, isB_str, isB_list, isB_tuple, isB_dict, isStr_none, isStr_bool, isStr_int, isStr_str, isStr_list, isStr_tuple, isStr_dict, isLst_none, isLst_bool, isLst_int, isLst_str, isLst_list, isLst_tuple, isTupI, sumD_lst, lenD_tupI, sumD_tupI, lenD_drD, eqD_int, neD_int, ixD_tup, ixD_lst, at0, at1, at2, at3, List.length_cons, List.length_nil, List.map_cons, List.map_nil, List.cons_append, List.nil_append, List.replicate, List.getElem?_cons_zero, List.getElem?_cons_succ, List.getElem?_nil, List.set_cons_zero, List.set_cons_succ, Nat.reduceAdd, Nat.reduceSub, Nat.reduceLeDiff, Nat.reduceEqDiff, if_true, if_false, beq_self_eq_true, decide_true, eq_self, reduceCtorEq, Bool.not_true, Bool.not_false, Bool.true_and, Bool.and_true, Bool.false_and, Bool.and_false, Bool.or_true, Bool.true_or, Bool.or_false, Bool.false_or, Bool.false_eq_true, Option.map_some, Option.map_none, Option.bind_some, Option.bind_none, runS, M, M2, M3, a1, ht, ix0, a2, a3, hx, a4, a5, f8, m, hv]
    · rw [← hv]; exact Int.emod_lt_of_pos _ h0
  · obtain ⟨v, hv⟩ := nn s
    refine ⟨v, [.int (s / n), .bool true], ?_, ?_, _, _, rfl, .inl rfl⟩
    · simp only [runP, runS, seqS, nextS_ap, asgS, parS, ifS, retS, retN, dropS, raiseS, neverS, contS_ap, breakS_ap, frzS, appS, extS, tgN, tgM, tgs, tgT, tgS, vE, cE, op2, op1, aN, aC, tB', andT, orT, notT, andV, orV, notV, ifE, tupE, lstE, caE, chE, callE, callS, isiE_ap, oN, oS, slE, anyI, rngI, zipI, forS, yesT, cgN, cgT, cgs, whileS, rawL, rawOf, rawL_nil, datL, datL_nil, Rv.dat, GD.toBool, toBool_bool, intOf, intOf_int, ofO, ofO_some, ofO_none, Re.ok_bind, Re.ex_bind, Re.no_bind, Re.pure_eq, addD_int, addD_tup, addD_lst, addD_str, subD_int, negD_int, ltD_int, leD_int, gtD_int, geD_int, isD_none, isD_bool, isNotD_none, isNotD_bool, isNoneD_none, isNoneD_bool, isNoneD_int, isNoneD_str, isNoneD_list, isNoneD_tuple, isNoneD_dict, lenD_lst, lenD_tup, absD_int, intD_int, intD_bool, tupleD_lst, tupleD_tup, listD_lst, listD_tup, itemsOf_lst, itemsOf_tup, zipD_lst, zipD_tup, maxD_int, minD_int, slD_tup, slD_lst, pow_10_18, itemsOf_tupI, isi_tuple, isi_int, isi_bool, isi_str, isi_list, isTup_none, isTup_bool, isTup_int, isTup_str, isTup_list, isTup_tuple, isTup_dict, isWB_none, isWB_bool, isWB_int, isWB_str, isWB_list, isWB_tuple, isWB_dict, isB_none, isB_bool, isB_int, isB_str, isB_list, isB_tuple, isB_dict, isStr_none, isStr_bool, isStr_int, isStr_str, isStr_list, isStr_tuple, isStr_dict, isLst_none, isLst_bool, isLst_int, isLst_str, isLst_list, isLst_tuple, isTupI, sumD_lst, lenD_tupI, sumD_tupI, lenD_drD, eqD_int, neD_int, ixD_tup, ixD_lst, at0, at1, at2, at3, List.length_cons, List.length_nil, List.map_cons, List.map_nil, List.cons_append, List.nil_append, List.replicate, List.getElem?_cons_zero, List.getElem?_cons_succ, List.getElem?_nil, List.set_cons_zero, List.set_cons_succ, Nat.reduceAdd, Nat.reduceSub, Nat.reduceLeDiff, Nat.reduceEqDiff, if_true, if_false, beq_self_eq_true, decide_true, eq_self, reduceCtorEq, Bool.not_true, Bool.not_false, Bool.true_and, Bool.and_true, Bool.false_and, Bool.and_false, Bool.or_true, Bool.true_or, Bool.or_false, Bool.false_or, Bool.false_eq_true, Option.map_some, Option.map_none, Option.bind_some, Option.bind_none, f, m, ix0, hv]
    · rw [← hv]; exact Int.emod_lt_of_pos _ h0

theorem cut_loop (x y : Sl) : ∀ (n : Nat) (a b : Int), 0 ≤ a → 0 ≤ b → b.natAbs < n → whileD (tB' (op2 gtD (vE 3) (cE (.int 0)))) (parS 2 3 (aC (vE 3) (aC (op2 modD (vE 2) (vE 3)) aN))) n [x, y, .da (.int a), .da (.int b)] = .nx [x, y, .da (.int (Nat.gcd a.natAbs b.natAbs : Nat)), .da (.int 0)]
  | 0, a, b, _, _, h => by omega
  | n + 1, a, b, ha, hb, h => by
    unfold whileD
    by_cases hb0 : b = 0
    · subst hb0
      simp only [runP, runS, seqS, nextS_ap, asgS, parS, ifS, retS, retN, dropS, raiseS, neverS, contS_ap, breakS_ap, frzS, appS, extS, tgN, tgM, tgs, tgT, tgS, vE, cE, op2, op1, aN, aC, tB', andT, orT, notT, andV, orV, notV, ifE, tupE, lstE, caE, chE, callE, callS, isiE_ap, oN, oS, slE, anyI, rngI, zipI, forS, yesT, cgN, cgT, cgs, whileS, rawL, rawOf, rawL_nil, datL, datL_nil, Rv.dat, GD.toBool, toBool_bool, intOf, intOf_int, ofO, ofO_some, ofO_none, Re.ok_bind, Re.ex_bind, Re.no_bind, Re.pure_eq, addD_int, addD_tup, addD_lst, addD_str, subD_int, negD_int, ltD_int, leD_int, gtD_int, geD_int, isD_none, isD_bool, isNotD_none, isNotD_bool, isNoneD_none, isNoneD_bool, isNoneD_int, isNoneD_str, isNoneD_list, isNoneD_tuple, isNoneD_dict, lenD_lst, lenD_tup, absD_int, intD_int, intD_bool, tupleD_lst, tupleD_tup, listD_lst, listD_tup, itemsOf_lst, itemsOf_tup, zipD_lst, zipD_tup, maxD_int, minD_int, slD_tup, slD_lst, pow_10_18, itemsOf_tupI, isi_tuple, isi_int, isi_bool, isi_str, isi_list, isTup_none, isTup_bool, isTup_int, isTup_str, isTup_list, isTup_tuple, isTup_dict, isWB_none, isWB_bool, isWB_int, isWB_str, isWB_list, isWB_tuple, isWB_dict, isB_none, isB_bool, isB_int, isB_str, isB_list, isB_tuple, isB_dict, isStr_none, isStr_bool, isStr_int, isStr_str, isStr_list, isStr_tuple, isStr_dict, isLst_none, isLst_bool, isLst_int, isLst_str, isLst_list, isLst_tuple, isTupI, sumD_lst, lenD_tupI, sumD_tupI, lenD_drD, eqD_int, neD_int, ixD_tup, ixD_lst, at0, at1, at2, at3, List.length_cons, List.length_nil, List.map_cons, List.map_nil, List.cons_append, List.nil_append, List.replicate, List.getElem?_cons_zero, List.getElem?_cons_succ, List.getElem?_nil, List.set_cons_zero, List.set_cons_succ, Nat.reduceAdd, Nat.reduceSub, Nat.reduceLeDiff, Nat.reduceEqDiff, if_true, if_false, beq_self_eq_true, decide_true, eq_self, reduceCtorEq, Bool.not_true, Bool.not_false, Bool.true_and, Bool.and_true, Bool.false_and, Bool.and_false, Bool.or_true, Bool.true_or, Bool.or_false, Bool.false_or, Bool.false_eq_true, Option.map_some, Option.map_none, Option.bind_some, Option.bind_none, show decide ((0 : Int) < 0) = false by decide]
      have : ((Nat.gcd a.natAbs (Int.natAbs 0) : Nat) : Int) = a := by simp; omega
      rw [this]
    · simp only [runP, runS, seqS, nextS_ap, asgS, parS, ifS, retS, retN, dropS, raiseS, neverS, contS_ap, breakS_ap, frzS, appS, extS, tgN, tgM, tgs, tgT, tgS, vE, cE, op2, op1, aN, aC, tB', andT, orT, notT, andV, orV, notV, ifE, tupE, lstE, caE, chE, callE, callS, isiE_ap, oN, oS, slE, anyI, rngI, zipI, forS, yesT, cgN, cgT, cgs, whileS, rawL, rawOf, rawL_nil, datL, datL_nil, Rv.dat, GD.toBool, toBool_bool, intOf, intOf_int, ofO, ofO_some, ofO_none, Re.ok_bind, Re.ex_bind, Re.no_bind, Re.pure_eq, addD_int, addD_tup, addD_lst, addD_str, subD_int, negD_int, ltD_int, leD_int, gtD_int, geD_int, isD_none, isD_bool, isNotD_none, isNotD_bool, isNoneD_none, isNoneD_bool, isNoneD_int, isNoneD_str, isNoneD_list, isNoneD_tuple, isNoneD_dict, lenD_lst, lenD_tup, absD_int, intD_int, intD_bool, tupleD_lst, tupleD_tup, listD_lst, listD_tup, itemsOf_lst, itemsOf_tup, zipD_lst, zipD_tup, maxD_int, minD_int, slD_tup, slD_lst, pow_10_18, itemsOf_tupI, isi_tuple, isi_int, isi_bool, isi_str, isi_list, isTup_none, isTup_bool, isTup_int, isTup_str, isTup_list, isTup_tuple, isTup_dict, isWB_none, isWB_bool, isWB_int, isWB_str, isWB_list, isWB_tuple, isWB_dict, isB_none, isB_bool, isB_int, isB_str, isB_list, isB_tuple, isB_dict, isStr_none, isStr_bool, isStr_int, isStr_str, isStr_list, isStr_tuple, isStr_dict, isLst_none, isLst_bool, isLst_int, isLst_str, isLst_list, isLst_tuple, isTupI, sumD_lst, lenD_tupI, sumD_tupI, lenD_drD, eqD_int, neD_int, ixD_tup, ixD_lst, at0, at1, at2, at3, List.length_cons, List.length_nil, List.map_cons, List.map_nil, List.cons_append, List.nil_append, List.replicate, List.getElem?_cons_zero, List.getElem?_cons_succ, List.getElem?_nil, List.set_cons_zero, List.set_cons_succ, Nat.reduceAdd, Nat.reduceSub, Nat.reduceLeDiff, Nat.reduceEqDiff, if_true, if_false, beq_self_eq_true, decide_true, eq_self, reduceCtorEq, Bool.not_true, Bool.not_false, Bool.true_and, Bool.and_true, Bool.false_and, Bool.and_false, Bool.or_true, Bool.true_or, Bool.or_false, Bool.false_or, Bool.false_eq_true, Option.map_some, Option.map_none, Option.bind_some, Option.bind_none, decide_eq_true (show 0 < b by omega), modD_nz hb0]
      rw [cut_loop x y n b (a.fmod b) hb (Int.fmod_nonneg_of_pos a (by omega)) (by have := fmod_natAbs_lt a hb0; omega), gcd_fmod]
theorem cut_nat (a : Int) {d : Nat} (hd : d ≠ 0) (hs : d < 2 ^ 8000) : m__law_cut [.int a, .int (d : Int)] = .ok (.da (frD (mkRat a d))) := by
  have g0 : 0 < Nat.gcd a.natAbs d := Nat.gcd_pos_of_pos_right _ (by omega)
  have gl : Nat.gcd a.natAbs d ≤ d := Nat.le_of_dvd (by omega) (Nat.gcd_dvd_right a.natAbs d)
  have c : ((Nat.gcd a.natAbs d : Nat) : Int).natAbs.log2 < 9000 := by
    have := log2_lt' (Nat.lt_of_le_of_lt gl hs) (by decide)
    simp only [Int.natAbs_natCast] at this ⊢
    omega
  have c0 : 0 < ((Nat.gcd a.natAbs d : Nat) : Int) := by omega
  have f : ∀ i, fdivD (.int i) (.int ((Nat.gcd a.natAbs d : Nat) : Int)) = some (.da (.int (i / ((Nat.gcd a.natAbs d : Nat) : Int)))) := fun i => fdivD_int c0 c
  have e : (if a < 0 then -a else a) = (a.natAbs : Int) := by split <;> omega
  have L := cut_loop (.da (.int a)) (.da (.int d)) (fu__law_cut [.da (.int a), .da (.int d), .da (.int a.natAbs), .da (.int d)]) a.natAbs d (by omega) (by omega) (by show (d : Int).natAbs < (d : Int).natAbs + 1; omega)
  rw [Int.natAbs_natCast, Int.natAbs_natCast] at L
  unfold m__law_cut d__law_cut; simp only [runP, runS, seqS, nextS_ap, asgS, parS, ifS, retS, retN, dropS, raiseS, neverS, contS_ap, breakS_ap, frzS, appS, extS, tgN, tgM, tgs, tgT, tgS, vE, cE, op2, op1, aN, aC, tB', andT, orT, notT, andV, orV, notV, ifE, tupE, lstE, caE, chE, callE, callS, isiE_ap, oN, oS, slE, anyI, rngI, zipI, forS, yesT, cgN, cgT, cgs, whileS, rawL, rawOf, rawL_nil, datL, datL_nil, Rv.dat, GD.toBool, toBool_bool, intOf, intOf_int, ofO, ofO_some, ofO_none, Re.ok_bind, Re.ex_bind, Re.no_bind, Re.pure_eq, addD_int, addD_tup, addD_lst, addD_str, subD_int, negD_int, ltD_int, leD_int, gtD_int, geD_int, isD_none, isD_bool, isNotD_none, isNotD_bool, isNoneD_none, isNoneD_bool, isNoneD_int, isNoneD_str, isNoneD_list, isNoneD_tuple, isNoneD_dict, lenD_lst, lenD_tup, absD_int, intD_int, intD_bool, tupleD_lst, tupleD_tup, listD_lst, listD_tup, itemsOf_lst, itemsOf_tup, zipD_lst, zipD_tup, maxD_int, minD_int, slD_tup, slD_lst, pow_10_18, itemsOf_tupI, isi_tuple, isi_int, isi_bool, isi_str, isi_list, isTup_none, isTup_bool, isTup_int, isTup_str, isTup_list, isTup_tuple, isTup_dict, isWB_none, isWB_bool, isWB_int, isWB_str, isWB_list, isWB_tuple, isWB_dict, isB_none, isB_bool, isB_int, isB_str, isB_list, isB_tuple, isB_dict, isStr_none, isStr_bool, isStr_int, isStr_str, isStr_list, isStr_tuple, isStr_dict, isLst_none, isLst_bool, isLst_int, isLst_str, isLst_list, isLst_tuple, isTupI, sumD_lst, lenD_tupI, sumD_tupI, lenD_drD, eqD_int, neD_int, ixD_tup, ixD_lst, at0, at1, at2, at3, List.length_cons, List.length_nil, List.map_cons, List.map_nil, List.cons_append, List.nil_append, List.replicate, List.getElem?_cons_zero, List.getElem?_cons_succ, List.getElem?_nil, List.set_cons_zero, List.set_cons_succ, Nat.reduceAdd, Nat.reduceSub, Nat.reduceLeDiff, Nat.reduceEqDiff, if_true, if_false, beq_self_eq_true, decide_true, eq_self, reduceCtorEq, Bool.not_true, Bool.not_false, Bool.true_and, Bool.and_true, Bool.false_and, Bool.and_false, Bool.or_true, Bool.true_or, Bool.or_false, Bool.false_or, Bool.false_eq_true, Option.map_some, Option.map_none, Option.bind_some, Option.bind_none, e, L, f]
  obtain ⟨h1, h2⟩ := mkRat_nd a hd
  unfold frD
  rw [h1, h2, Int.natCast_ediv]
theorem cut_ev (a : Int) {b : Int} (h : 0 < b) (hs : b < 2 ^ 64) : m__law_cut [.int a, .int b] = .ok (.da (frD ((a : Rat) / (b : Rat)))) := by
  have h2 := cut_nat a (d := b.toNat) (by omega) (by have := lt64_8000 hs; rw [← Int.ofNat_lt]; rw [Int.toNat_of_nonneg (by omega)]; simpa using this)
  rw [Int.toNat_of_nonneg (by omega), mkRat_div a h] at h2
  exact h2

theorem lplus_ev {k l : Nat} {p q : Rat} (hp : Sm' k p) (hq : Sm' l q) (hk : k + l ≤ 8000) (hk0 : 0 < k) (hl0 : 0 < l) : m__law_plus [frD p, frD q] = .ok (.da (frD (p + q))) := by
  have b1 := bigI_of hp.num (by omega) hk0
  have b2 := bigI_of hq.num (by omega) hl0
  have b3 : bigI (p.den : Int) = false := bigI_of (k := k) (by simpa using hp.den) (by omega) hk0
  have b4 : bigI (q.den : Int) = false := bigI_of (k := l) (by simpa using hq.den) (by omega) hl0
  have := cut_nat (p.num * q.den + q.num * p.den) (d := p.den * q.den) (Nat.mul_ne_zero p.den_nz q.den_nz) (Nat.lt_of_lt_of_le (mul_lt_pow hp.den hq.den) (Nat.pow_le_pow_right (by decide) hk))
  rw [Int.natCast_mul] at this
  unfold m__law_plus d__law_plus frD; simp only [runP, runS, seqS, nextS_ap, asgS, parS, ifS, retS, retN, dropS, raiseS, neverS, contS_ap, breakS_ap, frzS, appS, extS, tgN, tgM, tgs, tgT, tgS, vE, cE, op2, op1, aN, aC, tB', andT, orT, notT, andV, orV, notV, ifE, tupE, lstE, caE, chE, callE, callS, isiE_ap, oN, oS, slE, anyI, rngI, zipI, forS, yesT, cgN, cgT, cgs, whileS, rawL, rawOf, rawL_nil, datL, datL_nil, Rv.dat, GD.toBool, toBool_bool, intOf, intOf_int, ofO, ofO_some, ofO_none, Re.ok_bind, Re.ex_bind, Re.no_bind, Re.pure_eq, addD_int, addD_tup, addD_lst, addD_str, subD_int, negD_int, ltD_int, leD_int, gtD_int, geD_int, isD_none, isD_bool, isNotD_none, isNotD_bool, isNoneD_none, isNoneD_bool, isNoneD_int, isNoneD_str, isNoneD_list, isNoneD_tuple, isNoneD_dict, lenD_lst, lenD_tup, absD_int, intD_int, intD_bool, tupleD_lst, tupleD_tup, listD_lst, listD_tup, itemsOf_lst, itemsOf_tup, zipD_lst, zipD_tup, maxD_int, minD_int, slD_tup, slD_lst, pow_10_18, itemsOf_tupI, isi_tuple, isi_int, isi_bool, isi_str, isi_list, isTup_none, isTup_bool, isTup_int, isTup_str, isTup_list, isTup_tuple, isTup_dict, isWB_none, isWB_bool, isWB_int, isWB_str, isWB_list, isWB_tuple, isWB_dict, isB_none, isB_bool, isB_int, isB_str, isB_list, isB_tuple, isB_dict, isStr_none, isStr_bool, isStr_int, isStr_str, isStr_list, isStr_tuple, isStr_dict, isLst_none, isLst_bool, isLst_int, isLst_str, isLst_list, isLst_tuple, isTupI, sumD_lst, lenD_tupI, sumD_tupI, lenD_drD, eqD_int, neD_int, ixD_tup, ixD_lst, at0, at1, at2, at3, List.length_cons, List.length_nil, List.map_cons, List.map_nil, List.cons_append, List.nil_append, List.replicate, List.getElem?_cons_zero, List.getElem?_cons_succ, List.getElem?_nil, List.set_cons_zero, List.set_cons_succ, Nat.reduceAdd, Nat.reduceSub, Nat.reduceLeDiff, Nat.reduceEqDiff, if_true, if_false, beq_self_eq_true, decide_true, eq_self, reduceCtorEq, Bool.not_true, Bool.not_false, Bool.true_and, Bool.and_true, Bool.false_and, Bool.and_false, Bool.or_true, Bool.true_or, Bool.or_false, Bool.false_or, Bool.false_eq_true, Option.map_some, Option.map_none, Option.bind_some, Option.bind_none, mulD_int b1 b4, mulD_int b2 b3, mulD_int b3 b4, this]
  rw [Rat.add_def']
  rfl

theorem lby_ev {k l : Nat} {p q : Rat} (hp : Sm' k p) (hq : Sm' l q) (hk : k + l ≤ 8000) (hk0 : 0 < k) (hl0 : 0 < l) : m__law_by [frD p, frD q] = .ok (.da (frD (p * q))) := by
  have b1 := bigI_of hp.num (by omega) hk0
  have b2 := bigI_of hq.num (by omega) hl0
  have b3 : bigI (p.den : Int) = false := bigI_of (k := k) (by simpa using hp.den) (by omega) hk0
  have b4 : bigI (q.den : Int) = false := bigI_of (k := l) (by simpa using hq.den) (by omega) hl0
  have := cut_nat (p.num * q.num) (d := p.den * q.den) (Nat.mul_ne_zero p.den_nz q.den_nz) (Nat.lt_of_lt_of_le (mul_lt_pow hp.den hq.den) (Nat.pow_le_pow_right (by decide) hk))
  rw [Int.natCast_mul] at this
  unfold m__law_by d__law_by frD; simp only [runP, runS, seqS, nextS_ap, asgS, parS, ifS, retS, retN, dropS, raiseS, neverS, contS_ap, breakS_ap, frzS, appS, extS, tgN, tgM, tgs, tgT, tgS, vE, cE, op2, op1, aN, aC, tB', andT, orT, notT, andV, orV, notV, ifE, tupE, lstE, caE, chE, callE, callS, isiE_ap, oN, oS, slE, anyI, rngI, zipI, forS, yesT, cgN, cgT, cgs, whileS, rawL, rawOf, rawL_nil, datL, datL_nil, Rv.dat, GD.toBool, toBool_bool, intOf, intOf_int, ofO, ofO_some, ofO_none, Re.ok_bind, Re.ex_bind, Re.no_bind, Re.pure_eq, addD_int, addD_tup, addD_lst, addD_str, subD_int, negD_int, ltD_int, leD_int, gtD_int, geD_int, isD_none, isD_bool, isNotD_none, isNotD_bool, isNoneD_none, isNoneD_bool, isNoneD_int, isNoneD_str, isNoneD_list, isNoneD_tuple, isNoneD_dict, lenD_lst, lenD_tup, absD_int, intD_int, intD_bool, tupleD_lst, tupleD_tup, listD_lst, listD_tup, itemsOf_lst, itemsOf_tup, zipD_lst, zipD_tup, maxD_int, minD_int, slD_tup, slD_lst, pow_10_18, itemsOf_tupI, isi_tuple, isi_int, isi_bool, isi_str, isi_list, isTup_none, isTup_bool, isTup_int, isTup_str, isTup_list, isTup_tuple, isTup_dict, isWB_none, isWB_bool, isWB_int, isWB_str, isWB_list, isWB_tuple, isWB_dict, isB_none, isB_bool, isB_int, isB_str, isB_list, isB_tuple, isB_dict, isStr_none, isStr_bool, isStr_int, isStr_str, isStr_list, isStr_tuple, isStr_dict, isLst_none, isLst_bool, isLst_int, isLst_str, isLst_list, isLst_tuple, isTupI, sumD_lst, lenD_tupI, sumD_tupI, lenD_drD, eqD_int, neD_int, ixD_tup, ixD_lst, at0, at1, at2, at3, List.length_cons, List.length_nil, List.map_cons, List.map_nil, List.cons_append, List.nil_append, List.replicate, List.getElem?_cons_zero, List.getElem?_cons_succ, List.getElem?_nil, List.set_cons_zero, List.set_cons_succ, Nat.reduceAdd, Nat.reduceSub, Nat.reduceLeDiff, Nat.reduceEqDiff, if_true, if_false, beq_self_eq_true, decide_true, eq_self, reduceCtorEq, Bool.not_true, Bool.not_false, Bool.true_and, Bool.and_true, Bool.false_and, Bool.and_false, Bool.or_true, Bool.true_or, Bool.or_false, Bool.false_or, Bool.false_eq_true, Option.map_some, Option.map_none, Option.bind_some, Option.bind_none, mulD_int b1 b2, mulD_int b3 b4, this]
  rw [Rat.mul_def']
  rfl

end LawHere

namespace LawHere
open PySem GD
/-! ### k14 -/
theorem small_ev {ds : List D} {n : Nat} (h : Val ds) (h1 : 1 ≤ n) (h4 : n ≤ 4) : ∃ u ds', m__law_small ds [.int n] = .ok (tupI u, ds') ∧ Urn 7 u ∧ u.length = n ∧ Val ds' := by
  obtain ⟨ys, g', e, l, p, ds1, hv, rfl⟩ := lc_inv (it := rngI (aC (vE 1) aN)) (j := 3) (te := callS m__law_take (aC (vE 0) (aC (cE (.int 8)) aN))) (g := [.ml false ds, .da (.int n), .un, .un]) (g1 := [.ml false ds, .da (.int n), .un, .un])
    (ds := (List.range n).map fun i : Nat => .int i) (fun g => ∃ ds, Val ds ∧ g = [.ml false ds, .da (.int n), .un, .un]) (fun d => ∃ x : Nat, d = .int x ∧ (x : Int) < 8)
    (by simp only [runP, runS, seqS, nextS_ap, asgS, parS, ifS, retS, retN, dropS, raiseS, neverS, contS_ap, breakS_ap, frzS, appS, extS, tgN, tgM, tgs, tgT, tgS, vE, cE, op2, op1, aN, aC, tB', andT, orT, notT, andV, orV, notV, ifE, tupE, lstE, caE, chE, callE, callS, isiE_ap, oN, oS, slE, anyI, rngI, zipI, forS, yesT, cgN, cgT, cgs, whileS, rawL, rawOf, rawL_nil, datL, datL_nil, Rv.dat, GD.toBool, toBool_bool, intOf, intOf_int, ofO, ofO_some, ofO_none, Re.ok_bind, Re.ex_bind, Re.no_bind, Re.pure_eq, addD_int, addD_tup, addD_lst, addD_str, subD_int, negD_int, ltD_int, leD_int, gtD_int, geD_int, isD_none, isD_bool, isNotD_none, isNotD_bool, isNoneD_none, isNoneD_bool, isNoneD_int, isNoneD_str, isNoneD_list, isNoneD_tuple, isNoneD_dict, lenD_lst, lenD_tup, absD_int, intD_int, intD_bool, tupleD_lst, tupleD_tup, listD_lst, listD_tup, itemsOf_lst, itemsOf_tup, zipD_lst, zipD_tup, maxD_int, minD_int, slD_tup, slD_lst, pow_10_18, itemsOf_tupI, isi_tuple, isi_int, isi_bool, isi_str, isi_list, isTup_none, isTup_bool, isTup_int, isTup_str, isTup_list, isTup_tuple, isTup_dict, isWB_none, isWB_bool, isWB_int, isWB_str, isWB_list, isWB_tuple, isWB_dict, isB_none, isB_bool, isB_int, isB_str, isB_list, isB_tuple, isB_dict, isStr_none, isStr_bool, isStr_int, isStr_str, isStr_list, isStr_tuple, isStr_dict, isLst_none, isLst_bool, isLst_int, isLst_str, isLst_list, isLst_tuple, isTupI, sumD_lst, lenD_tupI, sumD_tupI, lenD_drD, eqD_int, neD_int, ixD_tup, ixD_lst, at0, at1, at2, at3, List.length_cons, List.length_nil, List.map_cons, List.map_nil, List.cons_append, List.nil_append, List.replicate, List.getElem?_cons_zero, List.getElem?_cons_succ, List.getElem?_nil, List.set_cons_zero, List.set_cons_succ, Nat.reduceAdd, Nat.reduceSub, Nat.reduceLeDiff, Nat.reduceEqDiff, if_true, if_false, beq_self_eq_true, decide_true, eq_self, reduceCtorEq, Bool.not_true, Bool.not_false, Bool.true_and, Bool.and_true, Bool.false_and, Bool.and_false, Bool.or_true, Bool.true_or, Bool.or_false, Bool.false_or, Bool.false_eq_true, Option.map_some, Option.map_none, Option.bind_some, Option.bind_none, rng_nat (show n ≤ 1000000 by omega)]) (by simp; omega) ⟨ds, h, by simp only [runP, runS, seqS, nextS_ap, asgS, parS, ifS, retS, retN, dropS, raiseS, neverS, contS_ap, breakS_ap, frzS, appS, extS, tgN, tgM, tgs, tgT, tgS, vE, cE, op2, op1, aN, aC, tB', andT, orT, notT, andV, orV, notV, ifE, tupE, lstE, caE, chE, callE, callS, isiE_ap, oN, oS, slE, anyI, rngI, zipI, forS, yesT, cgN, cgT, cgs, whileS, rawL, rawOf, rawL_nil, datL, datL_nil, Rv.dat, GD.toBool, toBool_bool, intOf, intOf_int, ofO, ofO_some, ofO_none, Re.ok_bind, Re.ex_bind, Re.no_bind, Re.pure_eq, addD_int, addD_tup, addD_lst, addD_str, subD_int, negD_int, ltD_int, leD_int, gtD_int, geD_int, isD_none, isD_bool, isNotD_none, isNotD_bool, isNoneD_none, isNoneD_bool, isNoneD_int, isNoneD_str, isNoneD_list, isNoneD_tuple, isNoneD_dict, lenD_lst, lenD_tup, absD_int, intD_int, intD_bool, tupleD_lst, tupleD_tup, listD_lst, listD_tup, itemsOf_lst, itemsOf_tup, zipD_lst, zipD_tup, maxD_int, minD_int, slD_tup, slD_lst, pow_10_18, itemsOf_tupI, isi_tuple, isi_int, isi_bool, isi_str, isi_list, isTup_none, isTup_bool, isTup_int, isTup_str, isTup_list, isTup_tuple, isTup_dict, isWB_none, isWB_bool, isWB_int, isWB_str, isWB_list, isWB_tuple, isWB_dict, isB_none, isB_bool, isB_int, isB_str, isB_list, isB_tuple, isB_dict, isStr_none, isStr_bool, isStr_int, isStr_str, isStr_list, isStr_tuple, isStr_dict, isLst_none, isLst_bool, isLst_int, isLst_str, isLst_list, isLst_tuple, isTupI, sumD_lst, lenD_tupI, sumD_tupI, lenD_drD, eqD_int, neD_int, ixD_tup, ixD_lst, at0, at1, at2, at3, List.length_cons, List.length_nil, List.map_cons, List.map_nil, List.cons_append, List.nil_append, List.replicate, List.getElem?_cons_zero, List.getElem?_cons_succ, List.getElem?_nil, List.set_cons_zero, List.set_cons_succ, Nat.reduceAdd, Nat.reduceSub, Nat.reduceLeDiff, Nat.reduceEqDiff, if_true, if_false, beq_self_eq_true, decide_true, eq_self, reduceCtorEq, Bool.not_true, Bool.not_false, Bool.true_and, Bool.and_true, Bool.false_and, Bool.and_false, Bool.or_true, Bool.true_or, Bool.or_false, Bool.false_or, Bool.false_eq_true, Option.map_some, Option.map_none, Option.bind_some, Option.bind_none]⟩ (by
      rintro d _ g ⟨ds, hd, rfl⟩
      obtain ⟨v, ds', e, hv, hd'⟩ := take_ev hd (n := 8) (by decide) (by decide)
      exact ⟨.da (.int v), [.ml false ds', .da (.int n), .un, .da d], .int v, by simp only [runP, runS, seqS, nextS_ap, asgS, parS, ifS, retS, retN, dropS, raiseS, neverS, contS_ap, breakS_ap, frzS, appS, extS, tgN, tgM, tgs, tgT, tgS, vE, cE, op2, op1, aN, aC, tB', andT, orT, notT, andV, orV, notV, ifE, tupE, lstE, caE, chE, callE, callS, isiE_ap, oN, oS, slE, anyI, rngI, zipI, forS, yesT, cgN, cgT, cgs, whileS, rawL, rawOf, rawL_nil, datL, datL_nil, Rv.dat, GD.toBool, toBool_bool, intOf, intOf_int, ofO, ofO_some, ofO_none, Re.ok_bind, Re.ex_bind, Re.no_bind, Re.pure_eq, addD_int, addD_tup, addD_lst, addD_str, subD_int, negD_int, ltD_int, leD_int, gtD_int, geD_int, isD_none, isD_bool, isNotD_none, isNotD_bool, isNoneD_none, isNoneD_bool, isNoneD_int, isNoneD_str, isNoneD_list, isNoneD_tuple, isNoneD_dict, lenD_lst, lenD_tup, absD_int, intD_int, intD_bool, tupleD_lst, tupleD_tup, listD_lst, listD_tup, itemsOf_lst, itemsOf_tup, zipD_lst, zipD_tup, maxD_int, minD_int, slD_tup, slD_lst, pow_10_18, itemsOf_tupI, isi_tuple, isi_int, isi_bool, isi_str, isi_list, isTup_none, isTup_bool, isTup_int, isTup_str, isTup_list, isTup_tuple, isTup_dict, isWB_none, isWB_bool, isWB_int, isWB_str, isWB_list, isWB_tuple, isWB_dict, isB_none, isB_bool, isB_int, isB_str, isB_list, isB_tuple, isB_dict, isStr_none, isStr_bool, isStr_int, isStr_str, isStr_list, isStr_tuple, isStr_dict, isLst_none, isLst_bool, isLst_int, isLst_str, isLst_list, isLst_tuple, isTupI, sumD_lst, lenD_tupI, sumD_tupI, lenD_drD, eqD_int, neD_int, ixD_tup, ixD_lst, at0, at1, at2, at3, List.length_cons, List.length_nil, List.map_cons, List.map_nil, List.cons_append, List.nil_append, List.replicate, List.getElem?_cons_zero, List.getElem?_cons_succ, List.getElem?_nil, List.set_cons_zero, List.set_cons_succ, Nat.reduceAdd, Nat.reduceSub, Nat.reduceLeDiff, Nat.reduceEqDiff, if_true, if_false, beq_self_eq_true, decide_true, eq_self, reduceCtorEq, Bool.not_true, Bool.not_false, Bool.true_and, Bool.and_true, Bool.false_and, Bool.and_false, Bool.or_true, Bool.true_or, Bool.or_false, Bool.false_or, Bool.false_eq_true, Option.map_some, Option.map_none, Option.bind_some, Option.bind_none, e], rfl, ⟨v, rfl, hv⟩, ds', hd', by simp only [runP, runS, seqS, nextS_ap, asgS, parS, ifS, retS, retN, dropS, raiseS, neverS, contS_ap, breakS_ap, frzS, appS, extS, tgN, tgM, tgs, tgT, tgS, vE, cE, op2, op1, aN, aC, tB', andT, orT, notT, andV, orV, notV, ifE, tupE, lstE, caE, chE, callE, callS, isiE_ap, oN, oS, slE, anyI, rngI, zipI, forS, yesT, cgN, cgT, cgs, whileS, rawL, rawOf, rawL_nil, datL, datL_nil, Rv.dat, GD.toBool, toBool_bool, intOf, intOf_int, ofO, ofO_some, ofO_none, Re.ok_bind, Re.ex_bind, Re.no_bind, Re.pure_eq, addD_int, addD_tup, addD_lst, addD_str, subD_int, negD_int, ltD_int, leD_int, gtD_int, geD_int, isD_none, isD_bool, isNotD_none, isNotD_bool, isNoneD_none, isNoneD_bool, isNoneD_int, isNoneD_str, isNoneD_list, isNoneD_tuple, isNoneD_dict, lenD_lst, lenD_tup, absD_int, intD_int, intD_bool, tupleD_lst, tupleD_tup, listD_lst, listD_tup, itemsOf_lst, itemsOf_tup, zipD_lst, zipD_tup, maxD_int, minD_int, slD_tup, slD_lst, pow_10_18, itemsOf_tupI, isi_tuple, isi_int, isi_bool, isi_str, isi_list, isTup_none, isTup_bool, isTup_int, isTup_str, isTup_list, isTup_tuple, isTup_dict, isWB_none, isWB_bool, isWB_int, isWB_str, isWB_list, isWB_tuple, isWB_dict, isB_none, isB_bool, isB_int, isB_str, isB_list, isB_tuple, isB_dict, isStr_none, isStr_bool, isStr_int, isStr_str, isStr_list, isStr_tuple, isStr_dict, isLst_none, isLst_bool, isLst_int, isLst_str, isLst_list, isLst_tuple, isTupI, sumD_lst, lenD_tupI, sumD_tupI, lenD_drD, eqD_int, neD_int, ixD_tup, ixD_lst, at0, at1, at2, at3, List.length_cons, List.length_nil, List.map_cons, List.map_nil, List.cons_append, List.nil_append, List.replicate, List.getElem?_cons_zero, List.getElem?_cons_succ, List.getElem?_nil, List.set_cons_zero, List.set_cons_succ, Nat.reduceAdd, Nat.reduceSub, Nat.reduceLeDiff, Nat.reduceEqDiff, if_true, if_false, beq_self_eq_true, decide_true, eq_self, reduceCtorEq, Bool.not_true, Bool.not_false, Bool.true_and, Bool.and_true, Bool.false_and, Bool.and_false, Bool.or_true, Bool.true_or, Bool.or_false, Bool.false_or, Bool.false_eq_true, Option.map_some, Option.map_none, Option.bind_some, Option.bind_none]⟩)
  obtain ⟨us, rfl, l2, hu⟩ := ys_ints p
  have lu : us.length = n := by simpa using l2.trans l
  by_cases hs : us.sum = 0
  · obtain ⟨v, ds2, e2, hv2, hd2⟩ := take_ev hv (n := n) (by omega) (by omega)
    have hv3 : v < us.length := by omega
    refine ⟨us.set v 1, ds2, ?_, ⟨by simp; omega, by simp; omega, set_all hu (by decide) (by decide), sum_pos (fun x hx => (set_all hu (by decide) (by decide) x hx).1) ⟨1, List.mem_set hv3 1, by decide⟩⟩, by simpa using lu, hd2⟩
    have q : ((us.sum == 0)) = true := by simp [hs]
    unfold m__law_small d__law_small
    simp only [runP, runS, seqS, nextS_ap, asgS, parS, ifS, retS, retN, dropS, raiseS, neverS, contS_ap, breakS_ap, frzS, appS, extS, tgN, tgM, tgs, tgT, tgS, vE, cE, op2, op1, aN, aC, tB', andT, orT, notT, andV, orV, notV, ifE, tupE, lstE, caE, chE, callE, callS, isiE_ap, oN, oS, slE, anyI, rngI, zipI, forS, yesT, cgN, cgT, cgs, whileS, rawL, rawOf, rawL_nil, datL, datL_nil, Rv.dat, GD.toBool, toBool_bool, intOf, intOf_int, ofO, ofO_some, ofO_none, Re.ok_bind, Re.ex_bind, Re.no_bind, Re.pure_eq, addD_int, addD_tup, addD_lst, addD_str, subD_int, negD_int, ltD_int, leD_int, gtD_int, geD_int, isD_none, isD_bool, isNotD_none, isNotD_bool, isNoneD_none, isNoneD_bool, isNoneD_int, isNoneD_str, isNoneD_list, isNoneD_tuple, isNoneD_dict, lenD_lst, lenD_tup, absD_int, intD_int, intD_bool, tupleD_lst, tupleD_tup, listD_lst, listD_tup, itemsOf_lst, itemsOf_tup, zipD_lst, zipD_tup, maxD_int, minD_int, slD_tup, slD_lst, pow_10_18, itemsOf_tupI, isi_tuple, isi_int, isi_bool, isi_str, isi_list, isTup_none, isTup_bool, isTup_int, isTup_str, isTup_list, isTup_tuple, isTup_dict, isWB_none, isWB_bool, isWB_int, isWB_str, isWB_list, isWB_tuple, isWB_dict, isB_none, isB_bool, isB_int, isB_str, isB_list, isB_tuple, isB_dict, isStr_none, isStr_bool, isStr_int, isStr_str, isStr_list, isStr_tuple, isStr_dict, isLst_none, isLst_bool, isLst_int, isLst_str, isLst_list, isLst_tuple, isTupI, sumD_lst, lenD_tupI, sumD_tupI, lenD_drD, eqD_int, neD_int, ixD_tup, ixD_lst, at0, at1, at2, at3, List.length_cons, List.length_nil, List.map_cons, List.map_nil, List.cons_append, List.nil_append, List.replicate, List.getElem?_cons_zero, List.getElem?_cons_succ, List.getElem?_nil, List.set_cons_zero, List.set_cons_succ, Nat.reduceAdd, Nat.reduceSub, Nat.reduceLeDiff, Nat.reduceEqDiff, if_true, if_false, beq_self_eq_true, decide_true, eq_self, reduceCtorEq, Bool.not_true, Bool.not_false, Bool.true_and, Bool.and_true, Bool.false_and, Bool.and_false, Bool.or_true, Bool.true_or, Bool.or_false, Bool.false_or, Bool.false_eq_true, Option.map_some, Option.map_none, Option.bind_some, Option.bind_none, runS, e, q, e2, List.length_map, ixN_nat hv3, ← List.map_set]
    rfl
  · have q : ((us.sum == 0)) = false := by simpa using hs
    refine ⟨us, ds1, ?_, ⟨by omega, by omega, hu, by have := (sum_le hu).1; omega⟩, lu, hv⟩
    unfold m__law_small d__law_small
    simp only [runP, runS, seqS, nextS_ap, asgS, parS, ifS, retS, retN, dropS, raiseS, neverS, contS_ap, breakS_ap, frzS, appS, extS, tgN, tgM, tgs, tgT, tgS, vE, cE, op2, op1, aN, aC, tB', andT, orT, notT, andV, orV, notV, ifE, tupE, lstE, caE, chE, callE, callS, isiE_ap, oN, oS, slE, anyI, rngI, zipI, forS, yesT, cgN, cgT, cgs, whileS, rawL, rawOf, rawL_nil, datL, datL_nil, Rv.dat, GD.toBool, toBool_bool, intOf, intOf_int, ofO, ofO_some, ofO_none, Re.ok_bind, Re.ex_bind, Re.no_bind, Re.pure_eq, addD_int, addD_tup, addD_lst, addD_str, subD_int, negD_int, ltD_int, leD_int, gtD_int, geD_int, isD_none, isD_bool, isNotD_none, isNotD_bool, isNoneD_none, isNoneD_bool, isNoneD_int, isNoneD_str, isNoneD_list, isNoneD_tuple, isNoneD_dict, lenD_lst, lenD_tup, absD_int, intD_int, intD_bool, tupleD_lst, tupleD_tup, listD_lst, listD_tup, itemsOf_lst, itemsOf_tup, zipD_lst, zipD_tup, maxD_int, minD_int, slD_tup, slD_lst, pow_10_18, itemsOf_tupI, isi_tuple, isi_int, isi_bool, isi_str, isi_list, isTup_none, isTup_bool, isTup_int, isTup_str, isTup_list, isTup_tuple, isTup_dict, isWB_none, isWB_bool, isWB_int, isWB_str, isWB_list, isWB_tuple, isWB_dict, isB_none, isB_bool, isB_int, isB_str, isB_list, isB_tuple, isB_dict, isStr_none, isStr_bool, isStr_int, isStr_str, isStr_list, isStr_tuple, isStr_dict, isLst_none, isLst_bool, isLst_int, isLst_str, isLst_list, isLst_tuple, isTupI, sumD_lst, lenD_tupI, sumD_tupI, lenD_drD, eqD_int, neD_int, ixD_tup, ixD_lst, at0, at1, at2, at3, List.length_cons, List.length_nil, List.map_cons, List.map_nil, List.cons_append, List.nil_append, List.replicate, List.getElem?_cons_zero, List.getElem?_cons_succ, List.getElem?_nil, List.set_cons_zero, List.set_cons_succ, Nat.reduceAdd, Nat.reduceSub, Nat.reduceLeDiff, Nat.reduceEqDiff, if_true, if_false, beq_self_eq_true, decide_true, eq_self, reduceCtorEq, Bool.not_true, Bool.not_false, Bool.true_and, Bool.and_true, Bool.false_and, Bool.and_false, Bool.or_true, Bool.true_or, Bool.or_false, Bool.false_or, Bool.false_eq_true, Option.map_some, Option.map_none, Option.bind_some, Option.bind_none, runS, e, q]
    rfl
def longer (n : Nat) (kss : List (List Nat)) : List (List Nat) := kss.flatMap fun ks => (List.range n).map fun k => ks ++ [k]
theorem longer_len (n : Nat) (kss : List (List Nat)) : (longer n kss).length = kss.length * n := by
  unfold longer
  induction kss with
  | nil => simp
  | cons a as ih => rw [List.flatMap_cons, List.length_append, ih, List.length_map, List.length_range, List.length_cons, Nat.add_mul, Nat.one_mul, Nat.add_comm]
theorem longer_loop (n : Nat) (hn : n ≤ 4) (x0 : Sl) : ∀ (kss : List (List Nat)) (acc : List D) (s3 s4 : Sl), (∀ ks ∈ kss, ks.length ≤ 1000) → acc.length + kss.length * n ≤ 1000000 → ∃ s3' s4',
    forD (tgN 3) (extS (vE 2) (lcE (rngI (aC (vE 1) aN)) (cgN 4) yesT (op2 addD (vE 3) (tupE (aC (vE 4) aN))) [4])) (kss.map drD) [x0, .da (.int n), .ml true acc, s3, s4] = .nx [x0, .da (.int n), .ml true (acc ++ (longer n kss).map drD), s3', s4']
  | [], acc, s3, s4, _, _ => ⟨s3, s4, by simp [forD, longer]⟩
  | ks :: kss, acc, s3, s4, hk, hl => by
    have hk0 := hk ks (by simp)
    simp only [List.length_cons, Nat.add_mul, Nat.one_mul] at hl
    have L := lc_map (it := rngI (aC (vE 1) aN)) (j := 4) (te := op2 addD (vE 3) (tupE (aC (vE 4) aN))) (h := fun d => .tuple ((ks.map fun k : Nat => PyData.int k) ++ [d])) (g := [x0, .da (.int n), .ml true acc, .da (drD ks), s4]) (g1 := [x0, .da (.int n), .ml true acc, .da (drD ks), s4])
      (ds := (List.range n).map fun i : Nat => .int i) (by simp only [runP, runS, seqS, nextS_ap, asgS, parS, ifS, retS, retN, dropS, raiseS, neverS, contS_ap, breakS_ap, frzS, appS, extS, tgN, tgM, tgs, tgT, tgS, vE, cE, op2, op1, aN, aC, tB', andT, orT, notT, andV, orV, notV, ifE, tupE, lstE, caE, chE, callE, callS, isiE_ap, oN, oS, slE, anyI, rngI, zipI, forS, yesT, cgN, cgT, cgs, whileS, rawL, rawOf, rawL_nil, datL, datL_nil, Rv.dat, GD.toBool, toBool_bool, intOf, intOf_int, ofO, ofO_some, ofO_none, Re.ok_bind, Re.ex_bind, Re.no_bind, Re.pure_eq, addD_int, addD_tup, addD_lst, addD_str, subD_int, negD_int, ltD_int, leD_int, gtD_int, geD_int, isD_none, isD_bool, isNotD_none, isNotD_bool, isNoneD_none, isNoneD_bool, isNoneD_int, isNoneD_str, isNoneD_list, isNoneD_tuple, isNoneD_dict, lenD_lst, lenD_tup, absD_int, intD_int, intD_bool, tupleD_lst, tupleD_tup, listD_lst, listD_tup, itemsOf_lst, itemsOf_tup, zipD_lst, zipD_tup, maxD_int, minD_int, slD_tup, slD_lst, pow_10_18, itemsOf_tupI, isi_tuple, isi_int, isi_bool, isi_str, isi_list, isTup_none, isTup_bool, isTup_int, isTup_str, isTup_list, isTup_tuple, isTup_dict, isWB_none, isWB_bool, isWB_int, isWB_str, isWB_list, isWB_tuple, isWB_dict, isB_none, isB_bool, isB_int, isB_str, isB_list, isB_tuple, isB_dict, isStr_none, isStr_bool, isStr_int, isStr_str, isStr_list, isStr_tuple, isStr_dict, isLst_none, isLst_bool, isLst_int, isLst_str, isLst_list, isLst_tuple, isTupI, sumD_lst, lenD_tupI, sumD_tupI, lenD_drD, eqD_int, neD_int, ixD_tup, ixD_lst, at0, at1, at2, at3, List.length_cons, List.length_nil, List.map_cons, List.map_nil, List.cons_append, List.nil_append, List.replicate, List.getElem?_cons_zero, List.getElem?_cons_succ, List.getElem?_nil, List.set_cons_zero, List.set_cons_succ, Nat.reduceAdd, Nat.reduceSub, Nat.reduceLeDiff, Nat.reduceEqDiff, if_true, if_false, beq_self_eq_true, decide_true, eq_self, reduceCtorEq, Bool.not_true, Bool.not_false, Bool.true_and, Bool.and_true, Bool.false_and, Bool.and_false, Bool.or_true, Bool.true_or, Bool.or_false, Bool.false_or, Bool.false_eq_true, Option.map_some, Option.map_none, Option.bind_some, Option.bind_none, rng_nat (show n ≤ 1000000 by omega)]) (by simp; omega) (by
        intro d _
        refine ⟨.da (.tuple ((ks.map fun k : Nat => PyData.int k) ++ [d])), ?_, rfl⟩
        simp only [runP, runS, seqS, nextS_ap, asgS, parS, ifS, retS, retN, dropS, raiseS, neverS, contS_ap, breakS_ap, frzS, appS, extS, tgN, tgM, tgs, tgT, tgS, vE, cE, op2, op1, aN, aC, tB', andT, orT, notT, andV, orV, notV, ifE, tupE, lstE, caE, chE, callE, callS, isiE_ap, oN, oS, slE, anyI, rngI, zipI, forS, yesT, cgN, cgT, cgs, whileS, rawL, rawOf, rawL_nil, datL, datL_nil, Rv.dat, GD.toBool, toBool_bool, intOf, intOf_int, ofO, ofO_some, ofO_none, Re.ok_bind, Re.ex_bind, Re.no_bind, Re.pure_eq, addD_int, addD_tup, addD_lst, addD_str, subD_int, negD_int, ltD_int, leD_int, gtD_int, geD_int, isD_none, isD_bool, isNotD_none, isNotD_bool, isNoneD_none, isNoneD_bool, isNoneD_int, isNoneD_str, isNoneD_list, isNoneD_tuple, isNoneD_dict, lenD_lst, lenD_tup, absD_int, intD_int, intD_bool, tupleD_lst, tupleD_tup, listD_lst, listD_tup, itemsOf_lst, itemsOf_tup, zipD_lst, zipD_tup, maxD_int, minD_int, slD_tup, slD_lst, pow_10_18, itemsOf_tupI, isi_tuple, isi_int, isi_bool, isi_str, isi_list, isTup_none, isTup_bool, isTup_int, isTup_str, isTup_list, isTup_tuple, isTup_dict, isWB_none, isWB_bool, isWB_int, isWB_str, isWB_list, isWB_tuple, isWB_dict, isB_none, isB_bool, isB_int, isB_str, isB_list, isB_tuple, isB_dict, isStr_none, isStr_bool, isStr_int, isStr_str, isStr_list, isStr_tuple, isStr_dict, isLst_none, isLst_bool, isLst_int, isLst_str, isLst_list, isLst_tuple, isTupI, sumD_lst, lenD_tupI, sumD_tupI, lenD_drD, eqD_int, neD_int, ixD_tup, ixD_lst, at0, at1, at2, at3, List.length_cons, List.length_nil, List.map_cons, List.map_nil, List.cons_append, List.nil_append, List.replicate, List.getElem?_cons_zero, List.getElem?_cons_succ, List.getElem?_nil, List.set_cons_zero, List.set_cons_succ, Nat.reduceAdd, Nat.reduceSub, Nat.reduceLeDiff, Nat.reduceEqDiff, if_true, if_false, beq_self_eq_true, decide_true, eq_self, reduceCtorEq, Bool.not_true, Bool.not_false, Bool.true_and, Bool.and_true, Bool.false_and, Bool.and_false, Bool.or_true, Bool.true_or, Bool.or_false, Bool.false_or, Bool.false_eq_true, Option.map_some, Option.map_none, Option.bind_some, Option.bind_none, drD, if_pos (show (1 : Nat) ≤ 1000000 by decide), List.length_map, if_pos (show ks.length ≤ 999999 by omega)])
    have e : ((List.range n).map fun i : Nat => PyData.int i).map (fun d => PyData.tuple ((ks.map fun k : Nat => PyData.int k) ++ [d])) = ((List.range n).map fun k => ks ++ [k]).map drD := by
      rw [List.map_map, List.map_map]
      refine List.map_congr_left fun i _ => ?_
      simp [drD]
    rw [e] at L
    obtain ⟨s3', s4', ih⟩ := longer_loop n hn x0 kss (acc ++ ((List.range n).map fun k => ks ++ [k]).map drD) (.da (drD ks)) .un (fun ks hm => hk ks (by simp [hm])) (by simp; omega)
    refine ⟨s3', s4', ?_⟩
    rw [List.map_cons]
    unfold forD
    have hl2 : acc.length + (((List.range n).map fun k => ks ++ [k]).map drD).length ≤ 1000000 := by simp; omega
    simp only [runP, runS, seqS, nextS_ap, asgS, parS, ifS, retS, retN, dropS, raiseS, neverS, contS_ap, breakS_ap, frzS, appS, extS, tgN, tgM, tgs, tgT, tgS, vE, cE, op2, op1, aN, aC, tB', andT, orT, notT, andV, orV, notV, ifE, tupE, lstE, caE, chE, callE, callS, isiE_ap, oN, oS, slE, anyI, rngI, zipI, forS, yesT, cgN, cgT, cgs, whileS, rawL, rawOf, rawL_nil, datL, datL_nil, Rv.dat, GD.toBool, toBool_bool, intOf, intOf_int, ofO, ofO_some, ofO_none, Re.ok_bind, Re.ex_bind, Re.no_bind, Re.pure_eq, addD_int, addD_tup, addD_lst, addD_str, subD_int, negD_int, ltD_int, leD_int, gtD_int, geD_int, isD_none, isD_bool, isNotD_none, isNotD_bool, isNoneD_none, isNoneD_bool, isNoneD_int, isNoneD_str, isNoneD_list, isNoneD_tuple, isNoneD_dict, lenD_lst, lenD_tup, absD_int, intD_int, intD_bool, tupleD_lst, tupleD_tup, listD_lst, listD_tup, itemsOf_lst, itemsOf_tup, zipD_lst, zipD_tup, maxD_int, minD_int, slD_tup, slD_lst, pow_10_18, itemsOf_tupI, isi_tuple, isi_int, isi_bool, isi_str, isi_list, isTup_none, isTup_bool, isTup_int, isTup_str, isTup_list, isTup_tuple, isTup_dict, isWB_none, isWB_bool, isWB_int, isWB_str, isWB_list, isWB_tuple, isWB_dict, isB_none, isB_bool, isB_int, isB_str, isB_list, isB_tuple, isB_dict, isStr_none, isStr_bool, isStr_int, isStr_str, isStr_list, isStr_tuple, isStr_dict, isLst_none, isLst_bool, isLst_int, isLst_str, isLst_list, isLst_tuple, isTupI, sumD_lst, lenD_tupI, sumD_tupI, lenD_drD, eqD_int, neD_int, ixD_tup, ixD_lst, at0, at1, at2, at3, List.length_cons, List.length_nil, List.map_cons, List.map_nil, List.cons_append, List.nil_append, List.replicate, List.getElem?_cons_zero, List.getElem?_cons_succ, List.getElem?_nil, List.set_cons_zero, List.set_cons_succ, Nat.reduceAdd, Nat.reduceSub, Nat.reduceLeDiff, Nat.reduceEqDiff, if_true, if_false, beq_self_eq_true, decide_true, eq_self, reduceCtorEq, Bool.not_true, Bool.not_false, Bool.true_and, Bool.and_true, Bool.false_and, Bool.and_false, Bool.or_true, Bool.true_or, Bool.or_false, Bool.false_or, Bool.false_eq_true, Option.map_some, Option.map_none, Option.bind_some, Option.bind_none, L, if_pos hl2]
    rw [ih]
    simp [longer]
theorem longer_ev (n : Nat) (hn : n ≤ 4) (kss : List (List Nat)) (hk : ∀ ks ∈ kss, ks.length ≤ 1000) (hl : kss.length * n ≤ 1000000) : m__law_longer [.list (kss.map drD), .int n] = .ok (.fl ((longer n kss).map drD)) := by
  obtain ⟨s3', s4', h⟩ := longer_loop n hn (.da (.list (kss.map drD))) kss [] .un .un hk (by simpa using hl)
  unfold m__law_longer d__law_longer
  simp only [runP, runS, seqS, nextS_ap, asgS, parS, ifS, retS, retN, dropS, raiseS, neverS, contS_ap, breakS_ap, frzS, appS, extS, tgN, tgM, tgs, tgT, tgS, vE, cE, op2, op1, aN, aC, tB', andT, orT, notT, andV, orV, notV, ifE, tupE, lstE, caE, chE, callE, callS, isiE_ap, oN, oS, slE, anyI, rngI, zipI, forS, yesT, cgN, cgT, cgs, whileS, rawL, rawOf, rawL_nil, datL, datL_nil, Rv.dat, GD.toBool, toBool_bool, intOf, intOf_int, ofO, ofO_some, ofO_none, Re.ok_bind, Re.ex_bind, Re.no_bind, Re.pure_eq, addD_int, addD_tup, addD_lst, addD_str, subD_int, negD_int, ltD_int, leD_int, gtD_int, geD_int, isD_none, isD_bool, isNotD_none, isNotD_bool, isNoneD_none, isNoneD_bool, isNoneD_int, isNoneD_str, isNoneD_list, isNoneD_tuple, isNoneD_dict, lenD_lst, lenD_tup, absD_int, intD_int, intD_bool, tupleD_lst, tupleD_tup, listD_lst, listD_tup, itemsOf_lst, itemsOf_tup, zipD_lst, zipD_tup, maxD_int, minD_int, slD_tup, slD_lst, pow_10_18, itemsOf_tupI, isi_tuple, isi_int, isi_bool, isi_str, isi_list, isTup_none, isTup_bool, isTup_int, isTup_str, isTup_list, isTup_tuple, isTup_dict, isWB_none, isWB_bool, isWB_int, isWB_str, isWB_list, isWB_tuple, isWB_dict, isB_none, isB_bool, isB_int, isB_str, isB_list, isB_tuple, isB_dict, isStr_none, isStr_bool, isStr_int, isStr_str, isStr_list, isStr_tuple, isStr_dict, isLst_none, isLst_bool, isLst_int, isLst_str, isLst_list, isLst_tuple, isTupI, sumD_lst, lenD_tupI, sumD_tupI, lenD_drD, eqD_int, neD_int, ixD_tup, ixD_lst, at0, at1, at2, at3, List.length_cons, List.length_nil, List.map_cons, List.map_nil, List.cons_append, List.nil_append, List.replicate, List.getElem?_cons_zero, List.getElem?_cons_succ, List.getElem?_nil, List.set_cons_zero, List.set_cons_succ, Nat.reduceAdd, Nat.reduceSub, Nat.reduceLeDiff, Nat.reduceEqDiff, if_true, if_false, beq_self_eq_true, decide_true, eq_self, reduceCtorEq, Bool.not_true, Bool.not_false, Bool.true_and, Bool.and_true, Bool.false_and, Bool.and_false, Bool.or_true, Bool.true_or, Bool.or_false, Bool.false_or, Bool.false_eq_true, Option.map_some, Option.map_none, Option.bind_some, Option.bind_none, if_pos (show (0 : Nat) ≤ 1000000 by decide), h]
theorem shares_loop {u : List Int} (hu : Urn 20 u) {x0 x1 x2 x3 x5 x8 x9 x10 x11 x12 x13 x14 x15 x16 : Sl} : ∀ (ks : List Nat) (j : Nat) (q : Rat) (s7 : Sl), (∀ k ∈ ks, k < u.length) → j + ks.length ≤ 100 → Sm' (10 * j + 1) q → ∃ s7',
    forD (tgN 7) (asgS (callE m__law_plus (aC (vE 6) (aC (callE m_chance (aC (vE 4) (aC (vE 7) aN))) aN))) (tgN 6)) (ks.map fun k : Nat => .int k) [x0, x1, x2, x3, .da (tupI u), x5, .da (frD q), s7, x8, x9, x10, x11, x12, x13, x14, x15, x16] = .nx [x0, x1, x2, x3, .da (tupI u), x5, .da (frD (q + sumQ (ks.map (sh u)))), s7', x8, x9, x10, x11, x12, x13, x14, x15, x16]
  | [], j, q, s7, _, _, _ => ⟨s7, by simp [forD, Rat.add_zero]⟩
  | k :: ks, j, q, s7, hk, hl, hq => by
    simp only [List.length_cons] at hl
    have s := sh_sm hu (by omega) k
    obtain ⟨s7', ih⟩ := shares_loop (x0 := x0) (x1 := x1) (x2 := x2) (x3 := x3) (x5 := x5) (x8 := x8) (x9 := x9) (x10 := x10) (x11 := x11) (x12 := x12) (x13 := x13) (x14 := x14) (x15 := x15) (x16 := x16) hu ks (j + 1) (q + sh u k) (.da (.int k)) (fun j hj => hk j (by simp [hj])) (by omega) ((hq.add s).mono (by omega))
    refine ⟨s7', ?_⟩
    rw [List.map_cons]
    unfold forD
    simp only [runP, runS, seqS, nextS_ap, asgS, parS, ifS, retS, retN, dropS, raiseS, neverS, contS_ap, breakS_ap, frzS, appS, extS, tgN, tgM, tgs, tgT, tgS, vE, cE, op2, op1, aN, aC, tB', andT, orT, notT, andV, orV, notV, ifE, tupE, lstE, caE, chE, callE, callS, isiE_ap, oN, oS, slE, anyI, rngI, zipI, forS, yesT, cgN, cgT, cgs, whileS, rawL, rawOf, rawL_nil, datL, datL_nil, Rv.dat, GD.toBool, toBool_bool, intOf, intOf_int, ofO, ofO_some, ofO_none, Re.ok_bind, Re.ex_bind, Re.no_bind, Re.pure_eq, addD_int, addD_tup, addD_lst, addD_str, subD_int, negD_int, ltD_int, leD_int, gtD_int, geD_int, isD_none, isD_bool, isNotD_none, isNotD_bool, isNoneD_none, isNoneD_bool, isNoneD_int, isNoneD_str, isNoneD_list, isNoneD_tuple, isNoneD_dict, lenD_lst, lenD_tup, absD_int, intD_int, intD_bool, tupleD_lst, tupleD_tup, listD_lst, listD_tup, itemsOf_lst, itemsOf_tup, zipD_lst, zipD_tup, maxD_int, minD_int, slD_tup, slD_lst, pow_10_18, itemsOf_tupI, isi_tuple, isi_int, isi_bool, isi_str, isi_list, isTup_none, isTup_bool, isTup_int, isTup_str, isTup_list, isTup_tuple, isTup_dict, isWB_none, isWB_bool, isWB_int, isWB_str, isWB_list, isWB_tuple, isWB_dict, isB_none, isB_bool, isB_int, isB_str, isB_list, isB_tuple, isB_dict, isStr_none, isStr_bool, isStr_int, isStr_str, isStr_list, isStr_tuple, isStr_dict, isLst_none, isLst_bool, isLst_int, isLst_str, isLst_list, isLst_tuple, isTupI, sumD_lst, lenD_tupI, sumD_tupI, lenD_drD, eqD_int, neD_int, ixD_tup, ixD_lst, at0, at1, at2, at3, List.length_cons, List.length_nil, List.map_cons, List.map_nil, List.cons_append, List.nil_append, List.replicate, List.getElem?_cons_zero, List.getElem?_cons_succ, List.getElem?_nil, List.set_cons_zero, List.set_cons_succ, Nat.reduceAdd, Nat.reduceSub, Nat.reduceLeDiff, Nat.reduceEqDiff, if_true, if_false, beq_self_eq_true, decide_true, eq_self, reduceCtorEq, Bool.not_true, Bool.not_false, Bool.true_and, Bool.and_true, Bool.false_and, Bool.and_false, Bool.or_true, Bool.true_or, Bool.or_false, Bool.false_or, Bool.false_eq_true, Option.map_some, Option.map_none, Option.bind_some, Option.bind_none, chance_ev hu (by omega) (hk k (by simp)), lplus_ev hq s (by omega) (by omega) (by omega)]
    rw [ih, sumQ_cons, Rat.add_assoc]
theorem every_loop {u : List Int} {r : List (List Int)} {n : Nat} (hu : Urn 7 u) (hr : Rule n 2 r) (hn : u.length = n) {x0 x1 x2 x3 x7 x8 x9 x10 x11 x12 x14 x15 x16 : Sl} : ∀ (kss : List (List Nat)) (j : Nat) (q : Rat) (s13 : Sl), (∀ ks ∈ kss, ks.length = 3 ∧ ∀ k ∈ ks, k < n) → j + kss.length ≤ 100 → Sm' (30 * j + 1) q → ∃ s13',
    forD (tgN 13) (asgS (callE m__law_plus (aC (vE 6) (aC (callE m_chance_of (aC (vE 4) (aC (vE 5) (aC (vE 13) aN)))) aN))) (tgN 6)) (kss.map drD) [x0, x1, x2, x3, .da (tupI u), .da (ruleD r), .da (frD q), x7, x8, x9, x10, x11, x12, s13, x14, x15, x16] = .nx [x0, x1, x2, x3, .da (tupI u), .da (ruleD r), .da (frD (q + sumQ (kss.map (cq u r)))), x7, x8, x9, x10, x11, x12, s13', x14, x15, x16]
  | [], j, q, s13, _, _, _ => ⟨s13, by simp [forD, Rat.add_zero]⟩
  | ks :: kss, j, q, s13, hk, hl, hq => by
    simp only [List.length_cons] at hl
    obtain ⟨k3, kn⟩ := hk ks (by simp)
    have s := cq_sm hr (by decide) ks u 7 hu hn kn (by omega)
    rw [k3] at s
    obtain ⟨s13', ih⟩ := every_loop (x0 := x0) (x1 := x1) (x2 := x2) (x3 := x3) (x7 := x7) (x8 := x8) (x9 := x9) (x10 := x10) (x11 := x11) (x12 := x12) (x14 := x14) (x15 := x15) (x16 := x16) hu hr hn kss (j + 1) (q + cq u r ks) (.da (drD ks)) (fun j hj => hk j (by simp [hj])) (by omega) ((hq.add s).mono (by omega))
    refine ⟨s13', ?_⟩
    rw [List.map_cons]
    unfold forD
    simp only [runP, runS, seqS, nextS_ap, asgS, parS, ifS, retS, retN, dropS, raiseS, neverS, contS_ap, breakS_ap, frzS, appS, extS, tgN, tgM, tgs, tgT, tgS, vE, cE, op2, op1, aN, aC, tB', andT, orT, notT, andV, orV, notV, ifE, tupE, lstE, caE, chE, callE, callS, isiE_ap, oN, oS, slE, anyI, rngI, zipI, forS, yesT, cgN, cgT, cgs, whileS, rawL, rawOf, rawL_nil, datL, datL_nil, Rv.dat, GD.toBool, toBool_bool, intOf, intOf_int, ofO, ofO_some, ofO_none, Re.ok_bind, Re.ex_bind, Re.no_bind, Re.pure_eq, addD_int, addD_tup, addD_lst, addD_str, subD_int, negD_int, ltD_int, leD_int, gtD_int, geD_int, isD_none, isD_bool, isNotD_none, isNotD_bool, isNoneD_none, isNoneD_bool, isNoneD_int, isNoneD_str, isNoneD_list, isNoneD_tuple, isNoneD_dict, lenD_lst, lenD_tup, absD_int, intD_int, intD_bool, tupleD_lst, tupleD_tup, listD_lst, listD_tup, itemsOf_lst, itemsOf_tup, zipD_lst, zipD_tup, maxD_int, minD_int, slD_tup, slD_lst, pow_10_18, itemsOf_tupI, isi_tuple, isi_int, isi_bool, isi_str, isi_list, isTup_none, isTup_bool, isTup_int, isTup_str, isTup_list, isTup_tuple, isTup_dict, isWB_none, isWB_bool, isWB_int, isWB_str, isWB_list, isWB_tuple, isWB_dict, isB_none, isB_bool, isB_int, isB_str, isB_list, isB_tuple, isB_dict, isStr_none, isStr_bool, isStr_int, isStr_str, isStr_list, isStr_tuple, isStr_dict, isLst_none, isLst_bool, isLst_int, isLst_str, isLst_list, isLst_tuple, isTupI, sumD_lst, lenD_tupI, sumD_tupI, lenD_drD, eqD_int, neD_int, ixD_tup, ixD_lst, at0, at1, at2, at3, List.length_cons, List.length_nil, List.map_cons, List.map_nil, List.cons_append, List.nil_append, List.replicate, List.getElem?_cons_zero, List.getElem?_cons_succ, List.getElem?_nil, List.set_cons_zero, List.set_cons_succ, Nat.reduceAdd, Nat.reduceSub, Nat.reduceLeDiff, Nat.reduceEqDiff, if_true, if_false, beq_self_eq_true, decide_true, eq_self, reduceCtorEq, Bool.not_true, Bool.not_false, Bool.true_and, Bool.and_true, Bool.false_and, Bool.and_false, Bool.or_true, Bool.true_or, Bool.or_false, Bool.false_or, Bool.false_eq_true, Option.map_some, Option.map_none, Option.bind_some, Option.bind_none, chance_of_ev hu (by omega) hr (by omega) (by omega) hn kn (by omega), lplus_ev hq s (by omega) (by omega) (by omega)]
    rw [ih, sumQ_cons, Rat.add_assoc]

theorem longer_all {n m : Nat} {kss : List (List Nat)} (h : ∀ ks ∈ kss, ks.length = m ∧ ∀ k ∈ ks, k < n) : ∀ ks ∈ longer n kss, ks.length = m + 1 ∧ ∀ k ∈ ks, k < n := by
  intro ks hk
  obtain ⟨js, hj, h2⟩ := List.mem_flatMap.mp hk
  obtain ⟨i, hi, rfl⟩ := List.mem_map.mp h2
  obtain ⟨a, b⟩ := h js hj
  refine ⟨by simp [a], fun k hk => ?_⟩
  rcases List.mem_append.mp hk with h | h
  · exact b k h
  · have := List.mem_range.mp hi
    simp at h
    omega
theorem longer_sum {r : List (List Int)} {n m : Nat} {b c : Int} {u : List Int} (hr : Rule n c r) (hu : Urn b u) (hl : u.length = n) {kss : List (List Nat)} (h : ∀ ks ∈ kss, ks.length = m ∧ ∀ k ∈ ks, k < n) : sumQ ((longer n kss).map (cq u r)) = sumQ (kss.map (cq u r)) := by
  unfold longer
  rw [sumQ_flatMap]
  refine sumQ_congr fun ks hk => ?_
  rw [List.map_map]
  exact one_more hr hu hl (h ks hk).2

end LawHere

namespace LawHere
open PySem GD
theorem rule_lc {ds : List D} {n : Nat} (h : Val ds) (h1 : 1 ≤ n) (h4 : n ≤ 4) (x0 x1 x4 x5 x6 x7 x8 x9 x10 x11 x12 x13 x14 x15 x16 : Sl) : ∃ r ds' y16,
    (lcE (rngI (aC (vE 3) aN)) (cgN 15) yesT (caE tupleD (aC (lcE (rngI (aC (vE 3) aN)) (cgN 16) yesT (callS m__law_take (aC (vE 2) (aC (cE (.int 3)) aN))) [16]) aN)) [15]) [x0, x1, .ml true ds, .da (.int n), x4, x5, x6, x7, x8, x9, x10, x11, x12, x13, x14, x15, x16] = .ok (.fl (r.map tupI), [x0, x1, .ml true ds', .da (.int n), x4, x5, x6, x7, x8, x9, x10, x11, x12, x13, x14, .un, y16]) ∧ Rule n 2 r ∧ Val ds' := by
  obtain ⟨ys, g', e, l, p, ds1, y15, y16, hv, rfl, hy⟩ := lc_inv (it := (rngI (aC (vE 3) aN))) (j := 15) (te := (caE tupleD (aC (lcE (rngI (aC (vE 3) aN)) (cgN 16) yesT (callS m__law_take (aC (vE 2) (aC (cE (.int 3)) aN))) [16]) aN))) (g := [x0, x1, .ml true ds, .da (.int n), x4, x5, x6, x7, x8, x9, x10, x11, x12, x13, x14, x15, x16]) (g1 := [x0, x1, .ml true ds, .da (.int n), x4, x5, x6, x7, x8, x9, x10, x11, x12, x13, x14, x15, x16])
    (ds := (List.range n).map fun i : Nat => .int i) (fun g => ∃ ds y15 y16, Val ds ∧ g = [x0, x1, .ml true ds, .da (.int n), x4, x5, x6, x7, x8, x9, x10, x11, x12, x13, x14, .un, y16] ∧ True) (fun d => ∃ u : List Int, d = tupI u ∧ u.length = n ∧ ∀ x ∈ u, 0 ≤ x ∧ x ≤ 2)
    (by simp only [runP, runS, seqS, nextS_ap, asgS, parS, ifS, retS, retN, dropS, raiseS, neverS, contS_ap, breakS_ap, frzS, appS, extS, tgN, tgM, tgs, tgT, tgS, vE, cE, op2, op1, aN, aC, tB', andT, orT, notT, andV, orV, notV, ifE, tupE, lstE, caE, chE, callE, callS, isiE_ap, oN, oS, slE, anyI, rngI, zipI, forS, yesT, cgN, cgT, cgs, whileS, rawL, rawOf, rawL_nil, datL, datL_nil, Rv.dat, GD.toBool, toBool_bool, intOf, intOf_int, ofO, ofO_some, ofO_none, Re.ok_bind, Re.ex_bind, Re.no_bind, Re.pure_eq, addD_int, addD_tup, addD_lst, addD_str, subD_int, negD_int, ltD_int, leD_int, gtD_int, geD_int, isD_none, isD_bool, isNotD_none, isNotD_bool, isNoneD_none, isNoneD_bool, isNoneD_int, isNoneD_str, isNoneD_list, isNoneD_tuple, isNoneD_dict, lenD_lst, lenD_tup, absD_int, intD_int, intD_bool, tupleD_lst, tupleD_tup, listD_lst, listD_tup, itemsOf_lst, itemsOf_tup, zipD_lst, zipD_tup, maxD_int, minD_int, slD_tup, slD_lst, pow_10_18, itemsOf_tupI, isi_tuple, isi_int, isi_bool, isi_str, isi_list, isTup_none, isTup_bool, isTup_int, isTup_str, isTup_list, isTup_tuple, isTup_dict, isWB_none, isWB_bool, isWB_int, isWB_str, isWB_list, isWB_tuple, isWB_dict, isB_none, isB_bool, isB_int, isB_str, isB_list, isB_tuple, isB_dict, isStr_none, isStr_bool, isStr_int, isStr_str, isStr_list, isStr_tuple, isStr_dict, isLst_none, isLst_bool, isLst_int, isLst_str, isLst_list, isLst_tuple, isTupI, sumD_lst, lenD_tupI, sumD_tupI, lenD_drD, eqD_int, neD_int, ixD_tup, ixD_lst, at0, at1, at2, at3, List.length_cons, List.length_nil, List.map_cons, List.map_nil, List.cons_append, List.nil_append, List.replicate, List.getElem?_cons_zero, List.getElem?_cons_succ, List.getElem?_nil, List.set_cons_zero, List.set_cons_succ, Nat.reduceAdd, Nat.reduceSub, Nat.reduceLeDiff, Nat.reduceEqDiff, if_true, if_false, beq_self_eq_true, decide_true, eq_self, reduceCtorEq, Bool.not_true, Bool.not_false, Bool.true_and, Bool.and_true, Bool.false_and, Bool.and_false, Bool.or_true, Bool.true_or, Bool.or_false, Bool.false_or, Bool.false_eq_true, Option.map_some, Option.map_none, Option.bind_some, Option.bind_none, rng_nat (show n ≤ 1000000 by omega)]) (by simp; omega) ⟨ds, x15, x16, h, by simp only [runP, runS, seqS, nextS_ap, asgS, parS, ifS, retS, retN, dropS, raiseS, neverS, contS_ap, breakS_ap, frzS, appS, extS, tgN, tgM, tgs, tgT, tgS, vE, cE, op2, op1, aN, aC, tB', andT, orT, notT, andV, orV, notV, ifE, tupE, lstE, caE, chE, callE, callS, isiE_ap, oN, oS, slE, anyI, rngI, zipI, forS, yesT, cgN, cgT, cgs, whileS, rawL, rawOf, rawL_nil, datL, datL_nil, Rv.dat, GD.toBool, toBool_bool, intOf, intOf_int, ofO, ofO_some, ofO_none, Re.ok_bind, Re.ex_bind, Re.no_bind, Re.pure_eq, addD_int, addD_tup, addD_lst, addD_str, subD_int, negD_int, ltD_int, leD_int, gtD_int, geD_int, isD_none, isD_bool, isNotD_none, isNotD_bool, isNoneD_none, isNoneD_bool, isNoneD_int, isNoneD_str, isNoneD_list, isNoneD_tuple, isNoneD_dict, lenD_lst, lenD_tup, absD_int, intD_int, intD_bool, tupleD_lst, tupleD_tup, listD_lst, listD_tup, itemsOf_lst, itemsOf_tup, zipD_lst, zipD_tup, maxD_int, minD_int, slD_tup, slD_lst, pow_10_18, itemsOf_tupI, isi_tuple, isi_int, isi_bool, isi_str, isi_list, isTup_none, isTup_bool, isTup_int, isTup_str, isTup_list, isTup_tuple, isTup_dict, isWB_none, isWB_bool, isWB_int, isWB_str, isWB_list, isWB_tuple, isWB_dict, isB_none, isB_bool, isB_int, isB_str, isB_list, isB_tuple, isB_dict, isStr_none, isStr_bool, isStr_int, isStr_str, isStr_list, isStr_tuple, isStr_dict, isLst_none, isLst_bool, isLst_int, isLst_str, isLst_list, isLst_tuple, isTupI, sumD_lst, lenD_tupI, sumD_tupI, lenD_drD, eqD_int, neD_int, ixD_tup, ixD_lst, at0, at1, at2, at3, List.length_cons, List.length_nil, List.map_cons, List.map_nil, List.cons_append, List.nil_append, List.replicate, List.getElem?_cons_zero, List.getElem?_cons_succ, List.getElem?_nil, List.set_cons_zero, List.set_cons_succ, Nat.reduceAdd, Nat.reduceSub, Nat.reduceLeDiff, Nat.reduceEqDiff, if_true, if_false, beq_self_eq_true, decide_true, eq_self, reduceCtorEq, Bool.not_true, Bool.not_false, Bool.true_and, Bool.and_true, Bool.false_and, Bool.and_false, Bool.or_true, Bool.true_or, Bool.or_false, Bool.false_or, Bool.false_eq_true, Option.map_some, Option.map_none, Option.bind_some, Option.bind_none], trivial⟩ (by
      rintro d _ g ⟨ds, y15, y16, hd, rfl, _⟩
      obtain ⟨ys, g', e, l, p, ds1, hv, rfl⟩ := lc_inv (it := (rngI (aC (vE 3) aN))) (j := 16) (te := (callS m__law_take (aC (vE 2) (aC (cE (.int 3)) aN)))) (g := [x0, x1, .ml true ds, .da (.int n), x4, x5, x6, x7, x8, x9, x10, x11, x12, x13, x14, .da d, y16]) (g1 := [x0, x1, .ml true ds, .da (.int n), x4, x5, x6, x7, x8, x9, x10, x11, x12, x13, x14, .da d, y16])
        (ds := (List.range n).map fun i : Nat => .int i) (fun g => ∃ ds, Val ds ∧ g = [x0, x1, .ml true ds, .da (.int n), x4, x5, x6, x7, x8, x9, x10, x11, x12, x13, x14, .da d, .un]) (fun d => ∃ x : Nat, d = .int x ∧ (x : Int) < 3)
        (by simp only [runP, runS, seqS, nextS_ap, asgS, parS, ifS, retS, retN, dropS, raiseS, neverS, contS_ap, breakS_ap, frzS, appS, extS, tgN, tgM, tgs, tgT, tgS, vE, cE, op2, op1, aN, aC, tB', andT, orT, notT, andV, orV, notV, ifE, tupE, lstE, caE, chE, callE, callS, isiE_ap, oN, oS, slE, anyI, rngI, zipI, forS, yesT, cgN, cgT, cgs, whileS, rawL, rawOf, rawL_nil, datL, datL_nil, Rv.dat, GD.toBool, toBool_bool, intOf, intOf_int, ofO, ofO_some, ofO_none, Re.ok_bind, Re.ex_bind, Re.no_bind, Re.pure_eq, addD_int, addD_tup, addD_lst, addD_str, subD_int, negD_int, ltD_int, leD_int, gtD_int, geD_int, isD_none, isD_bool, isNotD_none, isNotD_bool, isNoneD_none, isNoneD_bool, isNoneD_int, isNoneD_str, isNoneD_list, isNoneD_tuple, isNoneD_dict, lenD_lst, lenD_tup, absD_int, intD_int, intD_bool, tupleD_lst, tupleD_tup, listD_lst, listD_tup, itemsOf_lst, itemsOf_tup, zipD_lst, zipD_tup, maxD_int, minD_int, slD_tup, slD_lst, pow_10_18, itemsOf_tupI, isi_tuple, isi_int, isi_bool, isi_str, isi_list, isTup_none, isTup_bool, isTup_int, isTup_str, isTup_list, isTup_tuple, isTup_dict, isWB_none, isWB_bool, isWB_int, isWB_str, isWB_list, isWB_tuple, isWB_dict, isB_none, isB_bool, isB_int, isB_str, isB_list, isB_tuple, isB_dict, isStr_none, isStr_bool, isStr_int, isStr_str, isStr_list, isStr_tuple, isStr_dict, isLst_none, isLst_bool, isLst_int, isLst_str, isLst_list, isLst_tuple, isTupI, sumD_lst, lenD_tupI, sumD_tupI, lenD_drD, eqD_int, neD_int, ixD_tup, ixD_lst, at0, at1, at2, at3, List.length_cons, List.length_nil, List.map_cons, List.map_nil, List.cons_append, List.nil_append, List.replicate, List.getElem?_cons_zero, List.getElem?_cons_succ, List.getElem?_nil, List.set_cons_zero, List.set_cons_succ, Nat.reduceAdd, Nat.reduceSub, Nat.reduceLeDiff, Nat.reduceEqDiff, if_true, if_false, beq_self_eq_true, decide_true, eq_self, reduceCtorEq, Bool.not_true, Bool.not_false, Bool.true_and, Bool.and_true, Bool.false_and, Bool.and_false, Bool.or_true, Bool.true_or, Bool.or_false, Bool.false_or, Bool.false_eq_true, Option.map_some, Option.map_none, Option.bind_some, Option.bind_none, rng_nat (show n ≤ 1000000 by omega)]) (by simp; omega) ⟨ds, hd, by simp only [runP, runS, seqS, nextS_ap, asgS, parS, ifS, retS, retN, dropS, raiseS, neverS, contS_ap, breakS_ap, frzS, appS, extS, tgN, tgM, tgs, tgT, tgS, vE, cE, op2, op1, aN, aC, tB', andT, orT, notT, andV, orV, notV, ifE, tupE, lstE, caE, chE, callE, callS, isiE_ap, oN, oS, slE, anyI, rngI, zipI, forS, yesT, cgN, cgT, cgs, whileS, rawL, rawOf, rawL_nil, datL, datL_nil, Rv.dat, GD.toBool, toBool_bool, intOf, intOf_int, ofO, ofO_some, ofO_none, Re.ok_bind, Re.ex_bind, Re.no_bind, Re.pure_eq, addD_int, addD_tup, addD_lst, addD_str, subD_int, negD_int, ltD_int, leD_int, gtD_int, geD_int, isD_none, isD_bool, isNotD_none, isNotD_bool, isNoneD_none, isNoneD_bool, isNoneD_int, isNoneD_str, isNoneD_list, isNoneD_tuple, isNoneD_dict, lenD_lst, lenD_tup, absD_int, intD_int, intD_bool, tupleD_lst, tupleD_tup, listD_lst, listD_tup, itemsOf_lst, itemsOf_tup, zipD_lst, zipD_tup, maxD_int, minD_int, slD_tup, slD_lst, pow_10_18, itemsOf_tupI, isi_tuple, isi_int, isi_bool, isi_str, isi_list, isTup_none, isTup_bool, isTup_int, isTup_str, isTup_list, isTup_tuple, isTup_dict, isWB_none, isWB_bool, isWB_int, isWB_str, isWB_list, isWB_tuple, isWB_dict, isB_none, isB_bool, isB_int, isB_str, isB_list, isB_tuple, isB_dict, isStr_none, isStr_bool, isStr_int, isStr_str, isStr_list, isStr_tuple, isStr_dict, isLst_none, isLst_bool, isLst_int, isLst_str, isLst_list, isLst_tuple, isTupI, sumD_lst, lenD_tupI, sumD_tupI, lenD_drD, eqD_int, neD_int, ixD_tup, ixD_lst, at0, at1, at2, at3, List.length_cons, List.length_nil, List.map_cons, List.map_nil, List.cons_append, List.nil_append, List.replicate, List.getElem?_cons_zero, List.getElem?_cons_succ, List.getElem?_nil, List.set_cons_zero, List.set_cons_succ, Nat.reduceAdd, Nat.reduceSub, Nat.reduceLeDiff, Nat.reduceEqDiff, if_true, if_false, beq_self_eq_true, decide_true, eq_self, reduceCtorEq, Bool.not_true, Bool.not_false, Bool.true_and, Bool.and_true, Bool.false_and, Bool.and_false, Bool.or_true, Bool.true_or, Bool.or_false, Bool.false_or, Bool.false_eq_true, Option.map_some, Option.map_none, Option.bind_some, Option.bind_none]⟩ (by
          rintro d _ g ⟨ds, hd, rfl⟩
          obtain ⟨v, ds', e, hv, hd'⟩ := take_ev hd (n := 3) (by decide) (by decide)
          exact ⟨.da (.int v), _, .int v, by simp only [runP, runS, seqS, nextS_ap, asgS, parS, ifS, retS, retN, dropS, raiseS, neverS, contS_ap, breakS_ap, frzS, appS, extS, tgN, tgM, tgs, tgT, tgS, vE, cE, op2, op1, aN, aC, tB', andT, orT, notT, andV, orV, notV, ifE, tupE, lstE, caE, chE, callE, callS, isiE_ap, oN, oS, slE, anyI, rngI, zipI, forS, yesT, cgN, cgT, cgs, whileS, rawL, rawOf, rawL_nil, datL, datL_nil, Rv.dat, GD.toBool, toBool_bool, intOf, intOf_int, ofO, ofO_some, ofO_none, Re.ok_bind, Re.ex_bind, Re.no_bind, Re.pure_eq, addD_int, addD_tup, addD_lst, addD_str, subD_int, negD_int, ltD_int, leD_int, gtD_int, geD_int, isD_none, isD_bool, isNotD_none, isNotD_bool, isNoneD_none, isNoneD_bool, isNoneD_int, isNoneD_str, isNoneD_list, isNoneD_tuple, isNoneD_dict, lenD_lst, lenD_tup, absD_int, intD_int, intD_bool, tupleD_lst, tupleD_tup, listD_lst, listD_tup, itemsOf_lst, itemsOf_tup, zipD_lst, zipD_tup, maxD_int, minD_int, slD_tup, slD_lst, pow_10_18, itemsOf_tupI, isi_tuple, isi_int, isi_bool, isi_str, isi_list, isTup_none, isTup_bool, isTup_int, isTup_str, isTup_list, isTup_tuple, isTup_dict, isWB_none, isWB_bool, isWB_int, isWB_str, isWB_list, isWB_tuple, isWB_dict, isB_none, isB_bool, isB_int, isB_str, isB_list, isB_tuple, isB_dict, isStr_none, isStr_bool, isStr_int, isStr_str, isStr_list, isStr_tuple, isStr_dict, isLst_none, isLst_bool, isLst_int, isLst_str, isLst_list, isLst_tuple, isTupI, sumD_lst, lenD_tupI, sumD_tupI, lenD_drD, eqD_int, neD_int, ixD_tup, ixD_lst, at0, at1, at2, at3, List.length_cons, List.length_nil, List.map_cons, List.map_nil, List.cons_append, List.nil_append, List.replicate, List.getElem?_cons_zero, List.getElem?_cons_succ, List.getElem?_nil, List.set_cons_zero, List.set_cons_succ, Nat.reduceAdd, Nat.reduceSub, Nat.reduceLeDiff, Nat.reduceEqDiff, if_true, if_false, beq_self_eq_true, decide_true, eq_self, reduceCtorEq, Bool.not_true, Bool.not_false, Bool.true_and, Bool.and_true, Bool.false_and, Bool.and_false, Bool.or_true, Bool.true_or, Bool.or_false, Bool.false_or, Bool.false_eq_true, Option.map_some, Option.map_none, Option.bind_some, Option.bind_none, e]; rfl, rfl, ⟨v, rfl, hv⟩, ds', hd', by simp only [runP, runS, seqS, nextS_ap, asgS, parS, ifS, retS, retN, dropS, raiseS, neverS, contS_ap, breakS_ap, frzS, appS, extS, tgN, tgM, tgs, tgT, tgS, vE, cE, op2, op1, aN, aC, tB', andT, orT, notT, andV, orV, notV, ifE, tupE, lstE, caE, chE, callE, callS, isiE_ap, oN, oS, slE, anyI, rngI, zipI, forS, yesT, cgN, cgT, cgs, whileS, rawL, rawOf, rawL_nil, datL, datL_nil, Rv.dat, GD.toBool, toBool_bool, intOf, intOf_int, ofO, ofO_some, ofO_none, Re.ok_bind, Re.ex_bind, Re.no_bind, Re.pure_eq, addD_int, addD_tup, addD_lst, addD_str, subD_int, negD_int, ltD_int, leD_int, gtD_int, geD_int, isD_none, isD_bool, isNotD_none, isNotD_bool, isNoneD_none, isNoneD_bool, isNoneD_int, isNoneD_str, isNoneD_list, isNoneD_tuple, isNoneD_dict, lenD_lst, lenD_tup, absD_int, intD_int, intD_bool, tupleD_lst, tupleD_tup, listD_lst, listD_tup, itemsOf_lst, itemsOf_tup, zipD_lst, zipD_tup, maxD_int, minD_int, slD_tup, slD_lst, pow_10_18, itemsOf_tupI, isi_tuple, isi_int, isi_bool, isi_str, isi_list, isTup_none, isTup_bool, isTup_int, isTup_str, isTup_list, isTup_tuple, isTup_dict, isWB_none, isWB_bool, isWB_int, isWB_str, isWB_list, isWB_tuple, isWB_dict, isB_none, isB_bool, isB_int, isB_str, isB_list, isB_tuple, isB_dict, isStr_none, isStr_bool, isStr_int, isStr_str, isStr_list, isStr_tuple, isStr_dict, isLst_none, isLst_bool, isLst_int, isLst_str, isLst_list, isLst_tuple, isTupI, sumD_lst, lenD_tupI, sumD_tupI, lenD_drD, eqD_int, neD_int, ixD_tup, ixD_lst, at0, at1, at2, at3, List.length_cons, List.length_nil, List.map_cons, List.map_nil, List.cons_append, List.nil_append, List.replicate, List.getElem?_cons_zero, List.getElem?_cons_succ, List.getElem?_nil, List.set_cons_zero, List.set_cons_succ, Nat.reduceAdd, Nat.reduceSub, Nat.reduceLeDiff, Nat.reduceEqDiff, if_true, if_false, beq_self_eq_true, decide_true, eq_self, reduceCtorEq, Bool.not_true, Bool.not_false, Bool.true_and, Bool.and_true, Bool.false_and, Bool.and_false, Bool.or_true, Bool.true_or, Bool.or_false, Bool.false_or, Bool.false_eq_true, Option.map_some, Option.map_none, Option.bind_some, Option.bind_none]⟩)
      obtain ⟨us, rfl, l2, hu⟩ := ys_ints p
      refine ⟨.da (tupI us), _, tupI us, by simp only [runP, runS, seqS, nextS_ap, asgS, parS, ifS, retS, retN, dropS, raiseS, neverS, contS_ap, breakS_ap, frzS, appS, extS, tgN, tgM, tgs, tgT, tgS, vE, cE, op2, op1, aN, aC, tB', andT, orT, notT, andV, orV, notV, ifE, tupE, lstE, caE, chE, callE, callS, isiE_ap, oN, oS, slE, anyI, rngI, zipI, forS, yesT, cgN, cgT, cgs, whileS, rawL, rawOf, rawL_nil, datL, datL_nil, Rv.dat, GD.toBool, toBool_bool, intOf, intOf_int, ofO, ofO_some, ofO_none, Re.ok_bind, Re.ex_bind, Re.no_bind, Re.pure_eq, addD_int, addD_tup, addD_lst, addD_str, subD_int, negD_int, ltD_int, leD_int, gtD_int, geD_int, isD_none, isD_bool, isNotD_none, isNotD_bool, isNoneD_none, isNoneD_bool, isNoneD_int, isNoneD_str, isNoneD_list, isNoneD_tuple, isNoneD_dict, lenD_lst, lenD_tup, absD_int, intD_int, intD_bool, tupleD_lst, tupleD_tup, listD_lst, listD_tup, itemsOf_lst, itemsOf_tup, zipD_lst, zipD_tup, maxD_int, minD_int, slD_tup, slD_lst, pow_10_18, itemsOf_tupI, isi_tuple, isi_int, isi_bool, isi_str, isi_list, isTup_none, isTup_bool, isTup_int, isTup_str, isTup_list, isTup_tuple, isTup_dict, isWB_none, isWB_bool, isWB_int, isWB_str, isWB_list, isWB_tuple, isWB_dict, isB_none, isB_bool, isB_int, isB_str, isB_list, isB_tuple, isB_dict, isStr_none, isStr_bool, isStr_int, isStr_str, isStr_list, isStr_tuple, isStr_dict, isLst_none, isLst_bool, isLst_int, isLst_str, isLst_list, isLst_tuple, isTupI, sumD_lst, lenD_tupI, sumD_tupI, lenD_drD, eqD_int, neD_int, ixD_tup, ixD_lst, at0, at1, at2, at3, List.length_cons, List.length_nil, List.map_cons, List.map_nil, List.cons_append, List.nil_append, List.replicate, List.getElem?_cons_zero, List.getElem?_cons_succ, List.getElem?_nil, List.set_cons_zero, List.set_cons_succ, Nat.reduceAdd, Nat.reduceSub, Nat.reduceLeDiff, Nat.reduceEqDiff, if_true, if_false, beq_self_eq_true, decide_true, eq_self, reduceCtorEq, Bool.not_true, Bool.not_false, Bool.true_and, Bool.and_true, Bool.false_and, Bool.and_false, Bool.or_true, Bool.true_or, Bool.or_false, Bool.false_or, Bool.false_eq_true, Option.map_some, Option.map_none, Option.bind_some, Option.bind_none, e]; rfl, rfl, ⟨us, rfl, by simpa using l2.trans l, hu⟩, ds1, .un, .un, hv, by simp only [runP, runS, seqS, nextS_ap, asgS, parS, ifS, retS, retN, dropS, raiseS, neverS, contS_ap, breakS_ap, frzS, appS, extS, tgN, tgM, tgs, tgT, tgS, vE, cE, op2, op1, aN, aC, tB', andT, orT, notT, andV, orV, notV, ifE, tupE, lstE, caE, chE, callE, callS, isiE_ap, oN, oS, slE, anyI, rngI, zipI, forS, yesT, cgN, cgT, cgs, whileS, rawL, rawOf, rawL_nil, datL, datL_nil, Rv.dat, GD.toBool, toBool_bool, intOf, intOf_int, ofO, ofO_some, ofO_none, Re.ok_bind, Re.ex_bind, Re.no_bind, Re.pure_eq, addD_int, addD_tup, addD_lst, addD_str, subD_int, negD_int, ltD_int, leD_int, gtD_int, geD_int, isD_none, isD_bool, isNotD_none, isNotD_bool, isNoneD_none, isNoneD_bool, isNoneD_int, isNoneD_str, isNoneD_list, isNoneD_tuple, isNoneD_dict, lenD_lst, lenD_tup, absD_int, intD_int, intD_bool, tupleD_lst, tupleD_tup, listD_lst, listD_tup, itemsOf_lst, itemsOf_tup, zipD_lst, zipD_tup, maxD_int, minD_int, slD_tup, slD_lst, pow_10_18, itemsOf_tupI, isi_tuple, isi_int, isi_bool, isi_str, isi_list, isTup_none, isTup_bool, isTup_int, isTup_str, isTup_list, isTup_tuple, isTup_dict, isWB_none, isWB_bool, isWB_int, isWB_str, isWB_list, isWB_tuple, isWB_dict, isB_none, isB_bool, isB_int, isB_str, isB_list, isB_tuple, isB_dict, isStr_none, isStr_bool, isStr_int, isStr_str, isStr_list, isStr_tuple, isStr_dict, isLst_none, isLst_bool, isLst_int, isLst_str, isLst_list, isLst_tuple, isTupI, sumD_lst, lenD_tupI, sumD_tupI, lenD_drD, eqD_int, neD_int, ixD_tup, ixD_lst, at0, at1, at2, at3, List.length_cons, List.length_nil, List.map_cons, List.map_nil, List.cons_append, List.nil_append, List.replicate, List.getElem?_cons_zero, List.getElem?_cons_succ, List.getElem?_nil, List.set_cons_zero, List.set_cons_succ, Nat.reduceAdd, Nat.reduceSub, Nat.reduceLeDiff, Nat.reduceEqDiff, if_true, if_false, beq_self_eq_true, decide_true, eq_self, reduceCtorEq, Bool.not_true, Bool.not_false, Bool.true_and, Bool.and_true, Bool.false_and, Bool.and_false, Bool.or_true, Bool.true_or, Bool.or_false, Bool.false_or, Bool.false_eq_true, Option.map_some, Option.map_none, Option.bind_some, Option.bind_none], trivial⟩)
  obtain ⟨r, rfl, l2, hr⟩ := ys_rows p
  exact ⟨r, ds1, y16, e, ⟨by simpa using l2.trans l, hr⟩, hv⟩

theorem draws_lc {ds : List D} {n : Nat} (h : Val ds) (h1 : 1 ≤ n) (h4 : n ≤ 4) (x0 x1 x4 x5 x6 x7 x8 x9 x10 x11 x12 x13 x14 x15 x16 : Sl) : ∃ (k : Nat) (kr : List Nat) (ds' xs : List D),
    (lcE (rngI (aC (op2 addD (cE (.int 1)) (callS m__law_take (aC (vE 2) (aC (cE (.int 5)) aN)))) aN)) (cgN 8) yesT (callS m__law_take (aC (vE 2) (aC (vE 3) aN))) [8]) [x0, x1, .ml true ds, .da (.int n), x4, x5, x6, x7, x8, x9, x10, x11, x12, x13, x14, x15, x16] = .ok (.fl xs, [x0, x1, .ml true ds', .da (.int n), x4, x5, x6, x7, .un, x9, x10, x11, x12, x13, x14, x15, x16]) ∧ .tuple xs = drD (k :: kr) ∧ kr.length ≤ 5 ∧ (∀ j ∈ k :: kr, j < n) ∧ Val ds' := by
  obtain ⟨t, d0, e0, ht, h0⟩ := take_ev h (n := 5) (by decide) (by decide)
  obtain ⟨m, hm⟩ : ∃ m : Nat, (1 + (t : Int)) = m := ⟨t + 1, by omega⟩
  obtain ⟨ys, g', e, l, p, ds1, hv, rfl⟩ := lc_inv (it := (rngI (aC (op2 addD (cE (.int 1)) (callS m__law_take (aC (vE 2) (aC (cE (.int 5)) aN)))) aN))) (j := 8) (te := (callS m__law_take (aC (vE 2) (aC (vE 3) aN)))) (g := [x0, x1, .ml true ds, .da (.int n), x4, x5, x6, x7, x8, x9, x10, x11, x12, x13, x14, x15, x16]) (g1 := [x0, x1, .ml true d0, .da (.int n), x4, x5, x6, x7, x8, x9, x10, x11, x12, x13, x14, x15, x16])
    (ds := (List.range m).map fun i : Nat => .int i) (fun g => ∃ ds, Val ds ∧ g = [x0, x1, .ml true ds, .da (.int n), x4, x5, x6, x7, .un, x9, x10, x11, x12, x13, x14, x15, x16]) (fun d => ∃ x : Nat, d = .int x ∧ (x : Int) < n)
    (by simp only [runP, runS, seqS, nextS_ap, asgS, parS, ifS, retS, retN, dropS, raiseS, neverS, contS_ap, breakS_ap, frzS, appS, extS, tgN, tgM, tgs, tgT, tgS, vE, cE, op2, op1, aN, aC, tB', andT, orT, notT, andV, orV, notV, ifE, tupE, lstE, caE, chE, callE, callS, isiE_ap, oN, oS, slE, anyI, rngI, zipI, forS, yesT, cgN, cgT, cgs, whileS, rawL, rawOf, rawL_nil, datL, datL_nil, Rv.dat, GD.toBool, toBool_bool, intOf, intOf_int, ofO, ofO_some, ofO_none, Re.ok_bind, Re.ex_bind, Re.no_bind, Re.pure_eq, addD_int, addD_tup, addD_lst, addD_str, subD_int, negD_int, ltD_int, leD_int, gtD_int, geD_int, isD_none, isD_bool, isNotD_none, isNotD_bool, isNoneD_none, isNoneD_bool, isNoneD_int, isNoneD_str, isNoneD_list, isNoneD_tuple, isNoneD_dict, lenD_lst, lenD_tup, absD_int, intD_int, intD_bool, tupleD_lst, tupleD_tup, listD_lst, listD_tup, itemsOf_lst, itemsOf_tup, zipD_lst, zipD_tup, maxD_int, minD_int, slD_tup, slD_lst, pow_10_18, itemsOf_tupI, isi_tuple, isi_int, isi_bool, isi_str, isi_list, isTup_none, isTup_bool, isTup_int, isTup_str, isTup_list, isTup_tuple, isTup_dict, isWB_none, isWB_bool, isWB_int, isWB_str, isWB_list, isWB_tuple, isWB_dict, isB_none, isB_bool, isB_int, isB_str, isB_list, isB_tuple, isB_dict, isStr_none, isStr_bool, isStr_int, isStr_str, isStr_list, isStr_tuple, isStr_dict, isLst_none, isLst_bool, isLst_int, isLst_str, isLst_list, isLst_tuple, isTupI, sumD_lst, lenD_tupI, sumD_tupI, lenD_drD, eqD_int, neD_int, ixD_tup, ixD_lst, at0, at1, at2, at3, List.length_cons, List.length_nil, List.map_cons, List.map_nil, List.cons_append, List.nil_append, List.replicate, List.getElem?_cons_zero, List.getElem?_cons_succ, List.getElem?_nil, List.set_cons_zero, List.set_cons_succ, Nat.reduceAdd, Nat.reduceSub, Nat.reduceLeDiff, Nat.reduceEqDiff, if_true, if_false, beq_self_eq_true, decide_true, eq_self, reduceCtorEq, Bool.not_true, Bool.not_false, Bool.true_and, Bool.and_true, Bool.false_and, Bool.and_false, Bool.or_true, Bool.true_or, Bool.or_false, Bool.false_or, Bool.false_eq_true, Option.map_some, Option.map_none, Option.bind_some, Option.bind_none, e0, hm, rng_nat (show m ≤ 1000000 by omega)]) (by simp; omega) ⟨d0, h0, by simp only [runP, runS, seqS, nextS_ap, asgS, parS, ifS, retS, retN, dropS, raiseS, neverS, contS_ap, breakS_ap, frzS, appS, extS, tgN, tgM, tgs, tgT, tgS, vE, cE, op2, op1, aN, aC, tB', andT, orT, notT, andV, orV, notV, ifE, tupE, lstE, caE, chE, callE, callS, isiE_ap, oN, oS, slE, anyI, rngI, zipI, forS, yesT, cgN, cgT, cgs, whileS, rawL, rawOf, rawL_nil, datL, datL_nil, Rv.dat, GD.toBool, toBool_bool, intOf, intOf_int, ofO, ofO_some, ofO_none, Re.ok_bind, Re.ex_bind, Re.no_bind, Re.pure_eq, addD_int, addD_tup, addD_lst, addD_str, subD_int, negD_int, ltD_int, leD_int, gtD_int, geD_int, isD_none, isD_bool, isNotD_none, isNotD_bool, isNoneD_none, isNoneD_bool, isNoneD_int, isNoneD_str, isNoneD_list, isNoneD_tuple, isNoneD_dict, lenD_lst, lenD_tup, absD_int, intD_int, intD_bool, tupleD_lst, tupleD_tup, listD_lst, listD_tup, itemsOf_lst, itemsOf_tup, zipD_lst, zipD_tup, maxD_int, minD_int, slD_tup, slD_lst, pow_10_18, itemsOf_tupI, isi_tuple, isi_int, isi_bool, isi_str, isi_list, isTup_none, isTup_bool, isTup_int, isTup_str, isTup_list, isTup_tuple, isTup_dict, isWB_none, isWB_bool, isWB_int, isWB_str, isWB_list, isWB_tuple, isWB_dict, isB_none, isB_bool, isB_int, isB_str, isB_list, isB_tuple, isB_dict, isStr_none, isStr_bool, isStr_int, isStr_str, isStr_list, isStr_tuple, isStr_dict, isLst_none, isLst_bool, isLst_int, isLst_str, isLst_list, isLst_tuple, isTupI, sumD_lst, lenD_tupI, sumD_tupI, lenD_drD, eqD_int, neD_int, ixD_tup, ixD_lst, at0, at1, at2, at3, List.length_cons, List.length_nil, List.map_cons, List.map_nil, List.cons_append, List.nil_append, List.replicate, List.getElem?_cons_zero, List.getElem?_cons_succ, List.getElem?_nil, List.set_cons_zero, List.set_cons_succ, Nat.reduceAdd, Nat.reduceSub, Nat.reduceLeDiff, Nat.reduceEqDiff, if_true, if_false, beq_self_eq_true, decide_true, eq_self, reduceCtorEq, Bool.not_true, Bool.not_false, Bool.true_and, Bool.and_true, Bool.false_and, Bool.and_false, Bool.or_true, Bool.true_or, Bool.or_false, Bool.false_or, Bool.false_eq_true, Option.map_some, Option.map_none, Option.bind_some, Option.bind_none]⟩ (by
      rintro d _ g ⟨ds, hd, rfl⟩
      obtain ⟨v, ds', e, hv, hd'⟩ := take_ev hd (n := n) (by omega) (by omega)
      exact ⟨.da (.int v), _, .int v, by simp only [runP, runS, seqS, nextS_ap, asgS, parS, ifS, retS, retN, dropS, raiseS, neverS, contS_ap, breakS_ap, frzS, appS, extS, tgN, tgM, tgs, tgT, tgS, vE, cE, op2, op1, aN, aC, tB', andT, orT, notT, andV, orV, notV, ifE, tupE, lstE, caE, chE, callE, callS, isiE_ap, oN, oS, slE, anyI, rngI, zipI, forS, yesT, cgN, cgT, cgs, whileS, rawL, rawOf, rawL_nil, datL, datL_nil, Rv.dat, GD.toBool, toBool_bool, intOf, intOf_int, ofO, ofO_some, ofO_none, Re.ok_bind, Re.ex_bind, Re.no_bind, Re.pure_eq, addD_int, addD_tup, addD_lst, addD_str, subD_int, negD_int, ltD_int, leD_int, gtD_int, geD_int, isD_none, isD_bool, isNotD_none, isNotD_bool, isNoneD_none, isNoneD_bool, isNoneD_int, isNoneD_str, isNoneD_list, isNoneD_tuple, isNoneD_dict, lenD_lst, lenD_tup, absD_int, intD_int, intD_bool, tupleD_lst, tupleD_tup, listD_lst, listD_tup, itemsOf_lst, itemsOf_tup, zipD_lst, zipD_tup, maxD_int, minD_int, slD_tup, slD_lst, pow_10_18, itemsOf_tupI, isi_tuple, isi_int, isi_bool, isi_str, isi_list, isTup_none, isTup_bool, isTup_int, isTup_str, isTup_list, isTup_tuple, isTup_dict, isWB_none, isWB_bool, isWB_int, isWB_str, isWB_list, isWB_tuple, isWB_dict, isB_none, isB_bool, isB_int, isB_str, isB_list, isB_tuple, isB_dict, isStr_none, isStr_bool, isStr_int, isStr_str, isStr_list, isStr_tuple, isStr_dict, isLst_none, isLst_bool, isLst_int, isLst_str, isLst_list, isLst_tuple, isTupI, sumD_lst, lenD_tupI, sumD_tupI, lenD_drD, eqD_int, neD_int, ixD_tup, ixD_lst, at0, at1, at2, at3, List.length_cons, List.length_nil, List.map_cons, List.map_nil, List.cons_append, List.nil_append, List.replicate, List.getElem?_cons_zero, List.getElem?_cons_succ, List.getElem?_nil, List.set_cons_zero, List.set_cons_succ, Nat.reduceAdd, Nat.reduceSub, Nat.reduceLeDiff, Nat.reduceEqDiff, if_true, if_false, beq_self_eq_true, decide_true, eq_self, reduceCtorEq, Bool.not_true, Bool.not_false, Bool.true_and, Bool.and_true, Bool.false_and, Bool.and_false, Bool.or_true, Bool.true_or, Bool.or_false, Bool.false_or, Bool.false_eq_true, Option.map_some, Option.map_none, Option.bind_some, Option.bind_none, e]; rfl, rfl, ⟨v, rfl, hv⟩, ds', hd', by simp only [runP, runS, seqS, nextS_ap, asgS, parS, ifS, retS, retN, dropS, raiseS, neverS, contS_ap, breakS_ap, frzS, appS, extS, tgN, tgM, tgs, tgT, tgS, vE, cE, op2, op1, aN, aC, tB', andT, orT, notT, andV, orV, notV, ifE, tupE, lstE, caE, chE, callE, callS, isiE_ap, oN, oS, slE, anyI, rngI, zipI, forS, yesT, cgN, cgT, cgs, whileS, rawL, rawOf, rawL_nil, datL, datL_nil, Rv.dat, GD.toBool, toBool_bool, intOf, intOf_int, ofO, ofO_some, ofO_none, Re.ok_bind, Re.ex_bind, Re.no_bind, Re.pure_eq, addD_int, addD_tup, addD_lst, addD_str, subD_int, negD_int, ltD_int, leD_int, gtD_int, geD_int, isD_none, isD_bool, isNotD_none, isNotD_bool, isNoneD_none, isNoneD_bool, isNoneD_int, isNoneD_str, isNoneD_list, isNoneD_tuple, isNoneD_dict, lenD_lst, lenD_tup, absD_int, intD_int, intD_bool, tupleD_lst, tupleD_tup, listD_lst, listD_tup, itemsOf_lst, itemsOf_tup, zipD_lst, zipD_tup, maxD_int, minD_int, slD_tup, slD_lst, pow_10_18, itemsOf_tupI, isi_tuple, isi_int, isi_bool, isi_str, isi_list, isTup_none, isTup_bool, isTup_int, isTup_str, isTup_list, isTup_tuple, isTup_dict, isWB_none, isWB_bool, isWB_int, isWB_str, isWB_list, isWB_tuple, isWB_dict, isB_none, isB_bool, isB_int, isB_str, isB_list, isB_tuple, isB_dict, isStr_none, isStr_bool, isStr_int, isStr_str, isStr_list, isStr_tuple, isStr_dict, isLst_none, isLst_bool, isLst_int, isLst_str, isLst_list, isLst_tuple, isTupI, sumD_lst, lenD_tupI, sumD_tupI, lenD_drD, eqD_int, neD_int, ixD_tup, ixD_lst, at0, at1, at2, at3, List.length_cons, List.length_nil, List.map_cons, List.map_nil, List.cons_append, List.nil_append, List.replicate, List.getElem?_cons_zero, List.getElem?_cons_succ, List.getElem?_nil, List.set_cons_zero, List.set_cons_succ, Nat.reduceAdd, Nat.reduceSub, Nat.reduceLeDiff, Nat.reduceEqDiff, if_true, if_false, beq_self_eq_true, decide_true, eq_self, reduceCtorEq, Bool.not_true, Bool.not_false, Bool.true_and, Bool.and_true, Bool.false_and, Bool.and_false, Bool.or_true, Bool.true_or, Bool.or_false, Bool.false_or, Bool.false_eq_true, Option.map_some, Option.map_none, Option.bind_some, Option.bind_none]⟩)
  obtain ⟨ks, rfl, l2, hk⟩ := ys_nats p
  have lm : ks.length = m := by simpa using l2.trans l
  cases ks with
  | nil => simp at lm; omega
  | cons k kr =>
    simp only [List.length_cons] at lm
    exact ⟨k, kr, ds1, _, e, rfl, by omega, fun j hj => by have := hk j hj; omega, hv⟩
theorem body_ev (ns : List Int) (k : Nat) (x2 x3 x4 x5 x6 x7 x8 x9 x10 x11 x12 x13 x14 x15 x16 : Sl) : ∃ g', ((seqS (asgS (callE m__law_state (aC (vE 0) (aC (vE 1) aN))) (tgM 2)) (seqS (asgS (op2 addD (cE (.int 1)) (callS m__law_take (aC (vE 2) (aC (cE (.int 4)) aN)))) (tgN 3)) (seqS (asgS (callS m__law_small (aC (vE 2) (aC (vE 3) aN))) (tgN 4)) (seqS (asgS (caE tupleD (aC (lcE (rngI (aC (vE 3) aN)) (cgN 15) yesT (caE tupleD (aC (lcE (rngI (aC (vE 3) aN)) (cgN 16) yesT (callS m__law_take (aC (vE 2) (aC (cE (.int 3)) aN))) [16]) aN)) [15]) aN)) (tgN 5)) (seqS (ifS (orT (tB' (op2 isNotD (callE m_is_urn (aC (vE 4) aN)) (cE (.bool true)))) (tB' (op2 isNotD (callE m_is_rule (aC (vE 3) (aC (vE 5) aN))) (cE (.bool true))))) (retS (cE (.bool false))) nextS) (seqS (asgS (tupE (aC (cE (.int 0)) (aC (cE (.int 1)) aN))) (tgN 6)) (seqS (forS (rngI (aC (vE 3) aN)) (tgN 7) (asgS (callE m__law_plus (aC (vE 6) (aC (callE m_chance (aC (vE 4) (aC (vE 7) aN))) aN))) (tgN 6))) (seqS (ifS (tB' (op2 neD (vE 6) (tupE (aC (cE (.int 1)) (aC (cE (.int 1)) aN))))) (retS (cE (.bool false))) nextS) (seqS (asgS (caE tupleD (aC (lcE (rngI (aC (op2 addD (cE (.int 1)) (callS m__law_take (aC (vE 2) (aC (cE (.int 5)) aN)))) aN)) (cgN 8) yesT (callS m__law_take (aC (vE 2) (aC (vE 3) aN))) [8]) aN)) (tgN 9)) (seqS (asgS (callE m_chance_of (aC (vE 4) (aC (vE 5) (aC (vE 9) aN)))) (tgN 10)) (seqS (ifS (tB' (op2 eqD (op2 ixD (vE 4) (op2 ixD (vE 9) (cE (.int 0)))) (cE (.int 0)))) (seqS (ifS (orT (tB' (op2 neD (vE 10) (tupE (aC (cE (.int 0)) (aC (cE (.int 1)) aN))))) (tB' (op2 isNotD (callE m_urn_behind (aC (vE 4) (aC (vE 5) (aC (vE 9) aN)))) (cE .none)))) (retS (cE (.bool false))) nextS) contS) nextS) (seqS (asgS (callE m_after (aC (vE 4) (aC (vE 5) (aC (op2 ixD (vE 9) (cE (.int 0))) aN)))) (tgN 11)) (seqS (ifS (tB' (op2 neD (vE 10) (callE m__law_by (aC (callE m_chance (aC (vE 4) (aC (op2 ixD (vE 9) (cE (.int 0))) aN))) (aC (callE m_chance_of (aC (vE 11) (aC (vE 5) (aC (slE slD (vE 9) (oS (cE (.int 1))) oN) aN)))) aN))))) (retS (cE (.bool false))) nextS) (seqS (ifS (tB' (op2 neD (callE m_urn_behind (aC (vE 4) (aC (vE 5) (aC (vE 9) aN)))) (callE m_urn_behind (aC (vE 11) (aC (vE 5) (aC (slE slD (vE 9) (oS (cE (.int 1))) oN) aN)))))) (retS (cE (.bool false))) nextS) (seqS (asgS (lstE (aC (tupE aN) aN)) (tgN 12)) (seqS (forS (rngI (aC (cE (.int 3)) aN)) (tgN 8) (asgS (callE m__law_longer (aC (vE 12) (aC (vE 3) aN))) (tgN 12))) (seqS (asgS (tupE (aC (cE (.int 0)) (aC (cE (.int 1)) aN))) (tgN 6)) (seqS (forS (anyI (vE 12)) (tgN 13) (asgS (callE m__law_plus (aC (vE 6) (aC (callE m_chance_of (aC (vE 4) (aC (vE 5) (aC (vE 13) aN)))) aN))) (tgN 6))) (seqS (asgS (op2 mulD (tupE (aC (op2 mulD (tupE (aC (cE (.int 0)) aN)) (vE 3)) aN)) (vE 3)) (tgN 14)) (ifS (orT (tB' (op2 neD (vE 6) (tupE (aC (cE (.int 1)) (aC (cE (.int 1)) aN))))) (tB' (op2 neD (callE m_urn_behind (aC (vE 4) (aC (vE 14) (aC (slE slD (vE 9) oN (oS (cE (.int 1)))) aN)))) (vE 4)))) (retS (cE (.bool false))) nextS)))))))))))))))))))) [.da (scrD ns), .da (.int k), x2, x3, x4, x5, x6, x7, x8, x9, x10, x11, x12, x13, x14, x15, x16] = .nx g' ∨ (seqS (asgS (callE m__law_state (aC (vE 0) (aC (vE 1) aN))) (tgM 2)) (seqS (asgS (op2 addD (cE (.int 1)) (callS m__law_take (aC (vE 2) (aC (cE (.int 4)) aN)))) (tgN 3)) (seqS (asgS (callS m__law_small (aC (vE 2) (aC (vE 3) aN))) (tgN 4)) (seqS (asgS (caE tupleD (aC (lcE (rngI (aC (vE 3) aN)) (cgN 15) yesT (caE tupleD (aC (lcE (rngI (aC (vE 3) aN)) (cgN 16) yesT (callS m__law_take (aC (vE 2) (aC (cE (.int 3)) aN))) [16]) aN)) [15]) aN)) (tgN 5)) (seqS (ifS (orT (tB' (op2 isNotD (callE m_is_urn (aC (vE 4) aN)) (cE (.bool true)))) (tB' (op2 isNotD (callE m_is_rule (aC (vE 3) (aC (vE 5) aN))) (cE (.bool true))))) (retS (cE (.bool false))) nextS) (seqS (asgS (tupE (aC (cE (.int 0)) (aC (cE (.int 1)) aN))) (tgN 6)) (seqS (forS (rngI (aC (vE 3) aN)) (tgN 7) (asgS (callE m__law_plus (aC (vE 6) (aC (callE m_chance (aC (vE 4) (aC (vE 7) aN))) aN))) (tgN 6))) (seqS (ifS (tB' (op2 neD (vE 6) (tupE (aC (cE (.int 1)) (aC (cE (.int 1)) aN))))) (retS (cE (.bool false))) nextS) (seqS (asgS (caE tupleD (aC (lcE (rngI (aC (op2 addD (cE (.int 1)) (callS m__law_take (aC (vE 2) (aC (cE (.int 5)) aN)))) aN)) (cgN 8) yesT (callS m__law_take (aC (vE 2) (aC (vE 3) aN))) [8]) aN)) (tgN 9)) (seqS (asgS (callE m_chance_of (aC (vE 4) (aC (vE 5) (aC (vE 9) aN)))) (tgN 10)) (seqS (ifS (tB' (op2 eqD (op2 ixD (vE 4) (op2 ixD (vE 9) (cE (.int 0)))) (cE (.int 0)))) (seqS (ifS (orT (tB' (op2 neD (vE 10) (tupE (aC (cE (.int 0)) (aC (cE (.int 1)) aN))))) (tB' (op2 isNotD (callE m_urn_behind (aC (vE 4) (aC (vE 5) (aC (vE 9) aN)))) (cE .none)))) (retS (cE (.bool false))) nextS) contS) nextS) (seqS (asgS (callE m_after (aC (vE 4) (aC (vE 5) (aC (op2 ixD (vE 9) (cE (.int 0))) aN)))) (tgN 11)) (seqS (ifS (tB' (op2 neD (vE 10) (callE m__law_by (aC (callE m_chance (aC (vE 4) (aC (op2 ixD (vE 9) (cE (.int 0))) aN))) (aC (callE m_chance_of (aC (vE 11) (aC (vE 5) (aC (slE slD (vE 9) (oS (cE (.int 1))) oN) aN)))) aN))))) (retS (cE (.bool false))) nextS) (seqS (ifS (tB' (op2 neD (callE m_urn_behind (aC (vE 4) (aC (vE 5) (aC (vE 9) aN)))) (callE m_urn_behind (aC (vE 11) (aC (vE 5) (aC (slE slD (vE 9) (oS (cE (.int 1))) oN) aN)))))) (retS (cE (.bool false))) nextS) (seqS (asgS (lstE (aC (tupE aN) aN)) (tgN 12)) (seqS (forS (rngI (aC (cE (.int 3)) aN)) (tgN 8) (asgS (callE m__law_longer (aC (vE 12) (aC (vE 3) aN))) (tgN 12))) (seqS (asgS (tupE (aC (cE (.int 0)) (aC (cE (.int 1)) aN))) (tgN 6)) (seqS (forS (anyI (vE 12)) (tgN 13) (asgS (callE m__law_plus (aC (vE 6) (aC (callE m_chance_of (aC (vE 4) (aC (vE 5) (aC (vE 13) aN)))) aN))) (tgN 6))) (seqS (asgS (op2 mulD (tupE (aC (op2 mulD (tupE (aC (cE (.int 0)) aN)) (vE 3)) aN)) (vE 3)) (tgN 14)) (ifS (orT (tB' (op2 neD (vE 6) (tupE (aC (cE (.int 1)) (aC (cE (.int 1)) aN))))) (tB' (op2 neD (callE m_urn_behind (aC (vE 4) (aC (vE 14) (aC (slE slD (vE 9) oN (oS (cE (.int 1)))) aN)))) (vE 4)))) (retS (cE (.bool false))) nextS)))))))))))))))))))) [.da (scrD ns), .da (.int k), x2, x3, x4, x5, x6, x7, x8, x9, x10, x11, x12, x13, x14, x15, x16] = .ct g') ∧ ∃ y1 y2 y3 y4 y5 y6 y7 y8 y9 y10 y11 y12 y13 y14 y15 y16, g' = [.da (scrD ns), y1, y2, y3, y4, y5, y6, y7, y8, y9, y10, y11, y12, y13, y14, y15, y16] := by
  obtain ⟨ds, e0, h0⟩ := state_ev ns k
  obtain ⟨v, d1, e1, hv, h1⟩ := take_ev h0 (n := 4) (by decide) (by decide)
  obtain ⟨n, hn⟩ : ∃ n : Nat, (1 + (v : Int)) = n := ⟨v + 1, by omega⟩
  obtain ⟨u, d2, e2, hu, hl, h2⟩ := small_ev h1 (n := n) (by omega) (by omega)
  obtain ⟨r, d3, y16, e3, hr, h3⟩ := rule_lc h2 (n := n) (by omega) (by omega) (.da (scrD ns)) (.da (.int k)) (.da (tupI u)) x5 x6 x7 x8 x9 x10 x11 x12 x13 x14 x15 x16
  have hu20 := hu.mono (show (7 : Int) ≤ 20 by decide)
  have c1 : m_is_urn [tupI u] = .ok (.da (.bool true)) := by rw [is_urn_ev, isUrn_of hu (by decide)]
  have c2 : m_is_rule [.int n, ruleD r] = .ok (.da (.bool true)) := by
    unfold m_is_rule d_is_rule
    simp only [runP, runS, seqS, nextS_ap, asgS, parS, ifS, retS, retN, dropS, raiseS, neverS, contS_ap, breakS_ap, frzS, appS, extS, tgN, tgM, tgs, tgT, tgS, vE, cE, op2, op1, aN, aC, tB', andT, orT, notT, andV, orV, notV, ifE, tupE, lstE, caE, chE, callE, callS, isiE_ap, oN, oS, slE, anyI, rngI, zipI, forS, yesT, cgN, cgT, cgs, whileS, rawL, rawOf, rawL_nil, datL, datL_nil, Rv.dat, GD.toBool, toBool_bool, intOf, intOf_int, ofO, ofO_some, ofO_none, Re.ok_bind, Re.ex_bind, Re.no_bind, Re.pure_eq, addD_int, addD_tup, addD_lst, addD_str, subD_int, negD_int, ltD_int, leD_int, gtD_int, geD_int, isD_none, isD_bool, isNotD_none, isNotD_bool, isNoneD_none, isNoneD_bool, isNoneD_int, isNoneD_str, isNoneD_list, isNoneD_tuple, isNoneD_dict, lenD_lst, lenD_tup, absD_int, intD_int, intD_bool, tupleD_lst, tupleD_tup, listD_lst, listD_tup, itemsOf_lst, itemsOf_tup, zipD_lst, zipD_tup, maxD_int, minD_int, slD_tup, slD_lst, pow_10_18, itemsOf_tupI, isi_tuple, isi_int, isi_bool, isi_str, isi_list, isTup_none, isTup_bool, isTup_int, isTup_str, isTup_list, isTup_tuple, isTup_dict, isWB_none, isWB_bool, isWB_int, isWB_str, isWB_list, isWB_tuple, isWB_dict, isB_none, isB_bool, isB_int, isB_str, isB_list, isB_tuple, isB_dict, isStr_none, isStr_bool, isStr_int, isStr_str, isStr_list, isStr_tuple, isStr_dict, isLst_none, isLst_bool, isLst_int, isLst_str, isLst_list, isLst_tuple, isTupI, sumD_lst, lenD_tupI, sumD_tupI, lenD_drD, eqD_int, neD_int, ixD_tup, ixD_lst, at0, at1, at2, at3, List.length_cons, List.length_nil, List.map_cons, List.map_nil, List.cons_append, List.nil_append, List.replicate, List.getElem?_cons_zero, List.getElem?_cons_succ, List.getElem?_nil, List.set_cons_zero, List.set_cons_succ, Nat.reduceAdd, Nat.reduceSub, Nat.reduceLeDiff, Nat.reduceEqDiff, if_true, if_false, beq_self_eq_true, decide_true, eq_self, reduceCtorEq, Bool.not_true, Bool.not_false, Bool.true_and, Bool.and_true, Bool.false_and, Bool.and_false, Bool.or_true, Bool.true_or, Bool.or_false, Bool.false_or, Bool.false_eq_true, Option.map_some, Option.map_none, Option.bind_some, Option.bind_none, need_number_ok (d := .int (n : Int)) (a := 1) (b := 4) (btw_nat (by omega) (by omega)), is_rule_of_ev (show (n : Int) ≤ 1000000 by omega), isRule_of hr (by decide)]
  obtain ⟨s7, e4⟩ := shares_loop hu20 (x0 := .da (scrD ns)) (x1 := .da (.int k)) (x2 := .ml true d3) (x3 := .da (.int n)) (x5 := .da (ruleD r)) (x8 := x8) (x9 := x9) (x10 := x10) (x11 := x11) (x12 := x12) (x13 := x13) (x14 := x14) (x15 := .un) (x16 := y16) (List.range n) 0 0 x7 (fun k hk => by rw [hl]; simpa using hk) (by simp; omega) (Sm'.zero.mono (by omega))
  have q1 : (0 : Rat) + sumQ ((List.range n).map (sh u)) = 1 := by rw [← hl, sh_sum hu, Rat.zero_add]
  rw [q1, frD_zero] at e4
  obtain ⟨k0, kr, d4, xs, e5, hxs, hkl, hkn, h4⟩ := draws_lc h3 (n := n) (by omega) (by omega) (.da (scrD ns)) (.da (.int k)) (.da (tupI u)) (.da (ruleD r)) (.da (frD 1)) s7 x8 x9 x10 x11 x12 x13 x14 .un y16
  have hk0 : k0 < n := hkn k0 (by simp)
  have f1 := chance_of_ev hu (by decide) hr (by decide) (by decide) hl hkn (by simp; omega)
  have f2 := urn_behind_ev hu (by decide) hr (by decide) (by decide) hl hkn (by simp; omega)
  rw [show (if cq u r (k0 :: kr) = 0 then PyData.none else tupI (bh u r (k0 :: kr))) = behD (cq u r (k0 :: kr)) (bh u r (k0 :: kr)) from rfl] at f2
  have ix0 := ixD_tupI (getD_some (u := u) (k := k0) (by omega))
  have rtup : PyData.tuple (r.map tupI) = ruleD r := rfl
  by_cases z : u.getD k0 0 = 0
  · have z1 : sh u k0 = 0 := (sh_zero hu k0).mpr z
    have z2 : cq u r (k0 :: kr) = 0 := by rw [cq_cons, z1, Rat.zero_mul]
    rw [z2] at f1 f2
    rw [z] at ix0
    rw [behD_zero] at f2
    refine ⟨[.da (scrD ns), .da (.int k), .ml true d4, .da (.int n), .da (tupI u), .da (ruleD r), .da (frD 1), s7, .un, .da (drD (k0 :: kr)), .da (frD 0), x11, x12, x13, x14, .un, y16], .inr ?_, _, _, _, _, _, _, _, _, _, _, _, _, _, _, _, _, rfl⟩
    refine seq_eq (by simp only [runP, runS, seqS, nextS_ap, asgS, parS, ifS, retS, retN, dropS, raiseS, neverS, contS_ap, breakS_ap, frzS, appS, extS, tgN, tgM, tgs, tgT, tgS, vE, cE, op2, op1, aN, aC, tB', andT, orT, notT, andV, orV, notV, ifE, tupE, lstE, caE, chE, callE, callS, isiE_ap, oN, oS, slE, anyI, rngI, zipI, forS, yesT, cgN, cgT, cgs, whileS, rawL, rawOf, rawL_nil, datL, datL_nil, Rv.dat, GD.toBool, toBool_bool, intOf, intOf_int, ofO, ofO_some, ofO_none, Re.ok_bind, Re.ex_bind, Re.no_bind, Re.pure_eq, addD_int, addD_tup, addD_lst, addD_str, subD_int, negD_int, ltD_int, leD_int, gtD_int, geD_int, isD_none, isD_bool, isNotD_none, isNotD_bool, isNoneD_none, isNoneD_bool, isNoneD_int, isNoneD_str, isNoneD_list, isNoneD_tuple, isNoneD_dict, lenD_lst, lenD_tup, absD_int, intD_int, intD_bool, tupleD_lst, tupleD_tup, listD_lst, listD_tup, itemsOf_lst, itemsOf_tup, zipD_lst, zipD_tup, maxD_int, minD_int, slD_tup, slD_lst, pow_10_18, itemsOf_tupI, isi_tuple, isi_int, isi_bool, isi_str, isi_list, isTup_none, isTup_bool, isTup_int, isTup_str, isTup_list, isTup_tuple, isTup_dict, isWB_none, isWB_bool, isWB_int, isWB_str, isWB_list, isWB_tuple, isWB_dict, isB_none, isB_bool, isB_int, isB_str, isB_list, isB_tuple, isB_dict, isStr_none, isStr_bool, isStr_int, isStr_str, isStr_list, isStr_tuple, isStr_dict, isLst_none, isLst_bool, isLst_int, isLst_str, isLst_list, isLst_tuple, isTupI, sumD_lst, lenD_tupI, sumD_tupI, lenD_drD, eqD_int, neD_int, ixD_tup, ixD_lst, at0, at1, at2, at3, List.length_cons, List.length_nil, List.map_cons, List.map_nil, List.cons_append, List.nil_append, List.replicate, List.getElem?_cons_zero, List.getElem?_cons_succ, List.getElem?_nil, List.set_cons_zero, List.set_cons_succ, Nat.reduceAdd, Nat.reduceSub, Nat.reduceLeDiff, Nat.reduceEqDiff, if_true, if_false, beq_self_eq_true, decide_true, eq_self, reduceCtorEq, Bool.not_true, Bool.not_false, Bool.true_and, Bool.and_true, Bool.false_and, Bool.and_false, Bool.or_true, Bool.true_or, Bool.or_false, Bool.false_or, Bool.false_eq_true, Option.map_some, Option.map_none, Option.bind_some, Option.bind_none, e0]; rfl) ?_
    refine seq_eq (by simp only [runP, runS, seqS, nextS_ap, asgS, parS, ifS, retS, retN, dropS, raiseS, neverS, contS_ap, breakS_ap, frzS, appS, extS, tgN, tgM, tgs, tgT, tgS, vE, cE, op2, op1, aN, aC, tB', andT, orT, notT, andV, orV, notV, ifE, tupE, lstE, caE, chE, callE, callS, isiE_ap, oN, oS, slE, anyI, rngI, zipI, forS, yesT, cgN, cgT, cgs, whileS, rawL, rawOf, rawL_nil, datL, datL_nil, Rv.dat, GD.toBool, toBool_bool, intOf, intOf_int, ofO, ofO_some, ofO_none, Re.ok_bind, Re.ex_bind, Re.no_bind, Re.pure_eq, addD_int, addD_tup, addD_lst, addD_str, subD_int, negD_int, ltD_int, leD_int, gtD_int, geD_int, isD_none, isD_bool, isNotD_none, isNotD_bool, isNoneD_none, isNoneD_bool, isNoneD_int, isNoneD_str, isNoneD_list, isNoneD_tuple, isNoneD_dict, lenD_lst, lenD_tup, absD_int, intD_int, intD_bool, tupleD_lst, tupleD_tup, listD_lst, listD_tup, itemsOf_lst, itemsOf_tup, zipD_lst, zipD_tup, maxD_int, minD_int, slD_tup, slD_lst, pow_10_18, itemsOf_tupI, isi_tuple, isi_int, isi_bool, isi_str, isi_list, isTup_none, isTup_bool, isTup_int, isTup_str, isTup_list, isTup_tuple, isTup_dict, isWB_none, isWB_bool, isWB_int, isWB_str, isWB_list, isWB_tuple, isWB_dict, isB_none, isB_bool, isB_int, isB_str, isB_list, isB_tuple, isB_dict, isStr_none, isStr_bool, isStr_int, isStr_str, isStr_list, isStr_tuple, isStr_dict, isLst_none, isLst_bool, isLst_int, isLst_str, isLst_list, isLst_tuple, isTupI, sumD_lst, lenD_tupI, sumD_tupI, lenD_drD, eqD_int, neD_int, ixD_tup, ixD_lst, at0, at1, at2, at3, List.length_cons, List.length_nil, List.map_cons, List.map_nil, List.cons_append, List.nil_append, List.replicate, List.getElem?_cons_zero, List.getElem?_cons_succ, List.getElem?_nil, List.set_cons_zero, List.set_cons_succ, Nat.reduceAdd, Nat.reduceSub, Nat.reduceLeDiff, Nat.reduceEqDiff, if_true, if_false, beq_self_eq_true, decide_true, eq_self, reduceCtorEq, Bool.not_true, Bool.not_false, Bool.true_and, Bool.and_true, Bool.false_and, Bool.and_false, Bool.or_true, Bool.true_or, Bool.or_false, Bool.false_or, Bool.false_eq_true, Option.map_some, Option.map_none, Option.bind_some, Option.bind_none, e1, hn]; rfl) ?_
    refine seq_eq (by simp only [runP, runS, seqS, nextS_ap, asgS, parS, ifS, retS, retN, dropS, raiseS, neverS, contS_ap, breakS_ap, frzS, appS, extS, tgN, tgM, tgs, tgT, tgS, vE, cE, op2, op1, aN, aC, tB', andT, orT, notT, andV, orV, notV, ifE, tupE, lstE, caE, chE, callE, callS, isiE_ap, oN, oS, slE, anyI, rngI, zipI, forS, yesT, cgN, cgT, cgs, whileS, rawL, rawOf, rawL_nil, datL, datL_nil, Rv.dat, GD.toBool, toBool_bool, intOf, intOf_int, ofO, ofO_some, ofO_none, Re.ok_bind, Re.ex_bind, Re.no_bind, Re.pure_eq, addD_int, addD_tup, addD_lst, addD_str, subD_int, negD_int, ltD_int, leD_int, gtD_int, geD_int, isD_none, isD_bool, isNotD_none, isNotD_bool, isNoneD_none, isNoneD_bool, isNoneD_int, isNoneD_str, isNoneD_list, isNoneD_tuple, isNoneD_dict, lenD_lst, lenD_tup, absD_int, intD_int, intD_bool, tupleD_lst, tupleD_tup, listD_lst, listD_tup, itemsOf_lst, itemsOf_tup, zipD_lst, zipD_tup, maxD_int, minD_int, slD_tup, slD_lst, pow_10_18, itemsOf_tupI, isi_tuple, isi_int, isi_bool, isi_str, isi_list, isTup_none, isTup_bool, isTup_int, isTup_str, isTup_list, isTup_tuple, isTup_dict, isWB_none, isWB_bool, isWB_int, isWB_str, isWB_list, isWB_tuple, isWB_dict, isB_none, isB_bool, isB_int, isB_str, isB_list, isB_tuple, isB_dict, isStr_none, isStr_bool, isStr_int, isStr_str, isStr_list, isStr_tuple, isStr_dict, isLst_none, isLst_bool, isLst_int, isLst_str, isLst_list, isLst_tuple, isTupI, sumD_lst, lenD_tupI, sumD_tupI, lenD_drD, eqD_int, neD_int, ixD_tup, ixD_lst, at0, at1, at2, at3, List.length_cons, List.length_nil, List.map_cons, List.map_nil, List.cons_append, List.nil_append, List.replicate, List.getElem?_cons_zero, List.getElem?_cons_succ, List.getElem?_nil, List.set_cons_zero, List.set_cons_succ, Nat.reduceAdd, Nat.reduceSub, Nat.reduceLeDiff, Nat.reduceEqDiff, if_true, if_false, beq_self_eq_true, decide_true, eq_self, reduceCtorEq, Bool.not_true, Bool.not_false, Bool.true_and, Bool.and_true, Bool.false_and, Bool.and_false, Bool.or_true, Bool.true_or, Bool.or_false, Bool.false_or, Bool.false_eq_true, Option.map_some, Option.map_none, Option.bind_some, Option.bind_none, e2]; rfl) ?_
    refine seq_eq (by simp only [runP, runS, seqS, nextS_ap, asgS, parS, ifS, retS, retN, dropS, raiseS, neverS, contS_ap, breakS_ap, frzS, appS, extS, tgN, tgM, tgs, tgT, tgS, vE, cE, op2, op1, aN, aC, tB', andT, orT, notT, andV, orV, notV, ifE, tupE, lstE, caE, chE, callE, callS, isiE_ap, oN, oS, slE, anyI, rngI, zipI, forS, yesT, cgN, cgT, cgs, whileS, rawL, rawOf, rawL_nil, datL, datL_nil, Rv.dat, GD.toBool, toBool_bool, intOf, intOf_int, ofO, ofO_some, ofO_none, Re.ok_bind, Re.ex_bind, Re.no_bind, Re.pure_eq, addD_int, addD_tup, addD_lst, addD_str, subD_int, negD_int, ltD_int, leD_int, gtD_int, geD_int, isD_none, isD_bool, isNotD_none, isNotD_bool, isNoneD_none, isNoneD_bool, isNoneD_int, isNoneD_str, isNoneD_list, isNoneD_tuple, isNoneD_dict, lenD_lst, lenD_tup, absD_int, intD_int, intD_bool, tupleD_lst, tupleD_tup, listD_lst, listD_tup, itemsOf_lst, itemsOf_tup, zipD_lst, zipD_tup, maxD_int, minD_int, slD_tup, slD_lst, pow_10_18, itemsOf_tupI, isi_tuple, isi_int, isi_bool, isi_str, isi_list, isTup_none, isTup_bool, isTup_int, isTup_str, isTup_list, isTup_tuple, isTup_dict, isWB_none, isWB_bool, isWB_int, isWB_str, isWB_list, isWB_tuple, isWB_dict, isB_none, isB_bool, isB_int, isB_str, isB_list, isB_tuple, isB_dict, isStr_none, isStr_bool, isStr_int, isStr_str, isStr_list, isStr_tuple, isStr_dict, isLst_none, isLst_bool, isLst_int, isLst_str, isLst_list, isLst_tuple, isTupI, sumD_lst, lenD_tupI, sumD_tupI, lenD_drD, eqD_int, neD_int, ixD_tup, ixD_lst, at0, at1, at2, at3, List.length_cons, List.length_nil, List.map_cons, List.map_nil, List.cons_append, List.nil_append, List.replicate, List.getElem?_cons_zero, List.getElem?_cons_succ, List.getElem?_nil, List.set_cons_zero, List.set_cons_succ, Nat.reduceAdd, Nat.reduceSub, Nat.reduceLeDiff, Nat.reduceEqDiff, if_true, if_false, beq_self_eq_true, decide_true, eq_self, reduceCtorEq, Bool.not_true, Bool.not_false, Bool.true_and, Bool.and_true, Bool.false_and, Bool.and_false, Bool.or_true, Bool.true_or, Bool.or_false, Bool.false_or, Bool.false_eq_true, Option.map_some, Option.map_none, Option.bind_some, Option.bind_none, e3, rtup]; rfl) ?_
    refine seq_eq (by simp only [runP, runS, seqS, nextS_ap, asgS, parS, ifS, retS, retN, dropS, raiseS, neverS, contS_ap, breakS_ap, frzS, appS, extS, tgN, tgM, tgs, tgT, tgS, vE, cE, op2, op1, aN, aC, tB', andT, orT, notT, andV, orV, notV, ifE, tupE, lstE, caE, chE, callE, callS, isiE_ap, oN, oS, slE, anyI, rngI, zipI, forS, yesT, cgN, cgT, cgs, whileS, rawL, rawOf, rawL_nil, datL, datL_nil, Rv.dat, GD.toBool, toBool_bool, intOf, intOf_int, ofO, ofO_some, ofO_none, Re.ok_bind, Re.ex_bind, Re.no_bind, Re.pure_eq, addD_int, addD_tup, addD_lst, addD_str, subD_int, negD_int, ltD_int, leD_int, gtD_int, geD_int, isD_none, isD_bool, isNotD_none, isNotD_bool, isNoneD_none, isNoneD_bool, isNoneD_int, isNoneD_str, isNoneD_list, isNoneD_tuple, isNoneD_dict, lenD_lst, lenD_tup, absD_int, intD_int, intD_bool, tupleD_lst, tupleD_tup, listD_lst, listD_tup, itemsOf_lst, itemsOf_tup, zipD_lst, zipD_tup, maxD_int, minD_int, slD_tup, slD_lst, pow_10_18, itemsOf_tupI, isi_tuple, isi_int, isi_bool, isi_str, isi_list, isTup_none, isTup_bool, isTup_int, isTup_str, isTup_list, isTup_tuple, isTup_dict, isWB_none, isWB_bool, isWB_int, isWB_str, isWB_list, isWB_tuple, isWB_dict, isB_none, isB_bool, isB_int, isB_str, isB_list, isB_tuple, isB_dict, isStr_none, isStr_bool, isStr_int, isStr_str, isStr_list, isStr_tuple, isStr_dict, isLst_none, isLst_bool, isLst_int, isLst_str, isLst_list, isLst_tuple, isTupI, sumD_lst, lenD_tupI, sumD_tupI, lenD_drD, eqD_int, neD_int, ixD_tup, ixD_lst, at0, at1, at2, at3, List.length_cons, List.length_nil, List.map_cons, List.map_nil, List.cons_append, List.nil_append, List.replicate, List.getElem?_cons_zero, List.getElem?_cons_succ, List.getElem?_nil, List.set_cons_zero, List.set_cons_succ, Nat.reduceAdd, Nat.reduceSub, Nat.reduceLeDiff, Nat.reduceEqDiff, if_true, if_false, beq_self_eq_true, decide_true, eq_self, reduceCtorEq, Bool.not_true, Bool.not_false, Bool.true_and, Bool.and_true, Bool.false_and, Bool.and_false, Bool.or_true, Bool.true_or, Bool.or_false, Bool.false_or, Bool.false_eq_true, Option.map_some, Option.map_none, Option.bind_some, Option.bind_none, c1, c2]; rfl) ?_
    refine seq_eq (by simp only [runP, runS, seqS, nextS_ap, asgS, parS, ifS, retS, retN, dropS, raiseS, neverS, contS_ap, breakS_ap, frzS, appS, extS, tgN, tgM, tgs, tgT, tgS, vE, cE, op2, op1, aN, aC, tB', andT, orT, notT, andV, orV, notV, ifE, tupE, lstE, caE, chE, callE, callS, isiE_ap, oN, oS, slE, anyI, rngI, zipI, forS, yesT, cgN, cgT, cgs, whileS, rawL, rawOf, rawL_nil, datL, datL_nil, Rv.dat, GD.toBool, toBool_bool, intOf, intOf_int, ofO, ofO_some, ofO_none, Re.ok_bind, Re.ex_bind, Re.no_bind, Re.pure_eq, addD_int, addD_tup, addD_lst, addD_str, subD_int, negD_int, ltD_int, leD_int, gtD_int, geD_int, isD_none, isD_bool, isNotD_none, isNotD_bool, isNoneD_none, isNoneD_bool, isNoneD_int, isNoneD_str, isNoneD_list, isNoneD_tuple, isNoneD_dict, lenD_lst, lenD_tup, absD_int, intD_int, intD_bool, tupleD_lst, tupleD_tup, listD_lst, listD_tup, itemsOf_lst, itemsOf_tup, zipD_lst, zipD_tup, maxD_int, minD_int, slD_tup, slD_lst, pow_10_18, itemsOf_tupI, isi_tuple, isi_int, isi_bool, isi_str, isi_list, isTup_none, isTup_bool, isTup_int, isTup_str, isTup_list, isTup_tuple, isTup_dict, isWB_none, isWB_bool, isWB_int, isWB_str, isWB_list, isWB_tuple, isWB_dict, isB_none, isB_bool, isB_int, isB_str, isB_list, isB_tuple, isB_dict, isStr_none, isStr_bool, isStr_int, isStr_str, isStr_list, isStr_tuple, isStr_dict, isLst_none, isLst_bool, isLst_int, isLst_str, isLst_list, isLst_tuple, isTupI, sumD_lst, lenD_tupI, sumD_tupI, lenD_drD, eqD_int, neD_int, ixD_tup, ixD_lst, at0, at1, at2, at3, List.length_cons, List.length_nil, List.map_cons, List.map_nil, List.cons_append, List.nil_append, List.replicate, List.getElem?_cons_zero, List.getElem?_cons_succ, List.getElem?_nil, List.set_cons_zero, List.set_cons_succ, Nat.reduceAdd, Nat.reduceSub, Nat.reduceLeDiff, Nat.reduceEqDiff, if_true, if_false, beq_self_eq_true, decide_true, eq_self, reduceCtorEq, Bool.not_true, Bool.not_false, Bool.true_and, Bool.and_true, Bool.false_and, Bool.and_false, Bool.or_true, Bool.true_or, Bool.or_false, Bool.false_or, Bool.false_eq_true, Option.map_some, Option.map_none, Option.bind_some, Option.bind_none, if_pos (show (2 : Nat) ≤ 1000000 by decide)]; rfl) ?_
    refine seq_eq (by simp only [runP, runS, seqS, nextS_ap, asgS, parS, ifS, retS, retN, dropS, raiseS, neverS, contS_ap, breakS_ap, frzS, appS, extS, tgN, tgM, tgs, tgT, tgS, vE, cE, op2, op1, aN, aC, tB', andT, orT, notT, andV, orV, notV, ifE, tupE, lstE, caE, chE, callE, callS, isiE_ap, oN, oS, slE, anyI, rngI, zipI, forS, yesT, cgN, cgT, cgs, whileS, rawL, rawOf, rawL_nil, datL, datL_nil, Rv.dat, GD.toBool, toBool_bool, intOf, intOf_int, ofO, ofO_some, ofO_none, Re.ok_bind, Re.ex_bind, Re.no_bind, Re.pure_eq, addD_int, addD_tup, addD_lst, addD_str, subD_int, negD_int, ltD_int, leD_int, gtD_int, geD_int, isD_none, isD_bool, isNotD_none, isNotD_bool, isNoneD_none, isNoneD_bool, isNoneD_int, isNoneD_str, isNoneD_list, isNoneD_tuple, isNoneD_dict, lenD_lst, lenD_tup, absD_int, intD_int, intD_bool, tupleD_lst, tupleD_tup, listD_lst, listD_tup, itemsOf_lst, itemsOf_tup, zipD_lst, zipD_tup, maxD_int, minD_int, slD_tup, slD_lst, pow_10_18, itemsOf_tupI, isi_tuple, isi_int, isi_bool, isi_str, isi_list, isTup_none, isTup_bool, isTup_int, isTup_str, isTup_list, isTup_tuple, isTup_dict, isWB_none, isWB_bool, isWB_int, isWB_str, isWB_list, isWB_tuple, isWB_dict, isB_none, isB_bool, isB_int, isB_str, isB_list, isB_tuple, isB_dict, isStr_none, isStr_bool, isStr_int, isStr_str, isStr_list, isStr_tuple, isStr_dict, isLst_none, isLst_bool, isLst_int, isLst_str, isLst_list, isLst_tuple, isTupI, sumD_lst, lenD_tupI, sumD_tupI, lenD_drD, eqD_int, neD_int, ixD_tup, ixD_lst, at0, at1, at2, at3, List.length_cons, List.length_nil, List.map_cons, List.map_nil, List.cons_append, List.nil_append, List.replicate, List.getElem?_cons_zero, List.getElem?_cons_succ, List.getElem?_nil, List.set_cons_zero, List.set_cons_succ, Nat.reduceAdd, Nat.reduceSub, Nat.reduceLeDiff, Nat.reduceEqDiff, if_true, if_false, beq_self_eq_true, decide_true, eq_self, reduceCtorEq, Bool.not_true, Bool.not_false, Bool.true_and, Bool.and_true, Bool.false_and, Bool.and_false, Bool.or_true, Bool.true_or, Bool.or_false, Bool.false_or, Bool.false_eq_true, Option.map_some, Option.map_none, Option.bind_some, Option.bind_none, rng_nat (show n ≤ 1000000 by omega), e4]; rfl) ?_
    refine seq_eq (by simp only [runP, runS, seqS, nextS_ap, asgS, parS, ifS, retS, retN, dropS, raiseS, neverS, contS_ap, breakS_ap, frzS, appS, extS, tgN, tgM, tgs, tgT, tgS, vE, cE, op2, op1, aN, aC, tB', andT, orT, notT, andV, orV, notV, ifE, tupE, lstE, caE, chE, callE, callS, isiE_ap, oN, oS, slE, anyI, rngI, zipI, forS, yesT, cgN, cgT, cgs, whileS, rawL, rawOf, rawL_nil, datL, datL_nil, Rv.dat, GD.toBool, toBool_bool, intOf, intOf_int, ofO, ofO_some, ofO_none, Re.ok_bind, Re.ex_bind, Re.no_bind, Re.pure_eq, addD_int, addD_tup, addD_lst, addD_str, subD_int, negD_int, ltD_int, leD_int, gtD_int, geD_int, isD_none, isD_bool, isNotD_none, isNotD_bool, isNoneD_none, isNoneD_bool, isNoneD_int, isNoneD_str, isNoneD_list, isNoneD_tuple, isNoneD_dict, lenD_lst, lenD_tup, absD_int, intD_int, intD_bool, tupleD_lst, tupleD_tup, listD_lst, listD_tup, itemsOf_lst, itemsOf_tup, zipD_lst, zipD_tup, maxD_int, minD_int, slD_tup, slD_lst, pow_10_18, itemsOf_tupI, isi_tuple, isi_int, isi_bool, isi_str, isi_list, isTup_none, isTup_bool, isTup_int, isTup_str, isTup_list, isTup_tuple, isTup_dict, isWB_none, isWB_bool, isWB_int, isWB_str, isWB_list, isWB_tuple, isWB_dict, isB_none, isB_bool, isB_int, isB_str, isB_list, isB_tuple, isB_dict, isStr_none, isStr_bool, isStr_int, isStr_str, isStr_list, isStr_tuple, isStr_dict, isLst_none, isLst_bool, isLst_int, isLst_str, isLst_list, isLst_tuple, isTupI, sumD_lst, lenD_tupI, sumD_tupI, lenD_drD, eqD_int, neD_int, ixD_tup, ixD_lst, at0, at1, at2, at3, List.length_cons, List.length_nil, List.map_cons, List.map_nil, List.cons_append, List.nil_append, List.replicate, List.getElem?_cons_zero, List.getElem?_cons_succ, List.getElem?_nil, List.set_cons_zero, List.set_cons_succ, Nat.reduceAdd, Nat.reduceSub, Nat.reduceLeDiff, Nat.reduceEqDiff, if_true, if_false, beq_self_eq_true, decide_true, eq_self, reduceCtorEq, Bool.not_true, Bool.not_false, Bool.true_and, Bool.and_true, Bool.false_and, Bool.and_false, Bool.or_true, Bool.true_or, Bool.or_false, Bool.false_or, Bool.false_eq_true, Option.map_some, Option.map_none, Option.bind_some, Option.bind_none, neD_fr1]; rfl) ?_
    refine seq_eq (by simp only [runP, runS, seqS, nextS_ap, asgS, parS, ifS, retS, retN, dropS, raiseS, neverS, contS_ap, breakS_ap, frzS, appS, extS, tgN, tgM, tgs, tgT, tgS, vE, cE, op2, op1, aN, aC, tB', andT, orT, notT, andV, orV, notV, ifE, tupE, lstE, caE, chE, callE, callS, isiE_ap, oN, oS, slE, anyI, rngI, zipI, forS, yesT, cgN, cgT, cgs, whileS, rawL, rawOf, rawL_nil, datL, datL_nil, Rv.dat, GD.toBool, toBool_bool, intOf, intOf_int, ofO, ofO_some, ofO_none, Re.ok_bind, Re.ex_bind, Re.no_bind, Re.pure_eq, addD_int, addD_tup, addD_lst, addD_str, subD_int, negD_int, ltD_int, leD_int, gtD_int, geD_int, isD_none, isD_bool, isNotD_none, isNotD_bool, isNoneD_none, isNoneD_bool, isNoneD_int, isNoneD_str, isNoneD_list, isNoneD_tuple, isNoneD_dict, lenD_lst, lenD_tup, absD_int, intD_int, intD_bool, tupleD_lst, tupleD_tup, listD_lst, listD_tup, itemsOf_lst, itemsOf_tup, zipD_lst, zipD_tup, maxD_int, minD_int, slD_tup, slD_lst, pow_10_18, itemsOf_tupI, isi_tuple, isi_int, isi_bool, isi_str, isi_list, isTup_none, isTup_bool, isTup_int, isTup_str, isTup_list, isTup_tuple, isTup_dict, isWB_none, isWB_bool, isWB_int, isWB_str, isWB_list, isWB_tuple, isWB_dict, isB_none, isB_bool, isB_int, isB_str, isB_list, isB_tuple, isB_dict, isStr_none, isStr_bool, isStr_int, isStr_str, isStr_list, isStr_tuple, isStr_dict, isLst_none, isLst_bool, isLst_int, isLst_str, isLst_list, isLst_tuple, isTupI, sumD_lst, lenD_tupI, sumD_tupI, lenD_drD, eqD_int, neD_int, ixD_tup, ixD_lst, at0, at1, at2, at3, List.length_cons, List.length_nil, List.map_cons, List.map_nil, List.cons_append, List.nil_append, List.replicate, List.getElem?_cons_zero, List.getElem?_cons_succ, List.getElem?_nil, List.set_cons_zero, List.set_cons_succ, Nat.reduceAdd, Nat.reduceSub, Nat.reduceLeDiff, Nat.reduceEqDiff, if_true, if_false, beq_self_eq_true, decide_true, eq_self, reduceCtorEq, Bool.not_true, Bool.not_false, Bool.true_and, Bool.and_true, Bool.false_and, Bool.and_false, Bool.or_true, Bool.true_or, Bool.or_false, Bool.false_or, Bool.false_eq_true, Option.map_some, Option.map_none, Option.bind_some, Option.bind_none, e5, hxs]; rfl) ?_
    refine seq_eq (by simp only [runP, runS, seqS, nextS_ap, asgS, parS, ifS, retS, retN, dropS, raiseS, neverS, contS_ap, breakS_ap, frzS, appS, extS, tgN, tgM, tgs, tgT, tgS, vE, cE, op2, op1, aN, aC, tB', andT, orT, notT, andV, orV, notV, ifE, tupE, lstE, caE, chE, callE, callS, isiE_ap, oN, oS, slE, anyI, rngI, zipI, forS, yesT, cgN, cgT, cgs, whileS, rawL, rawOf, rawL_nil, datL, datL_nil, Rv.dat, GD.toBool, toBool_bool, intOf, intOf_int, ofO, ofO_some, ofO_none, Re.ok_bind, Re.ex_bind, Re.no_bind, Re.pure_eq, addD_int, addD_tup, addD_lst, addD_str, subD_int, negD_int, ltD_int, leD_int, gtD_int, geD_int, isD_none, isD_bool, isNotD_none, isNotD_bool, isNoneD_none, isNoneD_bool, isNoneD_int, isNoneD_str, isNoneD_list, isNoneD_tuple, isNoneD_dict, lenD_lst, lenD_tup, absD_int, intD_int, intD_bool, tupleD_lst, tupleD_tup, listD_lst, listD_tup, itemsOf_lst, itemsOf_tup, zipD_lst, zipD_tup, maxD_int, minD_int, slD_tup, slD_lst, pow_10_18, itemsOf_tupI, isi_tuple, isi_int, isi_bool, isi_str, isi_list, isTup_none, isTup_bool, isTup_int, isTup_str, isTup_list, isTup_tuple, isTup_dict, isWB_none, isWB_bool, isWB_int, isWB_str, isWB_list, isWB_tuple, isWB_dict, isB_none, isB_bool, isB_int, isB_str, isB_list, isB_tuple, isB_dict, isStr_none, isStr_bool, isStr_int, isStr_str, isStr_list, isStr_tuple, isStr_dict, isLst_none, isLst_bool, isLst_int, isLst_str, isLst_list, isLst_tuple, isTupI, sumD_lst, lenD_tupI, sumD_tupI, lenD_drD, eqD_int, neD_int, ixD_tup, ixD_lst, at0, at1, at2, at3, List.length_cons, List.length_nil, List.map_cons, List.map_nil, List.cons_append, List.nil_append, List.replicate, List.getElem?_cons_zero, List.getElem?_cons_succ, List.getElem?_nil, List.set_cons_zero, List.set_cons_succ, Nat.reduceAdd, Nat.reduceSub, Nat.reduceLeDiff, Nat.reduceEqDiff, if_true, if_false, beq_self_eq_true, decide_true, eq_self, reduceCtorEq, Bool.not_true, Bool.not_false, Bool.true_and, Bool.and_true, Bool.false_and, Bool.and_false, Bool.or_true, Bool.true_or, Bool.or_false, Bool.false_or, Bool.false_eq_true, Option.map_some, Option.map_none, Option.bind_some, Option.bind_none, f1]; rfl) ?_
    refine seq_ct ?_
    simp only [runP, runS, seqS, nextS_ap, asgS, parS, ifS, retS, retN, dropS, raiseS, neverS, contS_ap, breakS_ap, frzS, appS, extS, tgN, tgM, tgs, tgT, tgS, vE, cE, op2, op1, aN, aC, tB', andT, orT, notT, andV, orV, notV, ifE, tupE, lstE, caE, chE, callE, callS, isiE_ap, oN, oS, slE, anyI, rngI, zipI, forS, yesT, cgN, cgT, cgs, whileS, rawL, rawOf, rawL_nil, datL, datL_nil, Rv.dat, GD.toBool, toBool_bool, intOf, intOf_int, ofO, ofO_some, ofO_none, Re.ok_bind, Re.ex_bind, Re.no_bind, Re.pure_eq, addD_int, addD_tup, addD_lst, addD_str, subD_int, negD_int, ltD_int, leD_int, gtD_int, geD_int, isD_none, isD_bool, isNotD_none, isNotD_bool, isNoneD_none, isNoneD_bool, isNoneD_int, isNoneD_str, isNoneD_list, isNoneD_tuple, isNoneD_dict, lenD_lst, lenD_tup, absD_int, intD_int, intD_bool, tupleD_lst, tupleD_tup, listD_lst, listD_tup, itemsOf_lst, itemsOf_tup, zipD_lst, zipD_tup, maxD_int, minD_int, slD_tup, slD_lst, pow_10_18, itemsOf_tupI, isi_tuple, isi_int, isi_bool, isi_str, isi_list, isTup_none, isTup_bool, isTup_int, isTup_str, isTup_list, isTup_tuple, isTup_dict, isWB_none, isWB_bool, isWB_int, isWB_str, isWB_list, isWB_tuple, isWB_dict, isB_none, isB_bool, isB_int, isB_str, isB_list, isB_tuple, isB_dict, isStr_none, isStr_bool, isStr_int, isStr_str, isStr_list, isStr_tuple, isStr_dict, isLst_none, isLst_bool, isLst_int, isLst_str, isLst_list, isLst_tuple, isTupI, sumD_lst, lenD_tupI, sumD_tupI, lenD_drD, eqD_int, neD_int, ixD_tup, ixD_lst, at0, at1, at2, at3, List.length_cons, List.length_nil, List.map_cons, List.map_nil, List.cons_append, List.nil_append, List.replicate, List.getElem?_cons_zero, List.getElem?_cons_succ, List.getElem?_nil, List.set_cons_zero, List.set_cons_succ, Nat.reduceAdd, Nat.reduceSub, Nat.reduceLeDiff, Nat.reduceEqDiff, if_true, if_false, beq_self_eq_true, decide_true, eq_self, reduceCtorEq, Bool.not_true, Bool.not_false, Bool.true_and, Bool.and_true, Bool.false_and, Bool.and_false, Bool.or_true, Bool.true_or, Bool.or_false, Bool.false_or, Bool.false_eq_true, Option.map_some, Option.map_none, Option.bind_some, Option.bind_none, ixD_dr0, ix0, neD_fr0, f2]
  · have z1 : sh u k0 ≠ 0 := fun h => z ((sh_zero hu k0).mp h)
    have hpu := put_urn hr hu hl hk0
    have hpl := put_len hr hl hk0
    have hkr : ∀ j ∈ kr, j < n := fun j hj => hkn j (by simp [hj])
    have e6 := after_ev hu (by decide) hr (by decide) hk0 hl z
    have e7 := chance_ev hu20 (by decide) (k := k0) (by omega)
    have e8 := chance_of_ev hpu (by decide) hr (by decide) (by decide) hpl hkr (by omega)
    have e9 := urn_behind_ev hpu (by decide) hr (by decide) (by decide) hpl hkr (by omega)
    have e10 := lby_ev (sh_sm hu (by decide) k0) (cq_sm hr (by decide) kr (put u r k0) (7 + 2) hpu hpl hkr (by omega)) (by omega) (by omega) (by omega)
    rw [← cq_cons] at e10
    have z2 : behD (cq u r (k0 :: kr)) (bh u r (k0 :: kr)) = behD (cq (put u r k0) r kr) (bh (put u r k0) r kr) := by
      rw [bh_cons, cq_cons]
      by_cases y : cq (put u r k0) r kr = 0
      · rw [y, Rat.mul_zero]
      · rw [behD_pos y, behD_pos]
        intro h
        rcases Rat.mul_eq_zero.mp h with h | h
        · exact z1 h
        · exact y h
    rw [show (if cq (put u r k0) r kr = 0 then PyData.none else tupI (bh (put u r k0) r kr)) = behD (cq (put u r k0) r kr) (bh (put u r k0) r kr) from rfl, ← z2] at e9
    have z3 : neD (behD (cq u r (k0 :: kr)) (bh u r (k0 :: kr))) (behD (cq u r (k0 :: kr)) (bh u r (k0 :: kr))) = some (.da (.bool false)) := by
      by_cases y : cq u r (k0 :: kr) = 0
      · rw [y, behD_zero, neD_none]
      · rw [behD_pos y, neD_tupI_self]
    have z4 : neD (frD (cq u r (k0 :: kr))) (frD (cq u r (k0 :: kr))) = some (.da (.bool false)) := by rw [neD_fr]; simp
    have n4 : n ≤ 4 := by omega
    have l0 : ∀ ks ∈ ([[]] : List (List Nat)), ks.length = 0 ∧ ∀ k ∈ ks, k < n := by simp
    have l1 : ∀ ks ∈ longer n [[]], ks.length = 1 ∧ ∀ k ∈ ks, k < n := longer_all l0
    have l2 : ∀ ks ∈ longer n (longer n [[]]), ks.length = 2 ∧ ∀ k ∈ ks, k < n := longer_all l1
    have l3 : ∀ ks ∈ longer n (longer n (longer n [[]])), ks.length = 3 ∧ ∀ k ∈ ks, k < n := longer_all l2
    have nn : n * n * n ≤ 64 := by
      have a1 := Nat.mul_le_mul n4 n4
      have a2 := Nat.mul_le_mul a1 n4
      exact a2
    have nn2 : n * n ≤ 16 := Nat.mul_le_mul n4 n4
    have le3 : (longer n (longer n (longer n [[]]))).length ≤ 64 := by rw [longer_len, longer_len, longer_len, List.length_singleton, Nat.one_mul]; exact nn
    have m1 : m__law_longer [.list [.tuple []], .int n] = .ok (.fl ((longer n [[]]).map drD)) := longer_ev n n4 [[]] (fun ks h => by have := (l0 ks h).1; omega) (by simp; omega)
    have m2 := longer_ev n n4 (longer n [[]]) (fun ks h => by have := (l1 ks h).1; omega) (by rw [longer_len, List.length_singleton, Nat.one_mul]; omega)
    have m3 := longer_ev n n4 (longer n (longer n [[]])) (fun ks h => by have := (l2 ks h).1; omega) (by rw [longer_len, longer_len, List.length_singleton, Nat.one_mul]; omega)
    have r3 : rngD [.da (.int 3)] = some [.int 0, .int 1, .int 2] := rfl
    have su : sumQ ((longer n (longer n (longer n [[]]))).map (cq u r)) = 1 := by
      rw [longer_sum hr hu hl l2, longer_sum hr hu hl l1, longer_sum hr hu hl l0]
      simp [Rat.add_zero]
    obtain ⟨s13, m4⟩ := every_loop hu hr hl (x0 := .da (scrD ns)) (x1 := .da (.int k)) (x2 := .ml true d4) (x3 := .da (.int n)) (x7 := s7) (x8 := .da (.int 2)) (x9 := .da (drD (k0 :: kr))) (x10 := .da (frD (cq u r (k0 :: kr)))) (x11 := .da (tupI (put u r k0))) (x12 := .da (.list ((longer n (longer n (longer n [[]]))).map drD))) (x14 := x14) (x15 := .un) (x16 := y16) (longer n (longer n (longer n [[]]))) 0 0 x13 l3 (by omega) (Sm'.zero.mono (by omega))
    rw [su, Rat.zero_add, frD_zero] at m4
    have hz : Rule n 0 (List.replicate n (List.replicate n 0)) := ⟨by simp, fun l hl => by
      have := List.eq_of_mem_replicate hl
      subst this
      exact ⟨by simp, fun x hx => by have := List.eq_of_mem_replicate hx; subst this; decide⟩⟩
    have hzD : PyData.tuple (List.replicate n (PyData.tuple (List.replicate n (.int 0)))) = ruleD (List.replicate n (List.replicate n 0)) := by
      unfold ruleD tupI
      simp [List.map_replicate]
    have m5 := urn_behind_ev hu (by decide) hz (by decide) (by decide) hl (ks := [k0]) (by simpa using hk0) (by simp)
    have hz0 : bh u (List.replicate n (List.replicate n 0)) [k0] = u := by
      rw [bh_cons, bh_nil]
      unfold put
      have : (List.replicate n (List.replicate n (0 : Int))).getD k0 [] = List.replicate n 0 := by simp [List.getD, List.getElem?_replicate, hk0]
      rw [this, zipadd_zero hl]
    have hz1 : ¬ cq u (List.replicate n (List.replicate n 0)) [k0] = 0 := by
      rw [cq_cons, cq_nil, Rat.mul_one]
      exact z1
    rw [hz0, if_neg hz1] at m5
    refine ⟨[.da (scrD ns), .da (.int k), .ml true d4, .da (.int n), .da (tupI u), .da (ruleD r), .da (frD 1), s7, .da (.int 2), .da (drD (k0 :: kr)), .da (frD (cq u r (k0 :: kr))), .da (tupI (put u r k0)), .da (.list ((longer n (longer n (longer n [[]]))).map drD)), s13, .da (ruleD (List.replicate n (List.replicate n 0))), .un, y16], .inl ?_, _, _, _, _, _, _, _, _, _, _, _, _, _, _, _, _, rfl⟩
    refine seq_eq (by simp only [runP, runS, seqS, nextS_ap, asgS, parS, ifS, retS, retN, dropS, raiseS, neverS, contS_ap, breakS_ap, frzS, appS, extS, tgN, tgM, tgs, tgT, tgS, vE, cE, op2, op1, aN, aC, tB', andT, orT, notT, andV, orV, notV, ifE, tupE, lstE, caE, chE, callE, callS, isiE_ap, oN, oS, slE, anyI, rngI, zipI, forS, yesT, cgN, cgT, cgs, whileS, rawL, rawOf, rawL_nil, datL, datL_nil, Rv.dat, GD.toBool, toBool_bool, intOf, intOf_int, ofO, ofO_some, ofO_none, Re.ok_bind, Re.ex_bind, Re.no_bind, Re.pure_eq, addD_int, addD_tup, addD_lst, addD_str, subD_int, negD_int, ltD_int, leD_int, gtD_int, geD_int, isD_none, isD_bool, isNotD_none, isNotD_bool, isNoneD_none, isNoneD_bool, isNoneD_int, isNoneD_str, isNoneD_list, isNoneD_tuple, isNoneD_dict, lenD_lst, lenD_tup, absD_int, intD_int, intD_bool, tupleD_lst, tupleD_tup, listD_lst, listD_tup, itemsOf_lst, itemsOf_tup, zipD_lst, zipD_tup, maxD_int, minD_int, slD_tup, slD_lst, pow_10_18, itemsOf_tupI, isi_tuple, isi_int, isi_bool, isi_str, isi_list, isTup_none, isTup_bool, isTup_int, isTup_str, isTup_list, isTup_tuple, isTup_dict, isWB_none, isWB_bool, isWB_int, isWB_str, isWB_list, isWB_tuple, isWB_dict, isB_none, isB_bool, isB_int, isB_str, isB_list, isB_tuple, isB_dict, isStr_none, isStr_bool, isStr_int, isStr_str, isStr_list, isStr_tuple, isStr_dict, isLst_none, isLst_bool, isLst_int, isLst_str, isLst_list, isLst_tuple, isTupI, sumD_lst, lenD_tupI, sumD_tupI, lenD_drD, eqD_int, neD_int, ixD_tup, ixD_lst, at0, at1, at2, at3, List.length_cons, List.length_nil, List.map_cons, List.map_nil, List.cons_append, List.nil_append, List.replicate, List.getElem?_cons_zero, List.getElem?_cons_succ, List.getElem?_nil, List.set_cons_zero, List.set_cons_succ, Nat.reduceAdd, Nat.reduceSub, Nat.reduceLeDiff, Nat.reduceEqDiff, if_true, if_false, beq_self_eq_true, decide_true, eq_self, reduceCtorEq, Bool.not_true, Bool.not_false, Bool.true_and, Bool.and_true, Bool.false_and, Bool.and_false, Bool.or_true, Bool.true_or, Bool.or_false, Bool.false_or, Bool.false_eq_true, Option.map_some, Option.map_none, Option.bind_some, Option.bind_none, e0]; rfl) ?_
    refine seq_eq (by simp only [runP, runS, seqS, nextS_ap, asgS, parS, ifS, retS, retN, dropS, raiseS, neverS, contS_ap, breakS_ap, frzS, appS, extS, tgN, tgM, tgs, tgT, tgS, vE, cE, op2, op1, aN, aC, tB', andT, orT, notT, andV, orV, notV, ifE, tupE, lstE, caE, chE, callE, callS, isiE_ap, oN, oS, slE, anyI, rngI, zipI, forS, yesT, cgN, cgT, cgs, whileS, rawL, rawOf, rawL_nil, datL, datL_nil, Rv.dat, GD.toBool, toBool_bool, intOf, intOf_int, ofO, ofO_some, ofO_none, Re.ok_bind, Re.ex_bind, Re.no_bind, Re.pure_eq, addD_int, addD_tup, addD_lst, addD_str, subD_int, negD_int, ltD_int, leD_int, gtD_int, geD_int, isD_none, isD_bool, isNotD_none, isNotD_bool, isNoneD_none, isNoneD_bool, isNoneD_int, isNoneD_str, isNoneD_list, isNoneD_tuple, isNoneD_dict, lenD_lst, lenD_tup, absD_int, intD_int, intD_bool, tupleD_lst, tupleD_tup, listD_lst, listD_tup, itemsOf_lst, itemsOf_tup, zipD_lst, zipD_tup, maxD_int, minD_int, slD_tup, slD_lst, pow_10_18, itemsOf_tupI, isi_tuple, isi_int, isi_bool, isi_str, isi_list, isTup_none, isTup_bool, isTup_int, isTup_str, isTup_list, isTup_tuple, isTup_dict, isWB_none, isWB_bool, isWB_int, isWB_str, isWB_list, isWB_tuple, isWB_dict, isB_none, isB_bool, isB_int, isB_str, isB_list, isB_tuple, isB_dict, isStr_none, isStr_bool, isStr_int, isStr_str, isStr_list, isStr_tuple, isStr_dict, isLst_none, isLst_bool, isLst_int, isLst_str, isLst_list, isLst_tuple, isTupI, sumD_lst, lenD_tupI, sumD_tupI, lenD_drD, eqD_int, neD_int, ixD_tup, ixD_lst, at0, at1, at2, at3, List.length_cons, List.length_nil, List.map_cons, List.map_nil, List.cons_append, List.nil_append, List.replicate, List.getElem?_cons_zero, List.getElem?_cons_succ, List.getElem?_nil, List.set_cons_zero, List.set_cons_succ, Nat.reduceAdd, Nat.reduceSub, Nat.reduceLeDiff, Nat.reduceEqDiff, if_true, if_false, beq_self_eq_true, decide_true, eq_self, reduceCtorEq, Bool.not_true, Bool.not_false, Bool.true_and, Bool.and_true, Bool.false_and, Bool.and_false, Bool.or_true, Bool.true_or, Bool.or_false, Bool.false_or, Bool.false_eq_true, Option.map_some, Option.map_none, Option.bind_some, Option.bind_none, e1, hn]; rfl) ?_
    refine seq_eq (by simp only [runP, runS, seqS, nextS_ap, asgS, parS, ifS, retS, retN, dropS, raiseS, neverS, contS_ap, breakS_ap, frzS, appS, extS, tgN, tgM, tgs, tgT, tgS, vE, cE, op2, op1, aN, aC, tB', andT, orT, notT, andV, orV, notV, ifE, tupE, lstE, caE, chE, callE, callS, isiE_ap, oN, oS, slE, anyI, rngI, zipI, forS, yesT, cgN, cgT, cgs, whileS, rawL, rawOf, rawL_nil, datL, datL_nil, Rv.dat, GD.toBool, toBool_bool, intOf, intOf_int, ofO, ofO_some, ofO_none, Re.ok_bind, Re.ex_bind, Re.no_bind, Re.pure_eq, addD_int, addD_tup, addD_lst, addD_str, subD_int, negD_int, ltD_int, leD_int, gtD_int, geD_int, isD_none, isD_bool, isNotD_none, isNotD_bool, isNoneD_none, isNoneD_bool, isNoneD_int, isNoneD_str, isNoneD_list, isNoneD_tuple, isNoneD_dict, lenD_lst, lenD_tup, absD_int, intD_int, intD_bool, tupleD_lst, tupleD_tup, listD_lst, listD_tup, itemsOf_lst, itemsOf_tup, zipD_lst, zipD_tup, maxD_int, minD_int, slD_tup, slD_lst, pow_10_18, itemsOf_tupI, isi_tuple, isi_int, isi_bool, isi_str, isi_list, isTup_none, isTup_bool, isTup_int, isTup_str, isTup_list, isTup_tuple, isTup_dict, isWB_none, isWB_bool, isWB_int, isWB_str, isWB_list, isWB_tuple, isWB_dict, isB_none, isB_bool, isB_int, isB_str, isB_list, isB_tuple, isB_dict, isStr_none, isStr_bool, isStr_int, isStr_str, isStr_list, isStr_tuple, isStr_dict, isLst_none, isLst_bool, isLst_int, isLst_str, isLst_list, isLst_tuple, isTupI, sumD_lst, lenD_tupI, sumD_tupI, lenD_drD, eqD_int, neD_int, ixD_tup, ixD_lst, at0, at1, at2, at3, List.length_cons, List.length_nil, List.map_cons, List.map_nil, List.cons_append, List.nil_append, List.replicate, List.getElem?_cons_zero, List.getElem?_cons_succ, List.getElem?_nil, List.set_cons_zero, List.set_cons_succ, Nat.reduceAdd, Nat.reduceSub, Nat.reduceLeDiff, Nat.reduceEqDiff, if_true, if_false, beq_self_eq_true, decide_true, eq_self, reduceCtorEq, Bool.not_true, Bool.not_false, Bool.true_and, Bool.and_true, Bool.false_and, Bool.and_false, Bool.or_true, Bool.true_or, Bool.or_false, Bool.false_or, Bool.false_eq_true, Option.map_some, Option.map_none, Option.bind_some, Option.bind_none, e2]; rfl) ?_
    refine seq_eq (by simp only [runP, runS, seqS, nextS_ap, asgS, parS, ifS, retS, retN, dropS, raiseS, neverS, contS_ap, breakS_ap, frzS, appS, extS, tgN, tgM, tgs, tgT, tgS, vE, cE, op2, op1, aN, aC, tB', andT, orT, notT, andV, orV, notV, ifE, tupE, lstE, caE, chE, callE, callS, isiE_ap, oN, oS, slE, anyI, rngI, zipI, forS, yesT, cgN, cgT, cgs, whileS, rawL, rawOf, rawL_nil, datL, datL_nil, Rv.dat, GD.toBool, toBool_bool, intOf, intOf_int, ofO, ofO_some, ofO_none, Re.ok_bind, Re.ex_bind, Re.no_bind, Re.pure_eq, addD_int, addD_tup, addD_lst, addD_str, subD_int, negD_int, ltD_int, leD_int, gtD_int, geD_int, isD_none, isD_bool, isNotD_none, isNotD_bool, isNoneD_none, isNoneD_bool, isNoneD_int, isNoneD_str, isNoneD_list, isNoneD_tuple, isNoneD_dict, lenD_lst, lenD_tup, absD_int, intD_int, intD_bool, tupleD_lst, tupleD_tup, listD_lst, listD_tup, itemsOf_lst, itemsOf_tup, zipD_lst, zipD_tup, maxD_int, minD_int, slD_tup, slD_lst, pow_10_18, itemsOf_tupI, isi_tuple, isi_int, isi_bool, isi_str, isi_list, isTup_none, isTup_bool, isTup_int, isTup_str, isTup_list, isTup_tuple, isTup_dict, isWB_none, isWB_bool, isWB_int, isWB_str, isWB_list, isWB_tuple, isWB_dict, isB_none, isB_bool, isB_int, isB_str, isB_list, isB_tuple, isB_dict, isStr_none, isStr_bool, isStr_int, isStr_str, isStr_list, isStr_tuple, isStr_dict, isLst_none, isLst_bool, isLst_int, isLst_str, isLst_list, isLst_tuple, isTupI, sumD_lst, lenD_tupI, sumD_tupI, lenD_drD, eqD_int, neD_int, ixD_tup, ixD_lst, at0, at1, at2, at3, List.length_cons, List.length_nil, List.map_cons, List.map_nil, List.cons_append, List.nil_append, List.replicate, List.getElem?_cons_zero, List.getElem?_cons_succ, List.getElem?_nil, List.set_cons_zero, List.set_cons_succ, Nat.reduceAdd, Nat.reduceSub, Nat.reduceLeDiff, Nat.reduceEqDiff, if_true, if_false, beq_self_eq_true, decide_true, eq_self, reduceCtorEq, Bool.not_true, Bool.not_false, Bool.true_and, Bool.and_true, Bool.false_and, Bool.and_false, Bool.or_true, Bool.true_or, Bool.or_false, Bool.false_or, Bool.false_eq_true, Option.map_some, Option.map_none, Option.bind_some, Option.bind_none, e3, rtup]; rfl) ?_
    refine seq_eq (by simp only [runP, runS, seqS, nextS_ap, asgS, parS, ifS, retS, retN, dropS, raiseS, neverS, contS_ap, breakS_ap, frzS, appS, extS, tgN, tgM, tgs, tgT, tgS, vE, cE, op2, op1, aN, aC, tB', andT, orT, notT, andV, orV, notV, ifE, tupE, lstE, caE, chE, callE, callS, isiE_ap, oN, oS, slE, anyI, rngI, zipI, forS, yesT, cgN, cgT, cgs, whileS, rawL, rawOf, rawL_nil, datL, datL_nil, Rv.dat, GD.toBool, toBool_bool, intOf, intOf_int, ofO, ofO_some, ofO_none, Re.ok_bind, Re.ex_bind, Re.no_bind, Re.pure_eq, addD_int, addD_tup, addD_lst, addD_str, subD_int, negD_int, ltD_int, leD_int, gtD_int, geD_int, isD_none, isD_bool, isNotD_none, isNotD_bool, isNoneD_none, isNoneD_bool, isNoneD_int, isNoneD_str, isNoneD_list, isNoneD_tuple, isNoneD_dict, lenD_lst, lenD_tup, absD_int, intD_int, intD_bool, tupleD_lst, tupleD_tup, listD_lst, listD_tup, itemsOf_lst, itemsOf_tup, zipD_lst, zipD_tup, maxD_int, minD_int, slD_tup, slD_lst, pow_10_18, itemsOf_tupI, isi_tuple, isi_int, isi_bool, isi_str, isi_list, isTup_none, isTup_bool, isTup_int, isTup_str, isTup_list, isTup_tuple, isTup_dict, isWB_none, isWB_bool, isWB_int, isWB_str, isWB_list, isWB_tuple, isWB_dict, isB_none, isB_bool, isB_int, isB_str, isB_list, isB_tuple, isB_dict, isStr_none, isStr_bool, isStr_int, isStr_str, isStr_list, isStr_tuple, isStr_dict, isLst_none, isLst_bool, isLst_int, isLst_str, isLst_list, isLst_tuple, isTupI, sumD_lst, lenD_tupI, sumD_tupI, lenD_drD, eqD_int, neD_int, ixD_tup, ixD_lst, at0, at1, at2, at3, List.length_cons, List.length_nil, List.map_cons, List.map_nil, List.cons_append, List.nil_append, List.replicate, List.getElem?_cons_zero, List.getElem?_cons_succ, List.getElem?_nil, List.set_cons_zero, List.set_cons_succ, Nat.reduceAdd, Nat.reduceSub, Nat.reduceLeDiff, Nat.reduceEqDiff, if_true, if_false, beq_self_eq_true, decide_true, eq_self, reduceCtorEq, Bool.not_true, Bool.not_false, Bool.true_and, Bool.and_true, Bool.false_and, Bool.and_false, Bool.or_true, Bool.true_or, Bool.or_false, Bool.false_or, Bool.false_eq_true, Option.map_some, Option.map_none, Option.bind_some, Option.bind_none, c1, c2]; rfl) ?_
    refine seq_eq (by simp only [runP, runS, seqS, nextS_ap, asgS, parS, ifS, retS, retN, dropS, raiseS, neverS, contS_ap, breakS_ap, frzS, appS, extS, tgN, tgM, tgs, tgT, tgS, vE, cE, op2, op1, aN, aC, tB', andT, orT, notT, andV, orV, notV, ifE, tupE, lstE, caE, chE, callE, callS, isiE_ap, oN, oS, slE, anyI, rngI, zipI, forS, yesT, cgN, cgT, cgs, whileS, rawL, rawOf, rawL_nil, datL, datL_nil, Rv.dat, GD.toBool, toBool_bool, intOf, intOf_int, ofO, ofO_some, ofO_none, Re.ok_bind, Re.ex_bind, Re.no_bind, Re.pure_eq, addD_int, addD_tup, addD_lst, addD_str, subD_int, negD_int, ltD_int, leD_int, gtD_int, geD_int, isD_none, isD_bool, isNotD_none, isNotD_bool, isNoneD_none, isNoneD_bool, isNoneD_int, isNoneD_str, isNoneD_list, isNoneD_tuple, isNoneD_dict, lenD_lst, lenD_tup, absD_int, intD_int, intD_bool, tupleD_lst, tupleD_tup, listD_lst, listD_tup, itemsOf_lst, itemsOf_tup, zipD_lst, zipD_tup, maxD_int, minD_int, slD_tup, slD_lst, pow_10_18, itemsOf_tupI, isi_tuple, isi_int, isi_bool, isi_str, isi_list, isTup_none, isTup_bool, isTup_int, isTup_str, isTup_list, isTup_tuple, isTup_dict, isWB_none, isWB_bool, isWB_int, isWB_str, isWB_list, isWB_tuple, isWB_dict, isB_none, isB_bool, isB_int, isB_str, isB_list, isB_tuple, isB_dict, isStr_none, isStr_bool, isStr_int, isStr_str, isStr_list, isStr_tuple, isStr_dict, isLst_none, isLst_bool, isLst_int, isLst_str, isLst_list, isLst_tuple, isTupI, sumD_lst, lenD_tupI, sumD_tupI, lenD_drD, eqD_int, neD_int, ixD_tup, ixD_lst, at0, at1, at2, at3, List.length_cons, List.length_nil, List.map_cons, List.map_nil, List.cons_append, List.nil_append, List.replicate, List.getElem?_cons_zero, List.getElem?_cons_succ, List.getElem?_nil, List.set_cons_zero, List.set_cons_succ, Nat.reduceAdd, Nat.reduceSub, Nat.reduceLeDiff, Nat.reduceEqDiff, if_true, if_false, beq_self_eq_true, decide_true, eq_self, reduceCtorEq, Bool.not_true, Bool.not_false, Bool.true_and, Bool.and_true, Bool.false_and, Bool.and_false, Bool.or_true, Bool.true_or, Bool.or_false, Bool.false_or, Bool.false_eq_true, Option.map_some, Option.map_none, Option.bind_some, Option.bind_none, if_pos (show (2 : Nat) ≤ 1000000 by decide)]; rfl) ?_
    refine seq_eq (by simp only [runP, runS, seqS, nextS_ap, asgS, parS, ifS, retS, retN, dropS, raiseS, neverS, contS_ap, breakS_ap, frzS, appS, extS, tgN, tgM, tgs, tgT, tgS, vE, cE, op2, op1, aN, aC, tB', andT, orT, notT, andV, orV, notV, ifE, tupE, lstE, caE, chE, callE, callS, isiE_ap, oN, oS, slE, anyI, rngI, zipI, forS, yesT, cgN, cgT, cgs, whileS, rawL, rawOf, rawL_nil, datL, datL_nil, Rv.dat, GD.toBool, toBool_bool, intOf, intOf_int, ofO, ofO_some, ofO_none, Re.ok_bind, Re.ex_bind, Re.no_bind, Re.pure_eq, addD_int, addD_tup, addD_lst, addD_str, subD_int, negD_int, ltD_int, leD_int, gtD_int, geD_int, isD_none, isD_bool, isNotD_none, isNotD_bool, isNoneD_none, isNoneD_bool, isNoneD_int, isNoneD_str, isNoneD_list, isNoneD_tuple, isNoneD_dict, lenD_lst, lenD_tup, absD_int, intD_int, intD_bool, tupleD_lst, tupleD_tup, listD_lst, listD_tup, itemsOf_lst, itemsOf_tup, zipD_lst, zipD_tup, maxD_int, minD_int, slD_tup, slD_lst, pow_10_18, itemsOf_tupI, isi_tuple, isi_int, isi_bool, isi_str, isi_list, isTup_none, isTup_bool, isTup_int, isTup_str, isTup_list, isTup_tuple, isTup_dict, isWB_none, isWB_bool, isWB_int, isWB_str, isWB_list, isWB_tuple, isWB_dict, isB_none, isB_bool, isB_int, isB_str, isB_list, isB_tuple, isB_dict, isStr_none, isStr_bool, isStr_int, isStr_str, isStr_list, isStr_tuple, isStr_dict, isLst_none, isLst_bool, isLst_int, isLst_str, isLst_list, isLst_tuple, isTupI, sumD_lst, lenD_tupI, sumD_tupI, lenD_drD, eqD_int, neD_int, ixD_tup, ixD_lst, at0, at1, at2, at3, List.length_cons, List.length_nil, List.map_cons, List.map_nil, List.cons_append, List.nil_append, List.replicate, List.getElem?_cons_zero, List.getElem?_cons_succ, List.getElem?_nil, List.set_cons_zero, List.set_cons_succ, Nat.reduceAdd, Nat.reduceSub, Nat.reduceLeDiff, Nat.reduceEqDiff, if_true, if_false, beq_self_eq_true, decide_true, eq_self, reduceCtorEq, Bool.not_true, Bool.not_false, Bool.true_and, Bool.and_true, Bool.false_and, Bool.and_false, Bool.or_true, Bool.true_or, Bool.or_false, Bool.false_or, Bool.false_eq_true, Option.map_some, Option.map_none, Option.bind_some, Option.bind_none, rng_nat (show n ≤ 1000000 by omega), e4]; rfl) ?_
    refine seq_eq (by simp only [runP, runS, seqS, nextS_ap, asgS, parS, ifS, retS, retN, dropS, raiseS, neverS, contS_ap, breakS_ap, frzS, appS, extS, tgN, tgM, tgs, tgT, tgS, vE, cE, op2, op1, aN, aC, tB', andT, orT, notT, andV, orV, notV, ifE, tupE, lstE, caE, chE, callE, callS, isiE_ap, oN, oS, slE, anyI, rngI, zipI, forS, yesT, cgN, cgT, cgs, whileS, rawL, rawOf, rawL_nil, datL, datL_nil, Rv.dat, GD.toBool, toBool_bool, intOf, intOf_int, ofO, ofO_some, ofO_none, Re.ok_bind, Re.ex_bind, Re.no_bind, Re.pure_eq, addD_int, addD_tup, addD_lst, addD_str, subD_int, negD_int, ltD_int, leD_int, gtD_int, geD_int, isD_none, isD_bool, isNotD_none, isNotD_bool, isNoneD_none, isNoneD_bool, isNoneD_int, isNoneD_str, isNoneD_list, isNoneD_tuple, isNoneD_dict, lenD_lst, lenD_tup, absD_int, intD_int, intD_bool, tupleD_lst, tupleD_tup, listD_lst, listD_tup, itemsOf_lst, itemsOf_tup, zipD_lst, zipD_tup, maxD_int, minD_int, slD_tup, slD_lst, pow_10_18, itemsOf_tupI, isi_tuple, isi_int, isi_bool, isi_str, isi_list, isTup_none, isTup_bool, isTup_int, isTup_str, isTup_list, isTup_tuple, isTup_dict, isWB_none, isWB_bool, isWB_int, isWB_str, isWB_list, isWB_tuple, isWB_dict, isB_none, isB_bool, isB_int, isB_str, isB_list, isB_tuple, isB_dict, isStr_none, isStr_bool, isStr_int, isStr_str, isStr_list, isStr_tuple, isStr_dict, isLst_none, isLst_bool, isLst_int, isLst_str, isLst_list, isLst_tuple, isTupI, sumD_lst, lenD_tupI, sumD_tupI, lenD_drD, eqD_int, neD_int, ixD_tup, ixD_lst, at0, at1, at2, at3, List.length_cons, List.length_nil, List.map_cons, List.map_nil, List.cons_append, List.nil_append, List.replicate, List.getElem?_cons_zero, List.getElem?_cons_succ, List.getElem?_nil, List.set_cons_zero, List.set_cons_succ, Nat.reduceAdd, Nat.reduceSub, Nat.reduceLeDiff, Nat.reduceEqDiff, if_true, if_false, beq_self_eq_true, decide_true, eq_self, reduceCtorEq, Bool.not_true, Bool.not_false, Bool.true_and, Bool.and_true, Bool.false_and, Bool.and_false, Bool.or_true, Bool.true_or, Bool.or_false, Bool.false_or, Bool.false_eq_true, Option.map_some, Option.map_none, Option.bind_some, Option.bind_none, neD_fr1]; rfl) ?_
    refine seq_eq (by simp only [runP, runS, seqS, nextS_ap, asgS, parS, ifS, retS, retN, dropS, raiseS, neverS, contS_ap, breakS_ap, frzS, appS, extS, tgN, tgM, tgs, tgT, tgS, vE, cE, op2, op1, aN, aC, tB', andT, orT, notT, andV, orV, notV, ifE, tupE, lstE, caE, chE, callE, callS, isiE_ap, oN, oS, slE, anyI, rngI, zipI, forS, yesT, cgN, cgT, cgs, whileS, rawL, rawOf, rawL_nil, datL, datL_nil, Rv.dat, GD.toBool, toBool_bool, intOf, intOf_int, ofO, ofO_some, ofO_none, Re.ok_bind, Re.ex_bind, Re.no_bind, Re.pure_eq, addD_int, addD_tup, addD_lst, addD_str, subD_int, negD_int, ltD_int, leD_int, gtD_int, geD_int, isD_none, isD_bool, isNotD_none, isNotD_bool, isNoneD_none, isNoneD_bool, isNoneD_int, isNoneD_str, isNoneD_list, isNoneD_tuple, isNoneD_dict, lenD_lst, lenD_tup, absD_int, intD_int, intD_bool, tupleD_lst, tupleD_tup, listD_lst, listD_tup, itemsOf_lst, itemsOf_tup, zipD_lst, zipD_tup, maxD_int, minD_int, slD_tup, slD_lst, pow_10_18, itemsOf_tupI, isi_tuple, isi_int, isi_bool, isi_str, isi_list, isTup_none, isTup_bool, isTup_int, isTup_str, isTup_list, isTup_tuple, isTup_dict, isWB_none, isWB_bool, isWB_int, isWB_str, isWB_list, isWB_tuple, isWB_dict, isB_none, isB_bool, isB_int, isB_str, isB_list, isB_tuple, isB_dict, isStr_none, isStr_bool, isStr_int, isStr_str, isStr_list, isStr_tuple, isStr_dict, isLst_none, isLst_bool, isLst_int, isLst_str, isLst_list, isLst_tuple, isTupI, sumD_lst, lenD_tupI, sumD_tupI, lenD_drD, eqD_int, neD_int, ixD_tup, ixD_lst, at0, at1, at2, at3, List.length_cons, List.length_nil, List.map_cons, List.map_nil, List.cons_append, List.nil_append, List.replicate, List.getElem?_cons_zero, List.getElem?_cons_succ, List.getElem?_nil, List.set_cons_zero, List.set_cons_succ, Nat.reduceAdd, Nat.reduceSub, Nat.reduceLeDiff, Nat.reduceEqDiff, if_true, if_false, beq_self_eq_true, decide_true, eq_self, reduceCtorEq, Bool.not_true, Bool.not_false, Bool.true_and, Bool.and_true, Bool.false_and, Bool.and_false, Bool.or_true, Bool.true_or, Bool.or_false, Bool.false_or, Bool.false_eq_true, Option.map_some, Option.map_none, Option.bind_some, Option.bind_none, e5, hxs]; rfl) ?_
    refine seq_eq (by simp only [runP, runS, seqS, nextS_ap, asgS, parS, ifS, retS, retN, dropS, raiseS, neverS, contS_ap, breakS_ap, frzS, appS, extS, tgN, tgM, tgs, tgT, tgS, vE, cE, op2, op1, aN, aC, tB', andT, orT, notT, andV, orV, notV, ifE, tupE, lstE, caE, chE, callE, callS, isiE_ap, oN, oS, slE, anyI, rngI, zipI, forS, yesT, cgN, cgT, cgs, whileS, rawL, rawOf, rawL_nil, datL, datL_nil, Rv.dat, GD.toBool, toBool_bool, intOf, intOf_int, ofO, ofO_some, ofO_none, Re.ok_bind, Re.ex_bind, Re.no_bind, Re.pure_eq, addD_int, addD_tup, addD_lst, addD_str, subD_int, negD_int, ltD_int, leD_int, gtD_int, geD_int, isD_none, isD_bool, isNotD_none, isNotD_bool, isNoneD_none, isNoneD_bool, isNoneD_int, isNoneD_str, isNoneD_list, isNoneD_tuple, isNoneD_dict, lenD_lst, lenD_tup, absD_int, intD_int, intD_bool, tupleD_lst, tupleD_tup, listD_lst, listD_tup, itemsOf_lst, itemsOf_tup, zipD_lst, zipD_tup, maxD_int, minD_int, slD_tup, slD_lst, pow_10_18, itemsOf_tupI, isi_tuple, isi_int, isi_bool, isi_str, isi_list, isTup_none, isTup_bool, isTup_int, isTup_str, isTup_list, isTup_tuple, isTup_dict, isWB_none, isWB_bool, isWB_int, isWB_str, isWB_list, isWB_tuple, isWB_dict, isB_none, isB_bool, isB_int, isB_str, isB_list, isB_tuple, isB_dict, isStr_none, isStr_bool, isStr_int, isStr_str, isStr_list, isStr_tuple, isStr_dict, isLst_none, isLst_bool, isLst_int, isLst_str, isLst_list, isLst_tuple, isTupI, sumD_lst, lenD_tupI, sumD_tupI, lenD_drD, eqD_int, neD_int, ixD_tup, ixD_lst, at0, at1, at2, at3, List.length_cons, List.length_nil, List.map_cons, List.map_nil, List.cons_append, List.nil_append, List.replicate, List.getElem?_cons_zero, List.getElem?_cons_succ, List.getElem?_nil, List.set_cons_zero, List.set_cons_succ, Nat.reduceAdd, Nat.reduceSub, Nat.reduceLeDiff, Nat.reduceEqDiff, if_true, if_false, beq_self_eq_true, decide_true, eq_self, reduceCtorEq, Bool.not_true, Bool.not_false, Bool.true_and, Bool.and_true, Bool.false_and, Bool.and_false, Bool.or_true, Bool.true_or, Bool.or_false, Bool.false_or, Bool.false_eq_true, Option.map_some, Option.map_none, Option.bind_some, Option.bind_none, f1]; rfl) ?_
    refine seq_eq (by simp only [runP, runS, seqS, nextS_ap, asgS, parS, ifS, retS, retN, dropS, raiseS, neverS, contS_ap, breakS_ap, frzS, appS, extS, tgN, tgM, tgs, tgT, tgS, vE, cE, op2, op1, aN, aC, tB', andT, orT, notT, andV, orV, notV, ifE, tupE, lstE, caE, chE, callE, callS, isiE_ap, oN, oS, slE, anyI, rngI, zipI, forS, yesT, cgN, cgT, cgs, whileS, rawL, rawOf, rawL_nil, datL, datL_nil, Rv.dat, GD.toBool, toBool_bool, intOf, intOf_int, ofO, ofO_some, ofO_none, Re.ok_bind, Re.ex_bind, Re.no_bind, Re.pure_eq, addD_int, addD_tup, addD_lst, addD_str, subD_int, negD_int, ltD_int, leD_int, gtD_int, geD_int, isD_none, isD_bool, isNotD_none, isNotD_bool, isNoneD_none, isNoneD_bool, isNoneD_int, isNoneD_str, isNoneD_list, isNoneD_tuple, isNoneD_dict, lenD_lst, lenD_tup, absD_int, intD_int, intD_bool, tupleD_lst, tupleD_tup, listD_lst, listD_tup, itemsOf_lst, itemsOf_tup, zipD_lst, zipD_tup, maxD_int, minD_int, slD_tup, slD_lst, pow_10_18, itemsOf_tupI, isi_tuple, isi_int, isi_bool, isi_str, isi_list, isTup_none, isTup_bool, isTup_int, isTup_str, isTup_list, isTup_tuple, isTup_dict, isWB_none, isWB_bool, isWB_int, isWB_str, isWB_list, isWB_tuple, isWB_dict, isB_none, isB_bool, isB_int, isB_str, isB_list, isB_tuple, isB_dict, isStr_none, isStr_bool, isStr_int, isStr_str, isStr_list, isStr_tuple, isStr_dict, isLst_none, isLst_bool, isLst_int, isLst_str, isLst_list, isLst_tuple, isTupI, sumD_lst, lenD_tupI, sumD_tupI, lenD_drD, eqD_int, neD_int, ixD_tup, ixD_lst, at0, at1, at2, at3, List.length_cons, List.length_nil, List.map_cons, List.map_nil, List.cons_append, List.nil_append, List.replicate, List.getElem?_cons_zero, List.getElem?_cons_succ, List.getElem?_nil, List.set_cons_zero, List.set_cons_succ, Nat.reduceAdd, Nat.reduceSub, Nat.reduceLeDiff, Nat.reduceEqDiff, if_true, if_false, beq_self_eq_true, decide_true, eq_self, reduceCtorEq, Bool.not_true, Bool.not_false, Bool.true_and, Bool.and_true, Bool.false_and, Bool.and_false, Bool.or_true, Bool.true_or, Bool.or_false, Bool.false_or, Bool.false_eq_true, Option.map_some, Option.map_none, Option.bind_some, Option.bind_none, ixD_dr0, ix0, beq_eq_false_iff_ne.mpr z]; rfl) ?_
    refine seq_eq (by simp only [runP, runS, seqS, nextS_ap, asgS, parS, ifS, retS, retN, dropS, raiseS, neverS, contS_ap, breakS_ap, frzS, appS, extS, tgN, tgM, tgs, tgT, tgS, vE, cE, op2, op1, aN, aC, tB', andT, orT, notT, andV, orV, notV, ifE, tupE, lstE, caE, chE, callE, callS, isiE_ap, oN, oS, slE, anyI, rngI, zipI, forS, yesT, cgN, cgT, cgs, whileS, rawL, rawOf, rawL_nil, datL, datL_nil, Rv.dat, GD.toBool, toBool_bool, intOf, intOf_int, ofO, ofO_some, ofO_none, Re.ok_bind, Re.ex_bind, Re.no_bind, Re.pure_eq, addD_int, addD_tup, addD_lst, addD_str, subD_int, negD_int, ltD_int, leD_int, gtD_int, geD_int, isD_none, isD_bool, isNotD_none, isNotD_bool, isNoneD_none, isNoneD_bool, isNoneD_int, isNoneD_str, isNoneD_list, isNoneD_tuple, isNoneD_dict, lenD_lst, lenD_tup, absD_int, intD_int, intD_bool, tupleD_lst, tupleD_tup, listD_lst, listD_tup, itemsOf_lst, itemsOf_tup, zipD_lst, zipD_tup, maxD_int, minD_int, slD_tup, slD_lst, pow_10_18, itemsOf_tupI, isi_tuple, isi_int, isi_bool, isi_str, isi_list, isTup_none, isTup_bool, isTup_int, isTup_str, isTup_list, isTup_tuple, isTup_dict, isWB_none, isWB_bool, isWB_int, isWB_str, isWB_list, isWB_tuple, isWB_dict, isB_none, isB_bool, isB_int, isB_str, isB_list, isB_tuple, isB_dict, isStr_none, isStr_bool, isStr_int, isStr_str, isStr_list, isStr_tuple, isStr_dict, isLst_none, isLst_bool, isLst_int, isLst_str, isLst_list, isLst_tuple, isTupI, sumD_lst, lenD_tupI, sumD_tupI, lenD_drD, eqD_int, neD_int, ixD_tup, ixD_lst, at0, at1, at2, at3, List.length_cons, List.length_nil, List.map_cons, List.map_nil, List.cons_append, List.nil_append, List.replicate, List.getElem?_cons_zero, List.getElem?_cons_succ, List.getElem?_nil, List.set_cons_zero, List.set_cons_succ, Nat.reduceAdd, Nat.reduceSub, Nat.reduceLeDiff, Nat.reduceEqDiff, if_true, if_false, beq_self_eq_true, decide_true, eq_self, reduceCtorEq, Bool.not_true, Bool.not_false, Bool.true_and, Bool.and_true, Bool.false_and, Bool.and_false, Bool.or_true, Bool.true_or, Bool.or_false, Bool.false_or, Bool.false_eq_true, Option.map_some, Option.map_none, Option.bind_some, Option.bind_none, ixD_dr0, e6]; rfl) ?_
    refine seq_eq (by simp only [runP, runS, seqS, nextS_ap, asgS, parS, ifS, retS, retN, dropS, raiseS, neverS, contS_ap, breakS_ap, frzS, appS, extS, tgN, tgM, tgs, tgT, tgS, vE, cE, op2, op1, aN, aC, tB', andT, orT, notT, andV, orV, notV, ifE, tupE, lstE, caE, chE, callE, callS, isiE_ap, oN, oS, slE, anyI, rngI, zipI, forS, yesT, cgN, cgT, cgs, whileS, rawL, rawOf, rawL_nil, datL, datL_nil, Rv.dat, GD.toBool, toBool_bool, intOf, intOf_int, ofO, ofO_some, ofO_none, Re.ok_bind, Re.ex_bind, Re.no_bind, Re.pure_eq, addD_int, addD_tup, addD_lst, addD_str, subD_int, negD_int, ltD_int, leD_int, gtD_int, geD_int, isD_none, isD_bool, isNotD_none, isNotD_bool, isNoneD_none, isNoneD_bool, isNoneD_int, isNoneD_str, isNoneD_list, isNoneD_tuple, isNoneD_dict, lenD_lst, lenD_tup, absD_int, intD_int, intD_bool, tupleD_lst, tupleD_tup, listD_lst, listD_tup, itemsOf_lst, itemsOf_tup, zipD_lst, zipD_tup, maxD_int, minD_int, slD_tup, slD_lst, pow_10_18, itemsOf_tupI, isi_tuple, isi_int, isi_bool, isi_str, isi_list, isTup_none, isTup_bool, isTup_int, isTup_str, isTup_list, isTup_tuple, isTup_dict, isWB_none, isWB_bool, isWB_int, isWB_str, isWB_list, isWB_tuple, isWB_dict, isB_none, isB_bool, isB_int, isB_str, isB_list, isB_tuple, isB_dict, isStr_none, isStr_bool, isStr_int, isStr_str, isStr_list, isStr_tuple, isStr_dict, isLst_none, isLst_bool, isLst_int, isLst_str, isLst_list, isLst_tuple, isTupI, sumD_lst, lenD_tupI, sumD_tupI, lenD_drD, eqD_int, neD_int, ixD_tup, ixD_lst, at0, at1, at2, at3, List.length_cons, List.length_nil, List.map_cons, List.map_nil, List.cons_append, List.nil_append, List.replicate, List.getElem?_cons_zero, List.getElem?_cons_succ, List.getElem?_nil, List.set_cons_zero, List.set_cons_succ, Nat.reduceAdd, Nat.reduceSub, Nat.reduceLeDiff, Nat.reduceEqDiff, if_true, if_false, beq_self_eq_true, decide_true, eq_self, reduceCtorEq, Bool.not_true, Bool.not_false, Bool.true_and, Bool.and_true, Bool.false_and, Bool.and_false, Bool.or_true, Bool.true_or, Bool.or_false, Bool.false_or, Bool.false_eq_true, Option.map_some, Option.map_none, Option.bind_some, Option.bind_none, ixD_dr0, e7, slD_dr_tail, e8, e10, z4]; rfl) ?_
    refine seq_eq (by simp only [runP, runS, seqS, nextS_ap, asgS, parS, ifS, retS, retN, dropS, raiseS, neverS, contS_ap, breakS_ap, frzS, appS, extS, tgN, tgM, tgs, tgT, tgS, vE, cE, op2, op1, aN, aC, tB', andT, orT, notT, andV, orV, notV, ifE, tupE, lstE, caE, chE, callE, callS, isiE_ap, oN, oS, slE, anyI, rngI, zipI, forS, yesT, cgN, cgT, cgs, whileS, rawL, rawOf, rawL_nil, datL, datL_nil, Rv.dat, GD.toBool, toBool_bool, intOf, intOf_int, ofO, ofO_some, ofO_none, Re.ok_bind, Re.ex_bind, Re.no_bind, Re.pure_eq, addD_int, addD_tup, addD_lst, addD_str, subD_int, negD_int, ltD_int, leD_int, gtD_int, geD_int, isD_none, isD_bool, isNotD_none, isNotD_bool, isNoneD_none, isNoneD_bool, isNoneD_int, isNoneD_str, isNoneD_list, isNoneD_tuple, isNoneD_dict, lenD_lst, lenD_tup, absD_int, intD_int, intD_bool, tupleD_lst, tupleD_tup, listD_lst, listD_tup, itemsOf_lst, itemsOf_tup, zipD_lst, zipD_tup, maxD_int, minD_int, slD_tup, slD_lst, pow_10_18, itemsOf_tupI, isi_tuple, isi_int, isi_bool, isi_str, isi_list, isTup_none, isTup_bool, isTup_int, isTup_str, isTup_list, isTup_tuple, isTup_dict, isWB_none, isWB_bool, isWB_int, isWB_str, isWB_list, isWB_tuple, isWB_dict, isB_none, isB_bool, isB_int, isB_str, isB_list, isB_tuple, isB_dict, isStr_none, isStr_bool, isStr_int, isStr_str, isStr_list, isStr_tuple, isStr_dict, isLst_none, isLst_bool, isLst_int, isLst_str, isLst_list, isLst_tuple, isTupI, sumD_lst, lenD_tupI, sumD_tupI, lenD_drD, eqD_int, neD_int, ixD_tup, ixD_lst, at0, at1, at2, at3, List.length_cons, List.length_nil, List.map_cons, List.map_nil, List.cons_append, List.nil_append, List.replicate, List.getElem?_cons_zero, List.getElem?_cons_succ, List.getElem?_nil, List.set_cons_zero, List.set_cons_succ, Nat.reduceAdd, Nat.reduceSub, Nat.reduceLeDiff, Nat.reduceEqDiff, if_true, if_false, beq_self_eq_true, decide_true, eq_self, reduceCtorEq, Bool.not_true, Bool.not_false, Bool.true_and, Bool.and_true, Bool.false_and, Bool.and_false, Bool.or_true, Bool.true_or, Bool.or_false, Bool.false_or, Bool.false_eq_true, Option.map_some, Option.map_none, Option.bind_some, Option.bind_none, slD_dr_tail, f2, e9, z3]; rfl) ?_
    refine seq_eq (by simp only [runP, runS, seqS, nextS_ap, asgS, parS, ifS, retS, retN, dropS, raiseS, neverS, contS_ap, breakS_ap, frzS, appS, extS, tgN, tgM, tgs, tgT, tgS, vE, cE, op2, op1, aN, aC, tB', andT, orT, notT, andV, orV, notV, ifE, tupE, lstE, caE, chE, callE, callS, isiE_ap, oN, oS, slE, anyI, rngI, zipI, forS, yesT, cgN, cgT, cgs, whileS, rawL, rawOf, rawL_nil, datL, datL_nil, Rv.dat, GD.toBool, toBool_bool, intOf, intOf_int, ofO, ofO_some, ofO_none, Re.ok_bind, Re.ex_bind, Re.no_bind, Re.pure_eq, addD_int, addD_tup, addD_lst, addD_str, subD_int, negD_int, ltD_int, leD_int, gtD_int, geD_int, isD_none, isD_bool, isNotD_none, isNotD_bool, isNoneD_none, isNoneD_bool, isNoneD_int, isNoneD_str, isNoneD_list, isNoneD_tuple, isNoneD_dict, lenD_lst, lenD_tup, absD_int, intD_int, intD_bool, tupleD_lst, tupleD_tup, listD_lst, listD_tup, itemsOf_lst, itemsOf_tup, zipD_lst, zipD_tup, maxD_int, minD_int, slD_tup, slD_lst, pow_10_18, itemsOf_tupI, isi_tuple, isi_int, isi_bool, isi_str, isi_list, isTup_none, isTup_bool, isTup_int, isTup_str, isTup_list, isTup_tuple, isTup_dict, isWB_none, isWB_bool, isWB_int, isWB_str, isWB_list, isWB_tuple, isWB_dict, isB_none, isB_bool, isB_int, isB_str, isB_list, isB_tuple, isB_dict, isStr_none, isStr_bool, isStr_int, isStr_str, isStr_list, isStr_tuple, isStr_dict, isLst_none, isLst_bool, isLst_int, isLst_str, isLst_list, isLst_tuple, isTupI, sumD_lst, lenD_tupI, sumD_tupI, lenD_drD, eqD_int, neD_int, ixD_tup, ixD_lst, at0, at1, at2, at3, List.length_cons, List.length_nil, List.map_cons, List.map_nil, List.cons_append, List.nil_append, List.replicate, List.getElem?_cons_zero, List.getElem?_cons_succ, List.getElem?_nil, List.set_cons_zero, List.set_cons_succ, Nat.reduceAdd, Nat.reduceSub, Nat.reduceLeDiff, Nat.reduceEqDiff, if_true, if_false, beq_self_eq_true, decide_true, eq_self, reduceCtorEq, Bool.not_true, Bool.not_false, Bool.true_and, Bool.and_true, Bool.false_and, Bool.and_false, Bool.or_true, Bool.true_or, Bool.or_false, Bool.false_or, Bool.false_eq_true, Option.map_some, Option.map_none, Option.bind_some, Option.bind_none, if_pos (show (0 : Nat) ≤ 1000000 by decide), if_pos (show (1 : Nat) ≤ 1000000 by decide)]; rfl) ?_
    refine seq_eq (by simp only [runP, runS, seqS, nextS_ap, asgS, parS, ifS, retS, retN, dropS, raiseS, neverS, contS_ap, breakS_ap, frzS, appS, extS, tgN, tgM, tgs, tgT, tgS, vE, cE, op2, op1, aN, aC, tB', andT, orT, notT, andV, orV, notV, ifE, tupE, lstE, caE, chE, callE, callS, isiE_ap, oN, oS, slE, anyI, rngI, zipI, forS, yesT, cgN, cgT, cgs, whileS, rawL, rawOf, rawL_nil, datL, datL_nil, Rv.dat, GD.toBool, toBool_bool, intOf, intOf_int, ofO, ofO_some, ofO_none, Re.ok_bind, Re.ex_bind, Re.no_bind, Re.pure_eq, addD_int, addD_tup, addD_lst, addD_str, subD_int, negD_int, ltD_int, leD_int, gtD_int, geD_int, isD_none, isD_bool, isNotD_none, isNotD_bool, isNoneD_none, isNoneD_bool, isNoneD_int, isNoneD_str, isNoneD_list, isNoneD_tuple, isNoneD_dict, lenD_lst, lenD_tup, absD_int, intD_int, intD_bool, tupleD_lst, tupleD_tup, listD_lst, listD_tup, itemsOf_lst, itemsOf_tup, zipD_lst, zipD_tup, maxD_int, minD_int, slD_tup, slD_lst, pow_10_18, itemsOf_tupI, isi_tuple, isi_int, isi_bool, isi_str, isi_list, isTup_none, isTup_bool, isTup_int, isTup_str, isTup_list, isTup_tuple, isTup_dict, isWB_none, isWB_bool, isWB_int, isWB_str, isWB_list, isWB_tuple, isWB_dict, isB_none, isB_bool, isB_int, isB_str, isB_list, isB_tuple, isB_dict, isStr_none, isStr_bool, isStr_int, isStr_str, isStr_list, isStr_tuple, isStr_dict, isLst_none, isLst_bool, isLst_int, isLst_str, isLst_list, isLst_tuple, isTupI, sumD_lst, lenD_tupI, sumD_tupI, lenD_drD, eqD_int, neD_int, ixD_tup, ixD_lst, at0, at1, at2, at3, List.length_cons, List.length_nil, List.map_cons, List.map_nil, List.cons_append, List.nil_append, List.replicate, List.getElem?_cons_zero, List.getElem?_cons_succ, List.getElem?_nil, List.set_cons_zero, List.set_cons_succ, Nat.reduceAdd, Nat.reduceSub, Nat.reduceLeDiff, Nat.reduceEqDiff, if_true, if_false, beq_self_eq_true, decide_true, eq_self, reduceCtorEq, Bool.not_true, Bool.not_false, Bool.true_and, Bool.and_true, Bool.false_and, Bool.and_false, Bool.or_true, Bool.true_or, Bool.or_false, Bool.false_or, Bool.false_eq_true, Option.map_some, Option.map_none, Option.bind_some, Option.bind_none, r3, forD, m1, m2, m3]; rfl) ?_
    refine seq_eq (by simp only [runP, runS, seqS, nextS_ap, asgS, parS, ifS, retS, retN, dropS, raiseS, neverS, contS_ap, breakS_ap, frzS, appS, extS, tgN, tgM, tgs, tgT, tgS, vE, cE, op2, op1, aN, aC, tB', andT, orT, notT, andV, orV, notV, ifE, tupE, lstE, caE, chE, callE, callS, isiE_ap, oN, oS, slE, anyI, rngI, zipI, forS, yesT, cgN, cgT, cgs, whileS, rawL, rawOf, rawL_nil, datL, datL_nil, Rv.dat, GD.toBool, toBool_bool, intOf, intOf_int, ofO, ofO_some, ofO_none, Re.ok_bind, Re.ex_bind, Re.no_bind, Re.pure_eq, addD_int, addD_tup, addD_lst, addD_str, subD_int, negD_int, ltD_int, leD_int, gtD_int, geD_int, isD_none, isD_bool, isNotD_none, isNotD_bool, isNoneD_none, isNoneD_bool, isNoneD_int, isNoneD_str, isNoneD_list, isNoneD_tuple, isNoneD_dict, lenD_lst, lenD_tup, absD_int, intD_int, intD_bool, tupleD_lst, tupleD_tup, listD_lst, listD_tup, itemsOf_lst, itemsOf_tup, zipD_lst, zipD_tup, maxD_int, minD_int, slD_tup, slD_lst, pow_10_18, itemsOf_tupI, isi_tuple, isi_int, isi_bool, isi_str, isi_list, isTup_none, isTup_bool, isTup_int, isTup_str, isTup_list, isTup_tuple, isTup_dict, isWB_none, isWB_bool, isWB_int, isWB_str, isWB_list, isWB_tuple, isWB_dict, isB_none, isB_bool, isB_int, isB_str, isB_list, isB_tuple, isB_dict, isStr_none, isStr_bool, isStr_int, isStr_str, isStr_list, isStr_tuple, isStr_dict, isLst_none, isLst_bool, isLst_int, isLst_str, isLst_list, isLst_tuple, isTupI, sumD_lst, lenD_tupI, sumD_tupI, lenD_drD, eqD_int, neD_int, ixD_tup, ixD_lst, at0, at1, at2, at3, List.length_cons, List.length_nil, List.map_cons, List.map_nil, List.cons_append, List.nil_append, List.replicate, List.getElem?_cons_zero, List.getElem?_cons_succ, List.getElem?_nil, List.set_cons_zero, List.set_cons_succ, Nat.reduceAdd, Nat.reduceSub, Nat.reduceLeDiff, Nat.reduceEqDiff, if_true, if_false, beq_self_eq_true, decide_true, eq_self, reduceCtorEq, Bool.not_true, Bool.not_false, Bool.true_and, Bool.and_true, Bool.false_and, Bool.and_false, Bool.or_true, Bool.true_or, Bool.or_false, Bool.false_or, Bool.false_eq_true, Option.map_some, Option.map_none, Option.bind_some, Option.bind_none, if_pos (show (2 : Nat) ≤ 1000000 by decide)]; rfl) ?_
    refine seq_eq (by simp only [runP, runS, seqS, nextS_ap, asgS, parS, ifS, retS, retN, dropS, raiseS, neverS, contS_ap, breakS_ap, frzS, appS, extS, tgN, tgM, tgs, tgT, tgS, vE, cE, op2, op1, aN, aC, tB', andT, orT, notT, andV, orV, notV, ifE, tupE, lstE, caE, chE, callE, callS, isiE_ap, oN, oS, slE, anyI, rngI, zipI, forS, yesT, cgN, cgT, cgs, whileS, rawL, rawOf, rawL_nil, datL, datL_nil, Rv.dat, GD.toBool, toBool_bool, intOf, intOf_int, ofO, ofO_some, ofO_none, Re.ok_bind, Re.ex_bind, Re.no_bind, Re.pure_eq, addD_int, addD_tup, addD_lst, addD_str, subD_int, negD_int, ltD_int, leD_int, gtD_int, geD_int, isD_none, isD_bool, isNotD_none, isNotD_bool, isNoneD_none, isNoneD_bool, isNoneD_int, isNoneD_str, isNoneD_list, isNoneD_tuple, isNoneD_dict, lenD_lst, lenD_tup, absD_int, intD_int, intD_bool, tupleD_lst, tupleD_tup, listD_lst, listD_tup, itemsOf_lst, itemsOf_tup, zipD_lst, zipD_tup, maxD_int, minD_int, slD_tup, slD_lst, pow_10_18, itemsOf_tupI, isi_tuple, isi_int, isi_bool, isi_str, isi_list, isTup_none, isTup_bool, isTup_int, isTup_str, isTup_list, isTup_tuple, isTup_dict, isWB_none, isWB_bool, isWB_int, isWB_str, isWB_list, isWB_tuple, isWB_dict, isB_none, isB_bool, isB_int, isB_str, isB_list, isB_tuple, isB_dict, isStr_none, isStr_bool, isStr_int, isStr_str, isStr_list, isStr_tuple, isStr_dict, isLst_none, isLst_bool, isLst_int, isLst_str, isLst_list, isLst_tuple, isTupI, sumD_lst, lenD_tupI, sumD_tupI, lenD_drD, eqD_int, neD_int, ixD_tup, ixD_lst, at0, at1, at2, at3, List.length_cons, List.length_nil, List.map_cons, List.map_nil, List.cons_append, List.nil_append, List.replicate, List.getElem?_cons_zero, List.getElem?_cons_succ, List.getElem?_nil, List.set_cons_zero, List.set_cons_succ, Nat.reduceAdd, Nat.reduceSub, Nat.reduceLeDiff, Nat.reduceEqDiff, if_true, if_false, beq_self_eq_true, decide_true, eq_self, reduceCtorEq, Bool.not_true, Bool.not_false, Bool.true_and, Bool.and_true, Bool.false_and, Bool.and_false, Bool.or_true, Bool.true_or, Bool.or_false, Bool.false_or, Bool.false_eq_true, Option.map_some, Option.map_none, Option.bind_some, Option.bind_none, m4]; rfl) ?_
    refine seq_eq (by simp only [runP, runS, seqS, nextS_ap, asgS, parS, ifS, retS, retN, dropS, raiseS, neverS, contS_ap, breakS_ap, frzS, appS, extS, tgN, tgM, tgs, tgT, tgS, vE, cE, op2, op1, aN, aC, tB', andT, orT, notT, andV, orV, notV, ifE, tupE, lstE, caE, chE, callE, callS, isiE_ap, oN, oS, slE, anyI, rngI, zipI, forS, yesT, cgN, cgT, cgs, whileS, rawL, rawOf, rawL_nil, datL, datL_nil, Rv.dat, GD.toBool, toBool_bool, intOf, intOf_int, ofO, ofO_some, ofO_none, Re.ok_bind, Re.ex_bind, Re.no_bind, Re.pure_eq, addD_int, addD_tup, addD_lst, addD_str, subD_int, negD_int, ltD_int, leD_int, gtD_int, geD_int, isD_none, isD_bool, isNotD_none, isNotD_bool, isNoneD_none, isNoneD_bool, isNoneD_int, isNoneD_str, isNoneD_list, isNoneD_tuple, isNoneD_dict, lenD_lst, lenD_tup, absD_int, intD_int, intD_bool, tupleD_lst, tupleD_tup, listD_lst, listD_tup, itemsOf_lst, itemsOf_tup, zipD_lst, zipD_tup, maxD_int, minD_int, slD_tup, slD_lst, pow_10_18, itemsOf_tupI, isi_tuple, isi_int, isi_bool, isi_str, isi_list, isTup_none, isTup_bool, isTup_int, isTup_str, isTup_list, isTup_tuple, isTup_dict, isWB_none, isWB_bool, isWB_int, isWB_str, isWB_list, isWB_tuple, isWB_dict, isB_none, isB_bool, isB_int, isB_str, isB_list, isB_tuple, isB_dict, isStr_none, isStr_bool, isStr_int, isStr_str, isStr_list, isStr_tuple, isStr_dict, isLst_none, isLst_bool, isLst_int, isLst_str, isLst_list, isLst_tuple, isTupI, sumD_lst, lenD_tupI, sumD_tupI, lenD_drD, eqD_int, neD_int, ixD_tup, ixD_lst, at0, at1, at2, at3, List.length_cons, List.length_nil, List.map_cons, List.map_nil, List.cons_append, List.nil_append, List.replicate, List.getElem?_cons_zero, List.getElem?_cons_succ, List.getElem?_nil, List.set_cons_zero, List.set_cons_succ, Nat.reduceAdd, Nat.reduceSub, Nat.reduceLeDiff, Nat.reduceEqDiff, if_true, if_false, beq_self_eq_true, decide_true, eq_self, reduceCtorEq, Bool.not_true, Bool.not_false, Bool.true_and, Bool.and_true, Bool.false_and, Bool.and_false, Bool.or_true, Bool.true_or, Bool.or_false, Bool.false_or, Bool.false_eq_true, Option.map_some, Option.map_none, Option.bind_some, Option.bind_none, if_pos (show (1 : Nat) ≤ 1000000 by decide), mulD_tup1 _ (show n ≤ 1000 by omega), hzD]; rfl) ?_
    simp only [runP, runS, seqS, nextS_ap, asgS, parS, ifS, retS, retN, dropS, raiseS, neverS, contS_ap, breakS_ap, frzS, appS, extS, tgN, tgM, tgs, tgT, tgS, vE, cE, op2, op1, aN, aC, tB', andT, orT, notT, andV, orV, notV, ifE, tupE, lstE, caE, chE, callE, callS, isiE_ap, oN, oS, slE, anyI, rngI, zipI, forS, yesT, cgN, cgT, cgs, whileS, rawL, rawOf, rawL_nil, datL, datL_nil, Rv.dat, GD.toBool, toBool_bool, intOf, intOf_int, ofO, ofO_some, ofO_none, Re.ok_bind, Re.ex_bind, Re.no_bind, Re.pure_eq, addD_int, addD_tup, addD_lst, addD_str, subD_int, negD_int, ltD_int, leD_int, gtD_int, geD_int, isD_none, isD_bool, isNotD_none, isNotD_bool, isNoneD_none, isNoneD_bool, isNoneD_int, isNoneD_str, isNoneD_list, isNoneD_tuple, isNoneD_dict, lenD_lst, lenD_tup, absD_int, intD_int, intD_bool, tupleD_lst, tupleD_tup, listD_lst, listD_tup, itemsOf_lst, itemsOf_tup, zipD_lst, zipD_tup, maxD_int, minD_int, slD_tup, slD_lst, pow_10_18, itemsOf_tupI, isi_tuple, isi_int, isi_bool, isi_str, isi_list, isTup_none, isTup_bool, isTup_int, isTup_str, isTup_list, isTup_tuple, isTup_dict, isWB_none, isWB_bool, isWB_int, isWB_str, isWB_list, isWB_tuple, isWB_dict, isB_none, isB_bool, isB_int, isB_str, isB_list, isB_tuple, isB_dict, isStr_none, isStr_bool, isStr_int, isStr_str, isStr_list, isStr_tuple, isStr_dict, isLst_none, isLst_bool, isLst_int, isLst_str, isLst_list, isLst_tuple, isTupI, sumD_lst, lenD_tupI, sumD_tupI, lenD_drD, eqD_int, neD_int, ixD_tup, ixD_lst, at0, at1, at2, at3, List.length_cons, List.length_nil, List.map_cons, List.map_nil, List.cons_append, List.nil_append, List.replicate, List.getElem?_cons_zero, List.getElem?_cons_succ, List.getElem?_nil, List.set_cons_zero, List.set_cons_succ, Nat.reduceAdd, Nat.reduceSub, Nat.reduceLeDiff, Nat.reduceEqDiff, if_true, if_false, beq_self_eq_true, decide_true, eq_self, reduceCtorEq, Bool.not_true, Bool.not_false, Bool.true_and, Bool.and_true, Bool.false_and, Bool.and_false, Bool.or_true, Bool.true_or, Bool.or_false, Bool.false_or, Bool.false_eq_true, Option.map_some, Option.map_none, Option.bind_some, Option.bind_none, neD_fr1, slD_dr_head, m5, neD_tupI_self]
theorem law_true (ns : List Int) (hns : ns.length ≤ 63) : m_law [scrD ns] = .ok (.da (.bool true)) := by
  have e : ∃ m : Nat, m ≤ 63 ∧ (if (if (6 : Int) < ns.length then (6 : Int) else ns.length) > 1 then (if (6 : Int) < ns.length then (6 : Int) else ns.length) else 1) = m := by
    refine ⟨((if (if (6 : Int) < ns.length then (6 : Int) else ns.length) > 1 then (if (6 : Int) < ns.length then (6 : Int) else ns.length) else 1) : Int).toNat, ?_, ?_⟩ <;> split <;> split <;> omega
  obtain ⟨m, hm, em⟩ := e
  have el : lenD [scrD ns] = some (.da (.int ns.length)) := by
    show some (Rv.da (.int ((ns.map PyData.int).length : Nat))) = _
    rw [List.length_map]
  obtain ⟨g', h1, y1, y2, y3, y4, y5, y6, y7, y8, y9, y10, y11, y12, y13, y14, y15, y16, rfl⟩ := for_inv (T := tgN 1) (b := (seqS (asgS (callE m__law_state (aC (vE 0) (aC (vE 1) aN))) (tgM 2)) (seqS (asgS (op2 addD (cE (.int 1)) (callS m__law_take (aC (vE 2) (aC (cE (.int 4)) aN)))) (tgN 3)) (seqS (asgS (callS m__law_small (aC (vE 2) (aC (vE 3) aN))) (tgN 4)) (seqS (asgS (caE tupleD (aC (lcE (rngI (aC (vE 3) aN)) (cgN 15) yesT (caE tupleD (aC (lcE (rngI (aC (vE 3) aN)) (cgN 16) yesT (callS m__law_take (aC (vE 2) (aC (cE (.int 3)) aN))) [16]) aN)) [15]) aN)) (tgN 5)) (seqS (ifS (orT (tB' (op2 isNotD (callE m_is_urn (aC (vE 4) aN)) (cE (.bool true)))) (tB' (op2 isNotD (callE m_is_rule (aC (vE 3) (aC (vE 5) aN))) (cE (.bool true))))) (retS (cE (.bool false))) nextS) (seqS (asgS (tupE (aC (cE (.int 0)) (aC (cE (.int 1)) aN))) (tgN 6)) (seqS (forS (rngI (aC (vE 3) aN)) (tgN 7) (asgS (callE m__law_plus (aC (vE 6) (aC (callE m_chance (aC (vE 4) (aC (vE 7) aN))) aN))) (tgN 6))) (seqS (ifS (tB' (op2 neD (vE 6) (tupE (aC (cE (.int 1)) (aC (cE (.int 1)) aN))))) (retS (cE (.bool false))) nextS) (seqS (asgS (caE tupleD (aC (lcE (rngI (aC (op2 addD (cE (.int 1)) (callS m__law_take (aC (vE 2) (aC (cE (.int 5)) aN)))) aN)) (cgN 8) yesT (callS m__law_take (aC (vE 2) (aC (vE 3) aN))) [8]) aN)) (tgN 9)) (seqS (asgS (callE m_chance_of (aC (vE 4) (aC (vE 5) (aC (vE 9) aN)))) (tgN 10)) (seqS (ifS (tB' (op2 eqD (op2 ixD (vE 4) (op2 ixD (vE 9) (cE (.int 0)))) (cE (.int 0)))) (seqS (ifS (orT (tB' (op2 neD (vE 10) (tupE (aC (cE (.int 0)) (aC (cE (.int 1)) aN))))) (tB' (op2 isNotD (callE m_urn_behind (aC (vE 4) (aC (vE 5) (aC (vE 9) aN)))) (cE .none)))) (retS (cE (.bool false))) nextS) contS) nextS) (seqS (asgS (callE m_after (aC (vE 4) (aC (vE 5) (aC (op2 ixD (vE 9) (cE (.int 0))) aN)))) (tgN 11)) (seqS (ifS (tB' (op2 neD (vE 10) (callE m__law_by (aC (callE m_chance (aC (vE 4) (aC (op2 ixD (vE 9) (cE (.int 0))) aN))) (aC (callE m_chance_of (aC (vE 11) (aC (vE 5) (aC (slE slD (vE 9) (oS (cE (.int 1))) oN) aN)))) aN))))) (retS (cE (.bool false))) nextS) (seqS (ifS (tB' (op2 neD (callE m_urn_behind (aC (vE 4) (aC (vE 5) (aC (vE 9) aN)))) (callE m_urn_behind (aC (vE 11) (aC (vE 5) (aC (slE slD (vE 9) (oS (cE (.int 1))) oN) aN)))))) (retS (cE (.bool false))) nextS) (seqS (asgS (lstE (aC (tupE aN) aN)) (tgN 12)) (seqS (forS (rngI (aC (cE (.int 3)) aN)) (tgN 8) (asgS (callE m__law_longer (aC (vE 12) (aC (vE 3) aN))) (tgN 12))) (seqS (asgS (tupE (aC (cE (.int 0)) (aC (cE (.int 1)) aN))) (tgN 6)) (seqS (forS (anyI (vE 12)) (tgN 13) (asgS (callE m__law_plus (aC (vE 6) (aC (callE m_chance_of (aC (vE 4) (aC (vE 5) (aC (vE 13) aN)))) aN))) (tgN 6))) (seqS (asgS (op2 mulD (tupE (aC (op2 mulD (tupE (aC (cE (.int 0)) aN)) (vE 3)) aN)) (vE 3)) (tgN 14)) (ifS (orT (tB' (op2 neD (vE 6) (tupE (aC (cE (.int 1)) (aC (cE (.int 1)) aN))))) (tB' (op2 neD (callE m_urn_behind (aC (vE 4) (aC (vE 14) (aC (slE slD (vE 9) oN (oS (cE (.int 1)))) aN)))) (vE 4)))) (retS (cE (.bool false))) nextS))))))))))))))))))))) (fun _ g => ∃ y1 y2 y3 y4 y5 y6 y7 y8 y9 y10 y11 y12 y13 y14 y15 y16, g = [.da (scrD ns), y1, y2, y3, y4, y5, y6, y7, y8, y9, y10, y11, y12, y13, y14, y15, y16])
    ((List.range m).map fun i : Nat => .int i) 0 [.da (scrD ns), .un, .un, .un, .un, .un, .un, .un, .un, .un, .un, .un, .un, .un, .un, .un, .un] ⟨_, _, _, _, _, _, _, _, _, _, _, _, _, _, _, _, rfl⟩ (by
      rintro j d g hd ⟨y1, y2, y3, y4, y5, y6, y7, y8, y9, y10, y11, y12, y13, y14, y15, y16, rfl⟩
      obtain ⟨k, _, rfl⟩ := List.mem_map.mp (List.mem_of_getElem? hd)
      obtain ⟨g2, h2, h3⟩ := body_ev ns k y2 y3 y4 y5 y6 y7 y8 y9 y10 y11 y12 y13 y14 y15 y16
      exact ⟨_, rfl, g2, h2, h3⟩)
  unfold m_law
  refine run_rt (g := [.da (scrD ns), y1, y2, y3, y4, y5, y6, y7, y8, y9, y10, y11, y12, y13, y14, y15, y16]) rfl ?_
  unfold d_law
  refine seq_eq (for_eq (g1 := [.da (scrD ns), .un, .un, .un, .un, .un, .un, .un, .un, .un, .un, .un, .un, .un, .un, .un, .un]) (ds := (List.range m).map fun i : Nat => .int i) ?_ h1) ?_
  · simp only [runP, runS, seqS, nextS_ap, asgS, parS, ifS, retS, retN, dropS, raiseS, neverS, contS_ap, breakS_ap, frzS, appS, extS, tgN, tgM, tgs, tgT, tgS, vE, cE, op2, op1, aN, aC, tB', andT, orT, notT, andV, orV, notV, ifE, tupE, lstE, caE, chE, callE, callS, isiE_ap, oN, oS, slE, anyI, rngI, zipI, forS, yesT, cgN, cgT, cgs, whileS, rawL, rawOf, rawL_nil, datL, datL_nil, Rv.dat, GD.toBool, toBool_bool, intOf, intOf_int, ofO, ofO_some, ofO_none, Re.ok_bind, Re.ex_bind, Re.no_bind, Re.pure_eq, addD_int, addD_tup, addD_lst, addD_str, subD_int, negD_int, ltD_int, leD_int, gtD_int, geD_int, isD_none, isD_bool, isNotD_none, isNotD_bool, isNoneD_none, isNoneD_bool, isNoneD_int, isNoneD_str, isNoneD_list, isNoneD_tuple, isNoneD_dict, lenD_lst, lenD_tup, absD_int, intD_int, intD_bool, tupleD_lst, tupleD_tup, listD_lst, listD_tup, itemsOf_lst, itemsOf_tup, zipD_lst, zipD_tup, maxD_int, minD_int, slD_tup, slD_lst, pow_10_18, itemsOf_tupI, isi_tuple, isi_int, isi_bool, isi_str, isi_list, isTup_none, isTup_bool, isTup_int, isTup_str, isTup_list, isTup_tuple, isTup_dict, isWB_none, isWB_bool, isWB_int, isWB_str, isWB_list, isWB_tuple, isWB_dict, isB_none, isB_bool, isB_int, isB_str, isB_list, isB_tuple, isB_dict, isStr_none, isStr_bool, isStr_int, isStr_str, isStr_list, isStr_tuple, isStr_dict, isLst_none, isLst_bool, isLst_int, isLst_str, isLst_list, isLst_tuple, isTupI, sumD_lst, lenD_tupI, sumD_tupI, lenD_drD, eqD_int, neD_int, ixD_tup, ixD_lst, at0, at1, at2, at3, List.length_cons, List.length_nil, List.map_cons, List.map_nil, List.cons_append, List.nil_append, List.replicate, List.getElem?_cons_zero, List.getElem?_cons_succ, List.getElem?_nil, List.set_cons_zero, List.set_cons_succ, Nat.reduceAdd, Nat.reduceSub, Nat.reduceLeDiff, Nat.reduceEqDiff, if_true, if_false, beq_self_eq_true, decide_true, eq_self, reduceCtorEq, Bool.not_true, Bool.not_false, Bool.true_and, Bool.and_true, Bool.false_and, Bool.and_false, Bool.or_true, Bool.true_or, Bool.or_false, Bool.false_or, Bool.false_eq_true, Option.map_some, Option.map_none, Option.bind_some, Option.bind_none, el, minD_int, maxD_int, em, rng_nat (show m ≤ 1000000 by omega)]
  · simp only [runP, runS, seqS, nextS_ap, asgS, parS, ifS, retS, retN, dropS, raiseS, neverS, contS_ap, breakS_ap, frzS, appS, extS, tgN, tgM, tgs, tgT, tgS, vE, cE, op2, op1, aN, aC, tB', andT, orT, notT, andV, orV, notV, ifE, tupE, lstE, caE, chE, callE, callS, isiE_ap, oN, oS, slE, anyI, rngI, zipI, forS, yesT, cgN, cgT, cgs, whileS, rawL, rawOf, rawL_nil, datL, datL_nil, Rv.dat, GD.toBool, toBool_bool, intOf, intOf_int, ofO, ofO_some, ofO_none, Re.ok_bind, Re.ex_bind, Re.no_bind, Re.pure_eq, addD_int, addD_tup, addD_lst, addD_str, subD_int, negD_int, ltD_int, leD_int, gtD_int, geD_int, isD_none, isD_bool, isNotD_none, isNotD_bool, isNoneD_none, isNoneD_bool, isNoneD_int, isNoneD_str, isNoneD_list, isNoneD_tuple, isNoneD_dict, lenD_lst, lenD_tup, absD_int, intD_int, intD_bool, tupleD_lst, tupleD_tup, listD_lst, listD_tup, itemsOf_lst, itemsOf_tup, zipD_lst, zipD_tup, maxD_int, minD_int, slD_tup, slD_lst, pow_10_18, itemsOf_tupI, isi_tuple, isi_int, isi_bool, isi_str, isi_list, isTup_none, isTup_bool, isTup_int, isTup_str, isTup_list, isTup_tuple, isTup_dict, isWB_none, isWB_bool, isWB_int, isWB_str, isWB_list, isWB_tuple, isWB_dict, isB_none, isB_bool, isB_int, isB_str, isB_list, isB_tuple, isB_dict, isStr_none, isStr_bool, isStr_int, isStr_str, isStr_list, isStr_tuple, isStr_dict, isLst_none, isLst_bool, isLst_int, isLst_str, isLst_list, isLst_tuple, isTupI, sumD_lst, lenD_tupI, sumD_tupI, lenD_drD, eqD_int, neD_int, ixD_tup, ixD_lst, at0, at1, at2, at3, List.length_cons, List.length_nil, List.map_cons, List.map_nil, List.cons_append, List.nil_append, List.replicate, List.getElem?_cons_zero, List.getElem?_cons_succ, List.getElem?_nil, List.set_cons_zero, List.set_cons_succ, Nat.reduceAdd, Nat.reduceSub, Nat.reduceLeDiff, Nat.reduceEqDiff, if_true, if_false, beq_self_eq_true, decide_true, eq_self, reduceCtorEq, Bool.not_true, Bool.not_false, Bool.true_and, Bool.and_true, Bool.false_and, Bool.and_false, Bool.or_true, Bool.true_or, Bool.or_false, Bool.false_or, Bool.false_eq_true, Option.map_some, Option.map_none, Option.bind_some, Option.bind_none]

end LawHere

namespace LawHere
open PySem PySem.Spec PyProof.Rows L2 GD
def topS (i : Nat) : Stmt := PySem.Challenge.pw_growurns_k14_whole_draws.main.body.getD i (.Pass ⟨0, 0, 0, 0⟩)
abbrev s_is_whole : Stmt := topS 13
abbrev s_is_between : Stmt := topS 14
abbrev s_divisor : Stmt := topS 15
abbrev s_fraction : Stmt := topS 16
abbrev s_by : Stmt := topS 17
abbrev s_is_urn : Stmt := topS 18
abbrev s_is_rule_of : Stmt := topS 19
abbrev s_need_number : Stmt := topS 20
abbrev s_is_rule : Stmt := topS 21
abbrev s_need_urn : Stmt := topS 22
abbrev s_need_rule : Stmt := topS 23
abbrev s_need_kind : Stmt := topS 24
abbrev s_share : Stmt := topS 25
abbrev s_chance : Stmt := topS 26
abbrev s_put_behind : Stmt := topS 27
abbrev s_after : Stmt := topS 28
abbrev s_need_draws : Stmt := topS 29
abbrev s_gone_through : Stmt := topS 30
abbrev s_chance_of : Stmt := topS 31
abbrev s_urn_behind : Stmt := topS 32
abbrev s__law_cell_at : Stmt := topS 34
abbrev s__law_state : Stmt := topS 35
abbrev s__law_take : Stmt := topS 36
abbrev s__law_cut : Stmt := topS 37
abbrev s__law_plus : Stmt := topS 38
abbrev s__law_by : Stmt := topS 39
abbrev s__law_small : Stmt := topS 40
abbrev s__law_longer : Stmt := topS 41
abbrev s_law : Stmt := topS 42
theorem bt_abs : bootBuiltins "abs" = some (.builtin "abs") := by decide +kernel
theorem bt_all : bootBuiltins "all" = some (.builtin "all") := by decide +kernel
theorem bt_bool : bootBuiltins "bool" = some (.type "bool") := by decide +kernel
theorem bt_int : bootBuiltins "int" = some (.type "int") := by decide +kernel
theorem bt_isinstance : bootBuiltins "isinstance" = some (.builtin "isinstance") := by decide +kernel
theorem bt_len : bootBuiltins "len" = some (.builtin "len") := by decide +kernel
theorem bt_max : bootBuiltins "max" = some (.builtin "max") := by decide +kernel
theorem bt_min : bootBuiltins "min" = some (.builtin "min") := by decide +kernel
theorem bt_range : bootBuiltins "range" = some (.type "range") := by decide +kernel
theorem bt_sum : bootBuiltins "sum" = some (.builtin "sum") := by decide +kernel
theorem bt_tuple : bootBuiltins "tuple" = some (.type "tuple") := by decide +kernel
theorem bt_zip : bootBuiltins "zip" = some (.type "zip") := by decide +kernel
structure Tx (K : PySem.W.Frag) (mg : Str → Option Value) where
  f_is_whole : Addr
  fd_is_whole : FuncData
  F_is_whole : Fun K "is_whole" "is_whole" s_is_whole f_is_whole fd_is_whole
  g_is_whole : mg "is_whole" = some (.ref f_is_whole)
  f_is_between : Addr
  fd_is_between : FuncData
  F_is_between : Fun K "is_between" "is_between" s_is_between f_is_between fd_is_between
  g_is_between : mg "is_between" = some (.ref f_is_between)
  f_divisor : Addr
  fd_divisor : FuncData
  F_divisor : Fun K "divisor" "divisor" s_divisor f_divisor fd_divisor
  g_divisor : mg "divisor" = some (.ref f_divisor)
  f_fraction : Addr
  fd_fraction : FuncData
  F_fraction : Fun K "fraction" "fraction" s_fraction f_fraction fd_fraction
  g_fraction : mg "fraction" = some (.ref f_fraction)
  f_by : Addr
  fd_by : FuncData
  F_by : Fun K "by" "by" s_by f_by fd_by
  g_by : mg "by" = some (.ref f_by)
  f_is_urn : Addr
  fd_is_urn : FuncData
  F_is_urn : Fun K "is_urn" "is_urn" s_is_urn f_is_urn fd_is_urn
  g_is_urn : mg "is_urn" = some (.ref f_is_urn)
  f_is_rule_of : Addr
  fd_is_rule_of : FuncData
  F_is_rule_of : Fun K "is_rule_of" "is_rule_of" s_is_rule_of f_is_rule_of fd_is_rule_of
  g_is_rule_of : mg "is_rule_of" = some (.ref f_is_rule_of)
  f_need_number : Addr
  fd_need_number : FuncData
  F_need_number : Fun K "need_number" "need_number" s_need_number f_need_number fd_need_number
  g_need_number : mg "need_number" = some (.ref f_need_number)
  f_is_rule : Addr
  fd_is_rule : FuncData
  F_is_rule : Fun K "is_rule" "is_rule" s_is_rule f_is_rule fd_is_rule
  g_is_rule : mg "is_rule" = some (.ref f_is_rule)
  f_need_urn : Addr
  fd_need_urn : FuncData
  F_need_urn : Fun K "need_urn" "need_urn" s_need_urn f_need_urn fd_need_urn
  g_need_urn : mg "need_urn" = some (.ref f_need_urn)
  f_need_rule : Addr
  fd_need_rule : FuncData
  F_need_rule : Fun K "need_rule" "need_rule" s_need_rule f_need_rule fd_need_rule
  g_need_rule : mg "need_rule" = some (.ref f_need_rule)
  f_need_kind : Addr
  fd_need_kind : FuncData
  F_need_kind : Fun K "need_kind" "need_kind" s_need_kind f_need_kind fd_need_kind
  g_need_kind : mg "need_kind" = some (.ref f_need_kind)
  f_share : Addr
  fd_share : FuncData
  F_share : Fun K "share" "share" s_share f_share fd_share
  g_share : mg "share" = some (.ref f_share)
  f_chance : Addr
  fd_chance : FuncData
  F_chance : Fun K "chance" "chance" s_chance f_chance fd_chance
  g_chance : mg "chance" = some (.ref f_chance)
  f_put_behind : Addr
  fd_put_behind : FuncData
  F_put_behind : Fun K "put_behind" "put_behind" s_put_behind f_put_behind fd_put_behind
  g_put_behind : mg "put_behind" = some (.ref f_put_behind)
  f_after : Addr
  fd_after : FuncData
  F_after : Fun K "after" "after" s_after f_after fd_after
  g_after : mg "after" = some (.ref f_after)
  f_need_draws : Addr
  fd_need_draws : FuncData
  F_need_draws : Fun K "need_draws" "need_draws" s_need_draws f_need_draws fd_need_draws
  g_need_draws : mg "need_draws" = some (.ref f_need_draws)
  f_gone_through : Addr
  fd_gone_through : FuncData
  F_gone_through : Fun K "gone_through" "gone_through" s_gone_through f_gone_through fd_gone_through
  g_gone_through : mg "gone_through" = some (.ref f_gone_through)
  f_chance_of : Addr
  fd_chance_of : FuncData
  F_chance_of : Fun K "chance_of" "chance_of" s_chance_of f_chance_of fd_chance_of
  g_chance_of : mg "chance_of" = some (.ref f_chance_of)
  f_urn_behind : Addr
  fd_urn_behind : FuncData
  F_urn_behind : Fun K "urn_behind" "urn_behind" s_urn_behind f_urn_behind fd_urn_behind
  g_urn_behind : mg "urn_behind" = some (.ref f_urn_behind)
  f__law_cell_at : Addr
  fd__law_cell_at : FuncData
  F__law_cell_at : Fun K "_law_cell_at" "_law_cell_at" s__law_cell_at f__law_cell_at fd__law_cell_at
  g__law_cell_at : mg "_law_cell_at" = some (.ref f__law_cell_at)
  f__law_state : Addr
  fd__law_state : FuncData
  F__law_state : Fun K "_law_state" "_law_state" s__law_state f__law_state fd__law_state
  g__law_state : mg "_law_state" = some (.ref f__law_state)
  f__law_take : Addr
  fd__law_take : FuncData
  F__law_take : Fun K "_law_take" "_law_take" s__law_take f__law_take fd__law_take
  g__law_take : mg "_law_take" = some (.ref f__law_take)
  f__law_cut : Addr
  fd__law_cut : FuncData
  F__law_cut : Fun K "_law_cut" "_law_cut" s__law_cut f__law_cut fd__law_cut
  g__law_cut : mg "_law_cut" = some (.ref f__law_cut)
  f__law_plus : Addr
  fd__law_plus : FuncData
  F__law_plus : Fun K "_law_plus" "_law_plus" s__law_plus f__law_plus fd__law_plus
  g__law_plus : mg "_law_plus" = some (.ref f__law_plus)
  f__law_by : Addr
  fd__law_by : FuncData
  F__law_by : Fun K "_law_by" "_law_by" s__law_by f__law_by fd__law_by
  g__law_by : mg "_law_by" = some (.ref f__law_by)
  f__law_small : Addr
  fd__law_small : FuncData
  F__law_small : Fun K "_law_small" "_law_small" s__law_small f__law_small fd__law_small
  g__law_small : mg "_law_small" = some (.ref f__law_small)
  f__law_longer : Addr
  fd__law_longer : FuncData
  F__law_longer : Fun K "_law_longer" "_law_longer" s__law_longer f__law_longer fd__law_longer
  g__law_longer : mg "_law_longer" = some (.ref f__law_longer)
  f_law : Addr
  fd_law : FuncData
  F_law : Fun K "law" "law" s_law f_law fd_law
  g_law : mg "law" = some (.ref f_law)
  z_abs : mg "abs" = none
  z_all : mg "all" = none
  z_bool : mg "bool" = none
  z_int : mg "int" = none
  z_isinstance : mg "isinstance" = none
  z_len : mg "len" = none
  z_max : mg "max" = none
  z_min : mg "min" = none
  z_range : mg "range" = none
  z_sum : mg "sum" = none
  z_tuple : mg "tuple" = none
  z_zip : mg "zip" = none
  t_MOST_BALLS : Tok
  m_MOST_BALLS : mg "MOST_BALLS" = some (.int 20 t_MOST_BALLS)
  t_MOST_DRAWN : Tok
  m_MOST_DRAWN : mg "MOST_DRAWN" = some (.int 20 t_MOST_DRAWN)
  t_MOST_KINDS : Tok
  m_MOST_KINDS : mg "MOST_KINDS" = some (.int 4 t_MOST_KINDS)
  t_MOST_PUT : Tok
  m_MOST_PUT : mg "MOST_PUT" = some (.int 5 t_MOST_PUT)
section
variable {P : Program} {w : World} {K : PySem.W.Frag} {mg : Str → Option Value} {base : Heap}
abbrev N_is_whole : List Str := ["thing"]
theorem sc_is_whole : FnScope N_is_whole ["thing"] (defScope s_is_whole) := ⟨rfl, rfl, rfl, by decide +kernel, rfl, by decide +kernel, by decide +kernel⟩
theorem b_is_whole (T : Tx K mg) : Binds K T.fd_is_whole ["thing"] [] := T.F_is_whole.binds fun _ _ _ _ _ _ us hl => match us, hl with | [_], _ => rfl
theorem ok_is_whole (T : Tx K mg) : FnOk P w K mg base (L2.CX P w) 1 T.f_is_whole T.fd_is_whole ["thing"] (spP ⟨P, w, K, mg⟩ m_is_whole) :=
  okP (N := N_is_whole) (fb := d_is_whole) T.F_is_whole sc_is_whole fun cdv A outer s H E hr => by
    have ps : Passes (L2.CX P w) (cxOf (L2.CX P w) P w K mg base N_is_whole "is_whole" (defScope s_is_whole) T.f_is_whole cdv A outer s H E) E := pass_on (takes_of rfl rfl rfl rfl)
    refine ⟨_, (by exact (pss_one (ps_ret (pe_and (pe_callB (k_isi (K := K)) (by rfl) T.z_isinstance bt_isinstance (pa_cons (pv 0) (pa_cons (pe_bltn (v := .ty "int") (by rfl) T.z_int bt_int rfl) pa_nil))) (pe_one (pe_not (pe_callB (k_isi (K := K)) (by rfl) T.z_isinstance bt_isinstance (pa_cons (pv 0) (pa_cons (pe_bltn (v := .ty "bool") (by rfl) T.z_bool bt_bool rfl) pa_nil))))))))), ?_⟩
    exact (sn_ret (dn_andV (dn_isi (T := "int") (by decide) (dn_var (i := 0))) (dn_notV (dn_isi (T := "bool") (by decide) (dn_var (i := 0))))))
abbrev N_is_between : List Str := ["thing", "least", "most"]
theorem sc_is_between : FnScope N_is_between ["thing", "least", "most"] (defScope s_is_between) := ⟨rfl, rfl, rfl, by decide +kernel, rfl, by decide +kernel, by decide +kernel⟩
theorem b_is_between (T : Tx K mg) : Binds K T.fd_is_between ["thing", "least", "most"] [] := T.F_is_between.binds fun _ _ _ _ _ _ us hl => match us, hl with | [_, _, _], _ => rfl
theorem ok_is_between (T : Tx K mg) : FnOk P w K mg base (L2.CX P w) 2 T.f_is_between T.fd_is_between ["thing", "least", "most"] (spP ⟨P, w, K, mg⟩ m_is_between) :=
  okP (N := N_is_between) (fb := d_is_between) T.F_is_between sc_is_between fun cdv A outer s H E hr => by
    have ps : Passes (L2.CX P w) (cxOf (L2.CX P w) P w K mg base N_is_between "is_between" (defScope s_is_between) T.f_is_between cdv A outer s H E) E := pass_on (takes_of rfl rfl rfl rfl)
    refine ⟨_, (by exact (pss_one (ps_ret (pe_and (pe_call (ok_is_whole (P := P) (w := w) (base := base) T) (hr.mono (by decide)) (by rfl) T.g_is_whole T.F_is_whole.kp (b_is_whole T) .nil ps (pa_cons (pv 0) pa_nil)) (pe_one (pe_chain g_le g_le (pv 1) (pv 0) (pv 2))))))), ?_⟩
    exact (sn_ret (dn_andV (dn_call (da_cons (dn_var (i := 0)) da_nil)) (dn_chain d_le d_le (dn_var (i := 1)) (dn_var (i := 0)) (dn_var (i := 2)))))
abbrev N_divisor : List Str := ["one", "other"]
theorem sc_divisor : FnScope N_divisor ["one", "other"] (defScope s_divisor) := ⟨rfl, rfl, rfl, by decide +kernel, rfl, by decide +kernel, by decide +kernel⟩
theorem b_divisor (T : Tx K mg) : Binds K T.fd_divisor ["one", "other"] [] := T.F_divisor.binds fun _ _ _ _ _ _ us hl => match us, hl with | [_, _], _ => rfl
theorem ok_divisor (T : Tx K mg) : FnOk P w K mg base (L2.CX P w) 1 T.f_divisor T.fd_divisor ["one", "other"] (spP ⟨P, w, K, mg⟩ m_divisor) :=
  okP (N := N_divisor) (fb := d_divisor) T.F_divisor sc_divisor fun cdv A outer s H E hr => by
    have ps : Passes (L2.CX P w) (cxOf (L2.CX P w) P w K mg base N_divisor "divisor" (defScope s_divisor) T.f_divisor cdv A outer s H E) E := pass_on (takes_of rfl rfl rfl rfl)
    refine ⟨_, (by exact (pss_cons (ps_while (passes_of rfl) (pt_cmpR (k_ne (K := K) hr.units) (pv 1) pe_int (nomark _)) (pss_one (ps_par (i := 0) (j := 1) rfl sc_divisor.nd rfl rfl (by decide) rfl rfl (pa_cons (pv 1) (pa_cons (pe_op g_mod (pv 0) (pv 1)) pa_nil)) (by rfl)))) (pss_one (ps_ret (pe_callB g_abs (by rfl) T.z_abs bt_abs (pa_cons (pv 0) pa_nil)))))), ?_⟩
    exact (sn_seq (sn_while fu_divisor (dt_val (dn_op d_ne (dn_var (i := 1)) dn_int)) (sn_par (da_cons (dn_var (i := 1)) (da_cons (dn_op d_mod (dn_var (i := 0)) (dn_var (i := 1))) da_nil)))) (sn_ret (dn_cb d_abs (da_cons (dn_var (i := 0)) da_nil))))
abbrev N_fraction : List Str := ["top", "bottom", "part"]
theorem sc_fraction : FnScope N_fraction ["top", "bottom"] (defScope s_fraction) := ⟨rfl, rfl, rfl, by decide +kernel, rfl, by decide +kernel, by decide +kernel⟩
theorem b_fraction (T : Tx K mg) : Binds K T.fd_fraction ["top", "bottom"] [] := T.F_fraction.binds fun _ _ _ _ _ _ us hl => match us, hl with | [_, _], _ => rfl
theorem ok_fraction (T : Tx K mg) : FnOk P w K mg base (L2.CX P w) 2 T.f_fraction T.fd_fraction ["top", "bottom"] (spP ⟨P, w, K, mg⟩ m_fraction) :=
  okP (N := N_fraction) (fb := d_fraction) T.F_fraction sc_fraction fun cdv A outer s H E hr => by
    have ps : Passes (L2.CX P w) (cxOf (L2.CX P w) P w K mg base N_fraction "fraction" (defScope s_fraction) T.f_fraction cdv A outer s H E) E := pass_on (takes_of rfl rfl rfl rfl)
    refine ⟨_, (by exact (pss_cons (ps_set (i := 2) sc_fraction.nd rfl (.inl rfl) (pe_call (ok_divisor (P := P) (w := w) (base := base) T) (hr.mono (by decide)) (by rfl) T.g_divisor T.F_divisor.kp (b_divisor T) .nil ps (pa_cons (pv 1) (pa_cons (pv 0) pa_nil)))) (pss_one (ps_ret (pe_tup (pa_cons (pe_op g_fdiv (pv 0) (pv 2)) (pa_cons (pe_op g_fdiv (pv 1) (pv 2)) pa_nil))))))), ?_⟩
    exact (sn_seq (sn_asg (dn_call (da_cons (dn_var (i := 1)) (da_cons (dn_var (i := 0)) da_nil))) dg_name) (sn_ret (dn_tup (da_cons (dn_op d_fdiv (dn_var (i := 0)) (dn_var (i := 2))) (da_cons (dn_op d_fdiv (dn_var (i := 1)) (dn_var (i := 2))) da_nil)))))
abbrev N_by : List Str := ["one", "other"]
theorem sc_by : FnScope N_by ["one", "other"] (defScope s_by) := ⟨rfl, rfl, rfl, by decide +kernel, rfl, by decide +kernel, by decide +kernel⟩
theorem b_by (T : Tx K mg) : Binds K T.fd_by ["one", "other"] [] := T.F_by.binds fun _ _ _ _ _ _ us hl => match us, hl with | [_, _], _ => rfl
theorem ok_by (T : Tx K mg) : FnOk P w K mg base (L2.CX P w) 3 T.f_by T.fd_by ["one", "other"] (spP ⟨P, w, K, mg⟩ m_by) :=
  okP (N := N_by) (fb := d_by) T.F_by sc_by fun cdv A outer s H E hr => by
    have ps : Passes (L2.CX P w) (cxOf (L2.CX P w) P w K mg base N_by "by" (defScope s_by) T.f_by cdv A outer s H E) E := pass_on (takes_of rfl rfl rfl rfl)
    refine ⟨_, (by exact (pss_one (ps_ret (pe_call (ok_fraction (P := P) (w := w) (base := base) T) (hr.mono (by decide)) (by rfl) T.g_fraction T.F_fraction.kp (b_fraction T) .nil ps (pa_cons (pe_op (k_mul (K := K)) (pe_ix (k_ix (K := K)) (pv 0) pe_int (fun _ _ => rfl)) (pe_ix (k_ix (K := K)) (pv 1) pe_int (fun _ _ => rfl))) (pa_cons (pe_op (k_mul (K := K)) (pe_ix (k_ix (K := K)) (pv 0) pe_int (fun _ _ => rfl)) (pe_ix (k_ix (K := K)) (pv 1) pe_int (fun _ _ => rfl))) pa_nil)))))), ?_⟩
    exact (sn_ret (dn_call (da_cons (dn_op d_mul (dn_op d_ix (dn_var (i := 0)) dn_int) (dn_op d_ix (dn_var (i := 1)) dn_int)) (da_cons (dn_op d_mul (dn_op d_ix (dn_var (i := 0)) dn_int) (dn_op d_ix (dn_var (i := 1)) dn_int)) da_nil))))
abbrev N_is_urn : List Str := ["thing", "many"]
theorem sc_is_urn : FnScope N_is_urn ["thing"] (defScope s_is_urn) := ⟨rfl, rfl, rfl, by decide +kernel, rfl, by decide +kernel, by decide +kernel⟩
theorem b_is_urn (T : Tx K mg) : Binds K T.fd_is_urn ["thing"] [] := T.F_is_urn.binds fun _ _ _ _ _ _ us hl => match us, hl with | [_], _ => rfl
theorem ok_is_urn (T : Tx K mg) : FnOk P w K mg base (L2.CX P w) 3 T.f_is_urn T.fd_is_urn ["thing"] (spP ⟨P, w, K, mg⟩ m_is_urn) :=
  okP (N := N_is_urn) (fb := d_is_urn) T.F_is_urn sc_is_urn fun cdv A outer s H E hr => by
    have ps : Passes (L2.CX P w) (cxOf (L2.CX P w) P w K mg base N_is_urn "is_urn" (defScope s_is_urn) T.f_is_urn cdv A outer s H E) E := pass_on (takes_of rfl rfl rfl rfl)
    refine ⟨_, (by exact (pss_cons (ps_if (PW.pt (pw_or (pt_not (pt_val (pe_callB (k_isi (K := K)) (by rfl) T.z_isinstance bt_isinstance (pa_cons (pv 0) (pa_cons (pe_bltn (v := .ty "tuple") (by rfl) T.z_tuple bt_tuple rfl) pa_nil))))) (pw_or1 (pt_not (pt_chain g_le g_le pe_int (pe_callB (k_len (K := K)) (by rfl) T.z_len bt_len (pa_cons (pv 0) pa_nil)) (pe_glob (v := .int 4) (by rfl) T.m_MOST_KINDS ⟨_, rfl⟩)))))) (pss_one (ps_ret pe_bl)) pss_nil) (pss_one (ps_ret (pe_and (pe_callB (k_all (K := K) rfl) (by rfl) T.z_all bt_all (pa_cons (pe_lc (own := [("many", 1)]) rfl sc_is_urn.nd (kpi_any (K := K) (pv 0)) (blkOk_by (N := N_is_urn) (sc := (defScope s_is_urn)) (by decide +kernel)) (fun _ _ _ _ _ => (pg_name (i := 1) sc_is_urn.nd rfl (.inl rfl))) (fun _ _ _ _ _ => pts_nil) (fun _ _ _ _ _ => (pe_call (ok_is_between (P := P) (w := w) (base := base) T) (hr.mono (by decide)) (by rfl) T.g_is_between T.F_is_between.kp (b_is_between T) .nil passL (pa_cons (pv 1) (pa_cons pe_int (pa_cons (pe_glob (v := .int 20) (by rfl) T.m_MOST_BALLS ⟨_, rfl⟩) pa_nil)))))) pa_nil)) (pe_one (pe_cmpR g_gt (pe_callB (k_sum (K := K) rfl) (by rfl) T.z_sum bt_sum (pa_cons (pv 0) pa_nil)) pe_int (nomark _)))))))), ?_⟩
    exact (sn_seq (sn_if (dt_or (dt_not (dt_B (dn_isi (T := "tuple") (by decide) (dn_var (i := 0))))) (dt_not (dt_val (dn_chain d_le d_le dn_int (dn_cb d_len (da_cons (dn_var (i := 0)) da_nil)) dn_int)))) (sn_ret dn_bl) sn_next) (sn_ret (dn_andV (dn_cb d_all (da_cons (dn_lc (di_any (dn_var (i := 0))) (dc_name (by decide)) dt_yes (dn_call (da_cons (dn_var (i := 1)) (da_cons dn_int (da_cons dn_int da_nil))))) da_nil)) (dn_op d_gt (dn_cb d_sum (da_cons (dn_var (i := 0)) da_nil)) dn_int))))
abbrev N_is_rule_of : List Str := ["kinds", "thing", "line", "many"]
theorem sc_is_rule_of : FnScope N_is_rule_of ["kinds", "thing"] (defScope s_is_rule_of) := ⟨rfl, rfl, rfl, by decide +kernel, rfl, by decide +kernel, by decide +kernel⟩
theorem b_is_rule_of (T : Tx K mg) : Binds K T.fd_is_rule_of ["kinds", "thing"] [] := T.F_is_rule_of.binds fun _ _ _ _ _ _ us hl => match us, hl with | [_, _], _ => rfl
theorem ok_is_rule_of (T : Tx K mg) : FnOk P w K mg base (L2.CX P w) 3 T.f_is_rule_of T.fd_is_rule_of ["kinds", "thing"] (spP ⟨P, w, K, mg⟩ m_is_rule_of) :=
  okP (N := N_is_rule_of) (fb := d_is_rule_of) T.F_is_rule_of sc_is_rule_of fun cdv A outer s H E hr => by
    have ps : Passes (L2.CX P w) (cxOf (L2.CX P w) P w K mg base N_is_rule_of "is_rule_of" (defScope s_is_rule_of) T.f_is_rule_of cdv A outer s H E) E := pass_on (takes_of rfl rfl rfl rfl)
    refine ⟨_, (by exact (pss_cons (ps_if (PW.pt (pw_or (pt_not (pt_val (pe_callB (k_isi (K := K)) (by rfl) T.z_isinstance bt_isinstance (pa_cons (pv 1) (pa_cons (pe_bltn (v := .ty "tuple") (by rfl) T.z_tuple bt_tuple rfl) pa_nil))))) (pw_or1 (pt_cmpR (k_ne (K := K) hr.units) (pe_callB (k_len (K := K)) (by rfl) T.z_len bt_len (pa_cons (pv 1) pa_nil)) (pv 0) (nomark _))))) (pss_one (ps_ret pe_bl)) pss_nil) (pss_cons (ps_for (passes_of rfl) rfl (kpi_any (K := K) (pv 1)) (pg_name (i := 2) sc_is_rule_of.nd rfl (.inl rfl)) (pss_cons (ps_if (PW.pt (pw_or (pt_not (pt_val (pe_callB (k_isi (K := K)) (by rfl) T.z_isinstance bt_isinstance (pa_cons (pv 2) (pa_cons (pe_bltn (v := .ty "tuple") (by rfl) T.z_tuple bt_tuple rfl) pa_nil))))) (pw_or1 (pt_cmpR (k_ne (K := K) hr.units) (pe_callB (k_len (K := K)) (by rfl) T.z_len bt_len (pa_cons (pv 2) pa_nil)) (pv 0) (nomark _))))) (pss_one (ps_ret pe_bl)) pss_nil) (pss_one (ps_if (pt_not (pt_val (pe_callB (k_all (K := K) rfl) (by rfl) T.z_all bt_all (pa_cons (pe_lc (own := [("many", 3)]) rfl sc_is_rule_of.nd (kpi_any (K := K) (pv 2)) (blkOk_by (N := N_is_rule_of) (sc := (defScope s_is_rule_of)) (by decide +kernel)) (fun _ _ _ _ _ => (pg_name (i := 3) sc_is_rule_of.nd rfl (.inl rfl))) (fun _ _ _ _ _ => pts_nil) (fun _ _ _ _ _ => (pe_call (ok_is_between (P := P) (w := w) (base := base) T) (hr.mono (by decide)) (by rfl) T.g_is_between T.F_is_between.kp (b_is_between T) .nil passL (pa_cons (pv 3) (pa_cons pe_int (pa_cons (pe_glob (v := .int 5) (by rfl) T.m_MOST_PUT ⟨_, rfl⟩) pa_nil)))))) pa_nil)))) (pss_one (ps_ret pe_bl)) pss_nil)))) (pss_one (ps_ret pe_bl))))), ?_⟩
    exact (sn_seq (sn_if (dt_or (dt_not (dt_B (dn_isi (T := "tuple") (by decide) (dn_var (i := 1))))) (dt_val (dn_op d_ne (dn_cb d_len (da_cons (dn_var (i := 1)) da_nil)) (dn_var (i := 0))))) (sn_ret dn_bl) sn_next) (sn_seq (sn_for (di_any (dn_var (i := 1))) dg_name (sn_seq (sn_if (dt_or (dt_not (dt_B (dn_isi (T := "tuple") (by decide) (dn_var (i := 2))))) (dt_val (dn_op d_ne (dn_cb d_len (da_cons (dn_var (i := 2)) da_nil)) (dn_var (i := 0))))) (sn_ret dn_bl) sn_next) (sn_if (dt_not (dt_B (dn_cb d_all (da_cons (dn_lc (di_any (dn_var (i := 2))) (dc_name (by decide)) dt_yes (dn_call (da_cons (dn_var (i := 3)) (da_cons dn_int (da_cons dn_int da_nil))))) da_nil)))) (sn_ret dn_bl) sn_next))) (sn_ret dn_bl)))
abbrev N_need_number : List Str := ["thing", "least", "most"]
theorem sc_need_number : FnScope N_need_number ["thing", "least", "most"] (defScope s_need_number) := ⟨rfl, rfl, rfl, by decide +kernel, rfl, by decide +kernel, by decide +kernel⟩
theorem b_need_number (T : Tx K mg) : Binds K T.fd_need_number ["thing", "least", "most"] [] := T.F_need_number.binds fun _ _ _ _ _ _ us hl => match us, hl with | [_, _, _], _ => rfl
theorem ok_need_number (T : Tx K mg) : FnOk P w K mg base (L2.CX P w) 3 T.f_need_number T.fd_need_number ["thing", "least", "most"] (spP ⟨P, w, K, mg⟩ m_need_number) :=
  okP (N := N_need_number) (fb := d_need_number) T.F_need_number sc_need_number fun cdv A outer s H E hr => by
    have ps : Passes (L2.CX P w) (cxOf (L2.CX P w) P w K mg base N_need_number "need_number" (defScope s_need_number) T.f_need_number cdv A outer s H E) E := pass_on (takes_of rfl rfl rfl rfl)
    refine ⟨_, (by exact (pss_one (ps_if (pt_not (pt_val (pe_call (ok_is_between (P := P) (w := w) (base := base) T) (hr.mono (by decide)) (by rfl) T.g_is_between T.F_is_between.kp (b_is_between T) .nil ps (pa_cons (pv 0) (pa_cons (pv 1) (pa_cons (pv 2) pa_nil)))))) (pss_one ps_never) pss_nil))), ?_⟩
    exact (sn_if (dt_not (dt_B (dn_call (da_cons (dn_var (i := 0)) (da_cons (dn_var (i := 1)) (da_cons (dn_var (i := 2)) da_nil)))))) sn_never sn_next)
abbrev N_is_rule : List Str := ["kinds", "thing"]
theorem sc_is_rule : FnScope N_is_rule ["kinds", "thing"] (defScope s_is_rule) := ⟨rfl, rfl, rfl, by decide +kernel, rfl, by decide +kernel, by decide +kernel⟩
theorem b_is_rule (T : Tx K mg) : Binds K T.fd_is_rule ["kinds", "thing"] [] := T.F_is_rule.binds fun _ _ _ _ _ _ us hl => match us, hl with | [_, _], _ => rfl
theorem ok_is_rule (T : Tx K mg) : FnOk P w K mg base (L2.CX P w) 4 T.f_is_rule T.fd_is_rule ["kinds", "thing"] (spP ⟨P, w, K, mg⟩ m_is_rule) :=
  okP (N := N_is_rule) (fb := d_is_rule) T.F_is_rule sc_is_rule fun cdv A outer s H E hr => by
    have ps : Passes (L2.CX P w) (cxOf (L2.CX P w) P w K mg base N_is_rule "is_rule" (defScope s_is_rule) T.f_is_rule cdv A outer s H E) E := pass_on (takes_of rfl rfl rfl rfl)
    refine ⟨_, (by exact (pss_cons (ps_expr (pe_call (ok_need_number (P := P) (w := w) (base := base) T) (hr.mono (by decide)) (by rfl) T.g_need_number T.F_need_number.kp (b_need_number T) .nil ps (pa_cons (pv 0) (pa_cons pe_int (pa_cons (pe_glob (v := .int 4) (by rfl) T.m_MOST_KINDS ⟨_, rfl⟩) pa_nil))))) (pss_one (ps_ret (pe_call (ok_is_rule_of (P := P) (w := w) (base := base) T) (hr.mono (by decide)) (by rfl) T.g_is_rule_of T.F_is_rule_of.kp (b_is_rule_of T) .nil ps (pa_cons (pv 0) (pa_cons (pv 1) pa_nil))))))), ?_⟩
    exact (sn_seq (sn_drop (dn_call (da_cons (dn_var (i := 0)) (da_cons dn_int (da_cons dn_int da_nil))))) (sn_ret (dn_call (da_cons (dn_var (i := 0)) (da_cons (dn_var (i := 1)) da_nil)))))
abbrev N_need_urn : List Str := ["urn"]
theorem sc_need_urn : FnScope N_need_urn ["urn"] (defScope s_need_urn) := ⟨rfl, rfl, rfl, by decide +kernel, rfl, by decide +kernel, by decide +kernel⟩
theorem b_need_urn (T : Tx K mg) : Binds K T.fd_need_urn ["urn"] [] := T.F_need_urn.binds fun _ _ _ _ _ _ us hl => match us, hl with | [_], _ => rfl
theorem ok_need_urn (T : Tx K mg) : FnOk P w K mg base (L2.CX P w) 4 T.f_need_urn T.fd_need_urn ["urn"] (spP ⟨P, w, K, mg⟩ m_need_urn) :=
  okP (N := N_need_urn) (fb := d_need_urn) T.F_need_urn sc_need_urn fun cdv A outer s H E hr => by
    have ps : Passes (L2.CX P w) (cxOf (L2.CX P w) P w K mg base N_need_urn "need_urn" (defScope s_need_urn) T.f_need_urn cdv A outer s H E) E := pass_on (takes_of rfl rfl rfl rfl)
    refine ⟨_, (by exact (pss_one (ps_if (pt_not (pt_val (pe_call (ok_is_urn (P := P) (w := w) (base := base) T) (hr.mono (by decide)) (by rfl) T.g_is_urn T.F_is_urn.kp (b_is_urn T) .nil ps (pa_cons (pv 0) pa_nil)))) (pss_one ps_never) pss_nil))), ?_⟩
    exact (sn_if (dt_not (dt_B (dn_call (da_cons (dn_var (i := 0)) da_nil)))) sn_never sn_next)
abbrev N_need_rule : List Str := ["kinds", "rule"]
theorem sc_need_rule : FnScope N_need_rule ["kinds", "rule"] (defScope s_need_rule) := ⟨rfl, rfl, rfl, by decide +kernel, rfl, by decide +kernel, by decide +kernel⟩
theorem b_need_rule (T : Tx K mg) : Binds K T.fd_need_rule ["kinds", "rule"] [] := T.F_need_rule.binds fun _ _ _ _ _ _ us hl => match us, hl with | [_, _], _ => rfl
theorem ok_need_rule (T : Tx K mg) : FnOk P w K mg base (L2.CX P w) 4 T.f_need_rule T.fd_need_rule ["kinds", "rule"] (spP ⟨P, w, K, mg⟩ m_need_rule) :=
  okP (N := N_need_rule) (fb := d_need_rule) T.F_need_rule sc_need_rule fun cdv A outer s H E hr => by
    have ps : Passes (L2.CX P w) (cxOf (L2.CX P w) P w K mg base N_need_rule "need_rule" (defScope s_need_rule) T.f_need_rule cdv A outer s H E) E := pass_on (takes_of rfl rfl rfl rfl)
    refine ⟨_, (by exact (pss_one (ps_if (pt_not (pt_val (pe_call (ok_is_rule_of (P := P) (w := w) (base := base) T) (hr.mono (by decide)) (by rfl) T.g_is_rule_of T.F_is_rule_of.kp (b_is_rule_of T) .nil ps (pa_cons (pv 0) (pa_cons (pv 1) pa_nil))))) (pss_one ps_never) pss_nil))), ?_⟩
    exact (sn_if (dt_not (dt_B (dn_call (da_cons (dn_var (i := 0)) (da_cons (dn_var (i := 1)) da_nil))))) sn_never sn_next)
abbrev N_need_kind : List Str := ["urn", "kind"]
theorem sc_need_kind : FnScope N_need_kind ["urn", "kind"] (defScope s_need_kind) := ⟨rfl, rfl, rfl, by decide +kernel, rfl, by decide +kernel, by decide +kernel⟩
theorem b_need_kind (T : Tx K mg) : Binds K T.fd_need_kind ["urn", "kind"] [] := T.F_need_kind.binds fun _ _ _ _ _ _ us hl => match us, hl with | [_, _], _ => rfl
theorem ok_need_kind (T : Tx K mg) : FnOk P w K mg base (L2.CX P w) 3 T.f_need_kind T.fd_need_kind ["urn", "kind"] (spP ⟨P, w, K, mg⟩ m_need_kind) :=
  okP (N := N_need_kind) (fb := d_need_kind) T.F_need_kind sc_need_kind fun cdv A outer s H E hr => by
    have ps : Passes (L2.CX P w) (cxOf (L2.CX P w) P w K mg base N_need_kind "need_kind" (defScope s_need_kind) T.f_need_kind cdv A outer s H E) E := pass_on (takes_of rfl rfl rfl rfl)
    refine ⟨_, (by exact (pss_one (ps_if (pt_not (pt_val (pe_call (ok_is_between (P := P) (w := w) (base := base) T) (hr.mono (by decide)) (by rfl) T.g_is_between T.F_is_between.kp (b_is_between T) .nil ps (pa_cons (pv 1) (pa_cons pe_int (pa_cons (pe_op g_sub (pe_callB (k_len (K := K)) (by rfl) T.z_len bt_len (pa_cons (pv 0) pa_nil)) pe_int) pa_nil)))))) (pss_one ps_never) pss_nil))), ?_⟩
    exact (sn_if (dt_not (dt_B (dn_call (da_cons (dn_var (i := 1)) (da_cons dn_int (da_cons (dn_op d_sub (dn_cb d_len (da_cons (dn_var (i := 0)) da_nil)) dn_int) da_nil)))))) sn_never sn_next)
abbrev N_share : List Str := ["urn", "kind"]
theorem sc_share : FnScope N_share ["urn", "kind"] (defScope s_share) := ⟨rfl, rfl, rfl, by decide +kernel, rfl, by decide +kernel, by decide +kernel⟩
theorem b_share (T : Tx K mg) : Binds K T.fd_share ["urn", "kind"] [] := T.F_share.binds fun _ _ _ _ _ _ us hl => match us, hl with | [_, _], _ => rfl
theorem ok_share (T : Tx K mg) : FnOk P w K mg base (L2.CX P w) 3 T.f_share T.fd_share ["urn", "kind"] (spP ⟨P, w, K, mg⟩ m_share) :=
  okP (N := N_share) (fb := d_share) T.F_share sc_share fun cdv A outer s H E hr => by
    have ps : Passes (L2.CX P w) (cxOf (L2.CX P w) P w K mg base N_share "share" (defScope s_share) T.f_share cdv A outer s H E) E := pass_on (takes_of rfl rfl rfl rfl)
    refine ⟨_, (by exact (pss_one (ps_ret (pe_call (ok_fraction (P := P) (w := w) (base := base) T) (hr.mono (by decide)) (by rfl) T.g_fraction T.F_fraction.kp (b_fraction T) .nil ps (pa_cons (pe_ix (k_ix (K := K)) (pv 0) (pv 1) (fun _ _ => rfl)) (pa_cons (pe_callB (k_sum (K := K) rfl) (by rfl) T.z_sum bt_sum (pa_cons (pv 0) pa_nil)) pa_nil)))))), ?_⟩
    exact (sn_ret (dn_call (da_cons (dn_op d_ix (dn_var (i := 0)) (dn_var (i := 1))) (da_cons (dn_cb d_sum (da_cons (dn_var (i := 0)) da_nil)) da_nil))))
abbrev N_chance : List Str := ["urn", "kind"]
theorem sc_chance : FnScope N_chance ["urn", "kind"] (defScope s_chance) := ⟨rfl, rfl, rfl, by decide +kernel, rfl, by decide +kernel, by decide +kernel⟩
theorem b_chance (T : Tx K mg) : Binds K T.fd_chance ["urn", "kind"] [] := T.F_chance.binds fun _ _ _ _ _ _ us hl => match us, hl with | [_, _], _ => rfl
theorem ok_chance (T : Tx K mg) : FnOk P w K mg base (L2.CX P w) 5 T.f_chance T.fd_chance ["urn", "kind"] (spP ⟨P, w, K, mg⟩ m_chance) :=
  okP (N := N_chance) (fb := d_chance) T.F_chance sc_chance fun cdv A outer s H E hr => by
    have ps : Passes (L2.CX P w) (cxOf (L2.CX P w) P w K mg base N_chance "chance" (defScope s_chance) T.f_chance cdv A outer s H E) E := pass_on (takes_of rfl rfl rfl rfl)
    refine ⟨_, (by exact (pss_cons (ps_expr (pe_call (ok_need_urn (P := P) (w := w) (base := base) T) (hr.mono (by decide)) (by rfl) T.g_need_urn T.F_need_urn.kp (b_need_urn T) .nil ps (pa_cons (pv 0) pa_nil))) (pss_cons (ps_expr (pe_call (ok_need_kind (P := P) (w := w) (base := base) T) (hr.mono (by decide)) (by rfl) T.g_need_kind T.F_need_kind.kp (b_need_kind T) .nil ps (pa_cons (pv 0) (pa_cons (pv 1) pa_nil)))) (pss_one (ps_ret (pe_call (ok_share (P := P) (w := w) (base := base) T) (hr.mono (by decide)) (by rfl) T.g_share T.F_share.kp (b_share T) .nil ps (pa_cons (pv 0) (pa_cons (pv 1) pa_nil)))))))), ?_⟩
    exact (sn_seq (sn_drop (dn_call (da_cons (dn_var (i := 0)) da_nil))) (sn_seq (sn_drop (dn_call (da_cons (dn_var (i := 0)) (da_cons (dn_var (i := 1)) da_nil)))) (sn_ret (dn_call (da_cons (dn_var (i := 0)) (da_cons (dn_var (i := 1)) da_nil))))))
abbrev N_put_behind : List Str := ["urn", "rule", "kind", "many", "more"]
theorem sc_put_behind : FnScope N_put_behind ["urn", "rule", "kind"] (defScope s_put_behind) := ⟨rfl, rfl, rfl, by decide +kernel, rfl, by decide +kernel, by decide +kernel⟩
theorem b_put_behind (T : Tx K mg) : Binds K T.fd_put_behind ["urn", "rule", "kind"] [] := T.F_put_behind.binds fun _ _ _ _ _ _ us hl => match us, hl with | [_, _, _], _ => rfl
theorem ok_put_behind (T : Tx K mg) : FnOk P w K mg base (L2.CX P w) 1 T.f_put_behind T.fd_put_behind ["urn", "rule", "kind"] (spP ⟨P, w, K, mg⟩ m_put_behind) :=
  okP (N := N_put_behind) (fb := d_put_behind) T.F_put_behind sc_put_behind fun cdv A outer s H E hr => by
    have ps : Passes (L2.CX P w) (cxOf (L2.CX P w) P w K mg base N_put_behind "put_behind" (defScope s_put_behind) T.f_put_behind cdv A outer s H E) E := pass_on (takes_of rfl rfl rfl rfl)
    refine ⟨_, (by exact (pss_one (ps_ret (pe_callTy (k_tuple (K := K)) (by rfl) T.z_tuple bt_tuple (pa_cons (pe_lc (own := [("many", 3), ("more", 4)]) rfl sc_put_behind.nd (kpi_zip (K := K) (by rfl) T.z_zip (pa_cons (pv 0) (pa_cons (pe_ix (k_ix (K := K)) (pv 1) (pv 2) (fun _ _ => rfl)) pa_nil))) (blkOk_by (N := N_put_behind) (sc := (defScope s_put_behind)) (by decide +kernel)) (fun _ _ _ _ _ => (kpg_tup (K := K) (n := 2) rfl (pgs_cons (pg_name (i := 3) sc_put_behind.nd rfl (.inl rfl)) (pgs_cons (pg_name (i := 4) sc_put_behind.nd rfl (.inl rfl)) pgs_nil)))) (fun _ _ _ _ _ => pts_nil) (fun _ _ _ _ _ => (pe_op (k_add (K := K)) (pv 3) (pv 4)))) pa_nil))))), ?_⟩
    exact (sn_ret (dn_cb d_tuple (da_cons (dn_lc (di_zip (da_cons (dn_var (i := 0)) (da_cons (dn_op d_ix (dn_var (i := 1)) (dn_var (i := 2))) da_nil))) (dc_tup rfl (dcs_cons (dc_name (by decide)) (dcs_cons (dc_name (by decide)) dcs_nil))) dt_yes (dn_op d_add (dn_var (i := 3)) (dn_var (i := 4)))) da_nil)))
abbrev N_after : List Str := ["urn", "rule", "kind"]
theorem sc_after : FnScope N_after ["urn", "rule", "kind"] (defScope s_after) := ⟨rfl, rfl, rfl, by decide +kernel, rfl, by decide +kernel, by decide +kernel⟩
theorem b_after (T : Tx K mg) : Binds K T.fd_after ["urn", "rule", "kind"] [] := T.F_after.binds fun _ _ _ _ _ _ us hl => match us, hl with | [_, _, _], _ => rfl
theorem ok_after (T : Tx K mg) : FnOk P w K mg base (L2.CX P w) 5 T.f_after T.fd_after ["urn", "rule", "kind"] (spP ⟨P, w, K, mg⟩ m_after) :=
  okP (N := N_after) (fb := d_after) T.F_after sc_after fun cdv A outer s H E hr => by
    have ps : Passes (L2.CX P w) (cxOf (L2.CX P w) P w K mg base N_after "after" (defScope s_after) T.f_after cdv A outer s H E) E := pass_on (takes_of rfl rfl rfl rfl)
    refine ⟨_, (by exact (pss_cons (ps_expr (pe_call (ok_need_urn (P := P) (w := w) (base := base) T) (hr.mono (by decide)) (by rfl) T.g_need_urn T.F_need_urn.kp (b_need_urn T) .nil ps (pa_cons (pv 0) pa_nil))) (pss_cons (ps_expr (pe_call (ok_need_rule (P := P) (w := w) (base := base) T) (hr.mono (by decide)) (by rfl) T.g_need_rule T.F_need_rule.kp (b_need_rule T) .nil ps (pa_cons (pe_callB (k_len (K := K)) (by rfl) T.z_len bt_len (pa_cons (pv 0) pa_nil)) (pa_cons (pv 1) pa_nil)))) (pss_cons (ps_expr (pe_call (ok_need_kind (P := P) (w := w) (base := base) T) (hr.mono (by decide)) (by rfl) T.g_need_kind T.F_need_kind.kp (b_need_kind T) .nil ps (pa_cons (pv 0) (pa_cons (pv 2) pa_nil)))) (pss_cons (ps_if (pt_cmpR (k_eq (K := K) hr.units) (pe_ix (k_ix (K := K)) (pv 0) (pv 2) (fun _ _ => rfl)) pe_int (nomark _)) (pss_one ps_never) pss_nil) (pss_one (ps_ret (pe_call (ok_put_behind (P := P) (w := w) (base := base) T) (hr.mono (by decide)) (by rfl) T.g_put_behind T.F_put_behind.kp (b_put_behind T) .nil ps (pa_cons (pv 0) (pa_cons (pv 1) (pa_cons (pv 2) pa_nil))))))))))), ?_⟩
    exact (sn_seq (sn_drop (dn_call (da_cons (dn_var (i := 0)) da_nil))) (sn_seq (sn_drop (dn_call (da_cons (dn_cb d_len (da_cons (dn_var (i := 0)) da_nil)) (da_cons (dn_var (i := 1)) da_nil)))) (sn_seq (sn_drop (dn_call (da_cons (dn_var (i := 0)) (da_cons (dn_var (i := 2)) da_nil)))) (sn_seq (sn_if (dt_val (dn_op d_eq (dn_op d_ix (dn_var (i := 0)) (dn_var (i := 2))) dn_int)) sn_never sn_next) (sn_ret (dn_call (da_cons (dn_var (i := 0)) (da_cons (dn_var (i := 1)) (da_cons (dn_var (i := 2)) da_nil)))))))))
abbrev N_need_draws : List Str := ["urn", "draws", "kind"]
theorem sc_need_draws : FnScope N_need_draws ["urn", "draws"] (defScope s_need_draws) := ⟨rfl, rfl, rfl, by decide +kernel, rfl, by decide +kernel, by decide +kernel⟩
theorem b_need_draws (T : Tx K mg) : Binds K T.fd_need_draws ["urn", "draws"] [] := T.F_need_draws.binds fun _ _ _ _ _ _ us hl => match us, hl with | [_, _], _ => rfl
theorem ok_need_draws (T : Tx K mg) : FnOk P w K mg base (L2.CX P w) 3 T.f_need_draws T.fd_need_draws ["urn", "draws"] (spP ⟨P, w, K, mg⟩ m_need_draws) :=
  okP (N := N_need_draws) (fb := d_need_draws) T.F_need_draws sc_need_draws fun cdv A outer s H E hr => by
    have ps : Passes (L2.CX P w) (cxOf (L2.CX P w) P w K mg base N_need_draws "need_draws" (defScope s_need_draws) T.f_need_draws cdv A outer s H E) E := pass_on (takes_of rfl rfl rfl rfl)
    refine ⟨_, (by exact (pss_cons (ps_if (PW.pt (pw_or (pt_not (pt_val (pe_callB (k_isi (K := K)) (by rfl) T.z_isinstance bt_isinstance (pa_cons (pv 1) (pa_cons (pe_bltn (v := .ty "tuple") (by rfl) T.z_tuple bt_tuple rfl) pa_nil))))) (pw_or1 (pt_cmpR g_gt (pe_callB (k_len (K := K)) (by rfl) T.z_len bt_len (pa_cons (pv 1) pa_nil)) (pe_glob (v := .int 20) (by rfl) T.m_MOST_DRAWN ⟨_, rfl⟩) (nomark _))))) (pss_one ps_never) pss_nil) (pss_one (ps_if (pt_not (pt_val (pe_callB (k_all (K := K) rfl) (by rfl) T.z_all bt_all (pa_cons (pe_lc (own := [("kind", 2)]) rfl sc_need_draws.nd (kpi_any (K := K) (pv 1)) (blkOk_by (N := N_need_draws) (sc := (defScope s_need_draws)) (by decide +kernel)) (fun _ _ _ _ _ => (pg_name (i := 2) sc_need_draws.nd rfl (.inl rfl))) (fun _ _ _ _ _ => pts_nil) (fun _ _ _ _ _ => (pe_call (ok_is_between (P := P) (w := w) (base := base) T) (hr.mono (by decide)) (by rfl) T.g_is_between T.F_is_between.kp (b_is_between T) .nil passL (pa_cons (pv 2) (pa_cons pe_int (pa_cons (pe_op g_sub (pe_callB (k_len (K := K)) (by rfl) T.z_len bt_len (pa_cons (pv 0) pa_nil)) pe_int) pa_nil)))))) pa_nil)))) (pss_one ps_never) pss_nil)))), ?_⟩
    exact (sn_seq (sn_if (dt_or (dt_not (dt_B (dn_isi (T := "tuple") (by decide) (dn_var (i := 1))))) (dt_val (dn_op d_gt (dn_cb d_len (da_cons (dn_var (i := 1)) da_nil)) dn_int))) sn_never sn_next) (sn_if (dt_not (dt_B (dn_cb d_all (da_cons (dn_lc (di_any (dn_var (i := 1))) (dc_name (by decide)) dt_yes (dn_call (da_cons (dn_var (i := 2)) (da_cons dn_int (da_cons (dn_op d_sub (dn_cb d_len (da_cons (dn_var (i := 0)) da_nil)) dn_int) da_nil))))) da_nil)))) sn_never sn_next))
abbrev N_gone_through : List Str := ["urn", "rule", "draws", "found", "kind"]
theorem sc_gone_through : FnScope N_gone_through ["urn", "rule", "draws"] (defScope s_gone_through) := ⟨rfl, rfl, rfl, by decide +kernel, rfl, by decide +kernel, by decide +kernel⟩
theorem b_gone_through (T : Tx K mg) : Binds K T.fd_gone_through ["urn", "rule", "draws"] [] := T.F_gone_through.binds fun _ _ _ _ _ _ us hl => match us, hl with | [_, _, _], _ => rfl
theorem ok_gone_through (T : Tx K mg) : FnOk P w K mg base (L2.CX P w) 4 T.f_gone_through T.fd_gone_through ["urn", "rule", "draws"] (spP ⟨P, w, K, mg⟩ m_gone_through) :=
  okP (N := N_gone_through) (fb := d_gone_through) T.F_gone_through sc_gone_through fun cdv A outer s H E hr => by
    have ps : Passes (L2.CX P w) (cxOf (L2.CX P w) P w K mg base N_gone_through "gone_through" (defScope s_gone_through) T.f_gone_through cdv A outer s H E) E := pass_on (takes_of rfl rfl rfl rfl)
    refine ⟨_, (by exact (pss_cons (ps_set (i := 3) sc_gone_through.nd rfl (.inl rfl) (pe_tup (pa_cons pe_int (pa_cons pe_int pa_nil)))) (pss_cons (ps_for (passes_of rfl) rfl (kpi_any (K := K) (pv 2)) (pg_name (i := 4) sc_gone_through.nd rfl (.inl rfl)) (pss_cons (ps_set (i := 3) sc_gone_through.nd rfl (.inl rfl) (pe_call (ok_by (P := P) (w := w) (base := base) T) (hr.mono (by decide)) (by rfl) T.g_by T.F_by.kp (b_by T) .nil ps (pa_cons (pv 3) (pa_cons (pe_call (ok_share (P := P) (w := w) (base := base) T) (hr.mono (by decide)) (by rfl) T.g_share T.F_share.kp (b_share T) .nil ps (pa_cons (pv 0) (pa_cons (pv 4) pa_nil))) pa_nil)))) (pss_one (ps_set (i := 0) sc_gone_through.nd rfl (.inl rfl) (pe_call (ok_put_behind (P := P) (w := w) (base := base) T) (hr.mono (by decide)) (by rfl) T.g_put_behind T.F_put_behind.kp (b_put_behind T) .nil ps (pa_cons (pv 0) (pa_cons (pv 1) (pa_cons (pv 4) pa_nil)))))))) (pss_one (ps_ret (pe_tup (pa_cons (pv 3) (pa_cons (pv 0) pa_nil)))))))), ?_⟩
    exact (sn_seq (sn_asg (dn_tup (da_cons dn_int (da_cons dn_int da_nil))) dg_name) (sn_seq (sn_for (di_any (dn_var (i := 2))) dg_name (sn_seq (sn_asg (dn_call (da_cons (dn_var (i := 3)) (da_cons (dn_call (da_cons (dn_var (i := 0)) (da_cons (dn_var (i := 4)) da_nil))) da_nil))) dg_name) (sn_asg (dn_call (da_cons (dn_var (i := 0)) (da_cons (dn_var (i := 1)) (da_cons (dn_var (i := 4)) da_nil)))) dg_name))) (sn_ret (dn_tup (da_cons (dn_var (i := 3)) (da_cons (dn_var (i := 0)) da_nil))))))
abbrev N_chance_of : List Str := ["urn", "rule", "draws"]
theorem sc_chance_of : FnScope N_chance_of ["urn", "rule", "draws"] (defScope s_chance_of) := ⟨rfl, rfl, rfl, by decide +kernel, rfl, by decide +kernel, by decide +kernel⟩
theorem b_chance_of (T : Tx K mg) : Binds K T.fd_chance_of ["urn", "rule", "draws"] [] := T.F_chance_of.binds fun _ _ _ _ _ _ us hl => match us, hl with | [_, _, _], _ => rfl
theorem ok_chance_of (T : Tx K mg) : FnOk P w K mg base (L2.CX P w) 5 T.f_chance_of T.fd_chance_of ["urn", "rule", "draws"] (spP ⟨P, w, K, mg⟩ m_chance_of) :=
  okP (N := N_chance_of) (fb := d_chance_of) T.F_chance_of sc_chance_of fun cdv A outer s H E hr => by
    have ps : Passes (L2.CX P w) (cxOf (L2.CX P w) P w K mg base N_chance_of "chance_of" (defScope s_chance_of) T.f_chance_of cdv A outer s H E) E := pass_on (takes_of rfl rfl rfl rfl)
    refine ⟨_, (by exact (pss_cons (ps_expr (pe_call (ok_need_urn (P := P) (w := w) (base := base) T) (hr.mono (by decide)) (by rfl) T.g_need_urn T.F_need_urn.kp (b_need_urn T) .nil ps (pa_cons (pv 0) pa_nil))) (pss_cons (ps_expr (pe_call (ok_need_rule (P := P) (w := w) (base := base) T) (hr.mono (by decide)) (by rfl) T.g_need_rule T.F_need_rule.kp (b_need_rule T) .nil ps (pa_cons (pe_callB (k_len (K := K)) (by rfl) T.z_len bt_len (pa_cons (pv 0) pa_nil)) (pa_cons (pv 1) pa_nil)))) (pss_cons (ps_expr (pe_call (ok_need_draws (P := P) (w := w) (base := base) T) (hr.mono (by decide)) (by rfl) T.g_need_draws T.F_need_draws.kp (b_need_draws T) .nil ps (pa_cons (pv 0) (pa_cons (pv 2) pa_nil)))) (pss_one (ps_ret (pe_ix (k_ix (K := K)) (pe_call (ok_gone_through (P := P) (w := w) (base := base) T) (hr.mono (by decide)) (by rfl) T.g_gone_through T.F_gone_through.kp (b_gone_through T) .nil ps (pa_cons (pv 0) (pa_cons (pv 1) (pa_cons (pv 2) pa_nil)))) pe_int (fun _ _ => rfl)))))))), ?_⟩
    exact (sn_seq (sn_drop (dn_call (da_cons (dn_var (i := 0)) da_nil))) (sn_seq (sn_drop (dn_call (da_cons (dn_cb d_len (da_cons (dn_var (i := 0)) da_nil)) (da_cons (dn_var (i := 1)) da_nil)))) (sn_seq (sn_drop (dn_call (da_cons (dn_var (i := 0)) (da_cons (dn_var (i := 2)) da_nil)))) (sn_ret (dn_op d_ix (dn_call (da_cons (dn_var (i := 0)) (da_cons (dn_var (i := 1)) (da_cons (dn_var (i := 2)) da_nil)))) dn_int)))))
abbrev N_urn_behind : List Str := ["urn", "rule", "draws"]
theorem sc_urn_behind : FnScope N_urn_behind ["urn", "rule", "draws"] (defScope s_urn_behind) := ⟨rfl, rfl, rfl, by decide +kernel, rfl, by decide +kernel, by decide +kernel⟩
theorem b_urn_behind (T : Tx K mg) : Binds K T.fd_urn_behind ["urn", "rule", "draws"] [] := T.F_urn_behind.binds fun _ _ _ _ _ _ us hl => match us, hl with | [_, _, _], _ => rfl
theorem ok_urn_behind (T : Tx K mg) : FnOk P w K mg base (L2.CX P w) 6 T.f_urn_behind T.fd_urn_behind ["urn", "rule", "draws"] (spP ⟨P, w, K, mg⟩ m_urn_behind) :=
  okP (N := N_urn_behind) (fb := d_urn_behind) T.F_urn_behind sc_urn_behind fun cdv A outer s H E hr => by
    have ps : Passes (L2.CX P w) (cxOf (L2.CX P w) P w K mg base N_urn_behind "urn_behind" (defScope s_urn_behind) T.f_urn_behind cdv A outer s H E) E := pass_on (takes_of rfl rfl rfl rfl)
    refine ⟨_, (by exact (pss_cons (ps_if (pt_cmpR (k_eq (K := K) hr.units) (pe_call (ok_chance_of (P := P) (w := w) (base := base) T) (hr.mono (by decide)) (by rfl) T.g_chance_of T.F_chance_of.kp (b_chance_of T) .nil ps (pa_cons (pv 0) (pa_cons (pv 1) (pa_cons (pv 2) pa_nil)))) (pe_tup (pa_cons pe_int (pa_cons pe_int pa_nil))) (nomark _)) (pss_one (ps_ret pe_non)) pss_nil) (pss_one (ps_ret (pe_ix (k_ix (K := K)) (pe_call (ok_gone_through (P := P) (w := w) (base := base) T) (hr.mono (by decide)) (by rfl) T.g_gone_through T.F_gone_through.kp (b_gone_through T) .nil ps (pa_cons (pv 0) (pa_cons (pv 1) (pa_cons (pv 2) pa_nil)))) pe_int (fun _ _ => rfl)))))), ?_⟩
    exact (sn_seq (sn_if (dt_val (dn_op d_eq (dn_call (da_cons (dn_var (i := 0)) (da_cons (dn_var (i := 1)) (da_cons (dn_var (i := 2)) da_nil)))) (dn_tup (da_cons dn_int (da_cons dn_int da_nil))))) (sn_ret dn_non) sn_next) (sn_ret (dn_op d_ix (dn_call (da_cons (dn_var (i := 0)) (da_cons (dn_var (i := 1)) (da_cons (dn_var (i := 2)) da_nil)))) dn_int)))
abbrev N__law_cell_at : List Str := ["_law_script", "_law_k"]
theorem sc__law_cell_at : FnScope N__law_cell_at ["_law_script", "_law_k"] (defScope s__law_cell_at) := ⟨rfl, rfl, rfl, by decide +kernel, rfl, by decide +kernel, by decide +kernel⟩
theorem b__law_cell_at (T : Tx K mg) : Binds K T.fd__law_cell_at ["_law_script", "_law_k"] [] := T.F__law_cell_at.binds fun _ _ _ _ _ _ us hl => match us, hl with | [_, _], _ => rfl
theorem ok__law_cell_at (T : Tx K mg) : FnOk P w K mg base (L2.CX P w) 1 T.f__law_cell_at T.fd__law_cell_at ["_law_script", "_law_k"] (spP ⟨P, w, K, mg⟩ m__law_cell_at) :=
  okP (N := N__law_cell_at) (fb := d__law_cell_at) T.F__law_cell_at sc__law_cell_at fun cdv A outer s H E hr => by
    have ps : Passes (L2.CX P w) (cxOf (L2.CX P w) P w K mg base N__law_cell_at "_law_cell_at" (defScope s__law_cell_at) T.f__law_cell_at cdv A outer s H E) E := pass_on (takes_of rfl rfl rfl rfl)
    refine ⟨_, (by exact (pss_cons (ps_if (pt_cmpR g_lt (pv 1) (pe_callB (k_len (K := K)) (by rfl) T.z_len bt_len (pa_cons (pv 0) pa_nil)) (nomark _)) (pss_one (ps_ret (pe_ix (k_ix (K := K)) (pv 0) (pv 1) (fun _ _ => rfl)))) pss_nil) (pss_one (ps_ret pe_int)))), ?_⟩
    exact (sn_seq (sn_if (dt_val (dn_op d_lt (dn_var (i := 1)) (dn_cb d_len (da_cons (dn_var (i := 0)) da_nil)))) (sn_ret (dn_op d_ix (dn_var (i := 0)) (dn_var (i := 1)))) sn_next) (sn_ret dn_int))
abbrev N__law_state : List Str := ["_law_script", "_law_k", "_law_cell"]
theorem sc__law_state : FnScope N__law_state ["_law_script", "_law_k"] (defScope s__law_state) := ⟨rfl, rfl, rfl, by decide +kernel, rfl, by decide +kernel, by decide +kernel⟩
theorem b__law_state (T : Tx K mg) : Binds K T.fd__law_state ["_law_script", "_law_k"] [] := T.F__law_state.binds fun _ _ _ _ _ _ us hl => match us, hl with | [_, _], _ => rfl
theorem ok__law_state (T : Tx K mg) : FnOk P w K mg base (L2.CX P w) 2 T.f__law_state T.fd__law_state ["_law_script", "_law_k"] (spP ⟨P, w, K, mg⟩ m__law_state) :=
  okP (N := N__law_state) (fb := d__law_state) T.F__law_state sc__law_state fun cdv A outer s H E hr => by
    have ps : Passes (L2.CX P w) (cxOf (L2.CX P w) P w K mg base N__law_state "_law_state" (defScope s__law_state) T.f__law_state cdv A outer s H E) E := pass_on (takes_of rfl rfl rfl rfl)
    refine ⟨_, (by exact (pss_cons (ps_set (i := 2) sc__law_state.nd rfl (.inl rfl) (pe_call (ok__law_cell_at (P := P) (w := w) (base := base) T) (hr.mono (by decide)) (by rfl) T.g__law_cell_at T.F__law_cell_at.kp (b__law_cell_at T) .nil ps (pa_cons (pv 0) (pa_cons (pv 1) pa_nil)))) (pss_cons (ps_if (pt_cmpR g_ge (pv 2) (pe_op g_pow pe_int pe_int) (nomark _)) (pss_one (ps_ret (pe_lst (pa_cons (pe_op g_sub (pv 2) (pe_op g_pow pe_int pe_int)) (pa_cons pe_bl pa_nil))))) pss_nil) (pss_one (ps_ret (pe_lst (pa_cons (pe_op g_mod (pv 2) pe_int) (pa_cons pe_bl pa_nil)))))))), ?_⟩
    exact (sn_seq (sn_asg (dn_call (da_cons (dn_var (i := 0)) (da_cons (dn_var (i := 1)) da_nil))) dg_name) (sn_seq (sn_if (dt_val (dn_op d_ge (dn_var (i := 2)) (dn_op d_pow dn_int dn_int))) (sn_ret (dn_lst (da_cons (dn_op d_sub (dn_var (i := 2)) (dn_op d_pow dn_int dn_int)) (da_cons dn_bl da_nil)))) sn_next) (sn_ret (dn_lst (da_cons (dn_op d_mod (dn_var (i := 2)) dn_int) (da_cons dn_bl da_nil))))))
abbrev N__law_take : List Str := ["_law_state_here", "_law_many", "_law_found", "_law_mixed"]
theorem sc__law_take : FnScope N__law_take ["_law_state_here", "_law_many"] (defScope s__law_take) := ⟨rfl, rfl, rfl, by decide +kernel, rfl, by decide +kernel, by decide +kernel⟩
theorem b__law_take (T : Tx K mg) : Binds K T.fd__law_take ["_law_state_here", "_law_many"] [] := T.F__law_take.binds fun _ _ _ _ _ _ us hl => match us, hl with | [_, _], _ => rfl
theorem ok__law_take (T : Tx K mg) : FnOk P w K mg base (L2.CX P w) 1 T.f__law_take T.fd__law_take ["_law_state_here", "_law_many"] (spS ⟨P, w, K, mg⟩ m__law_take) :=
  okS (N := N__law_take) (fb := d__law_take) T.F__law_take sc__law_take fun cdv A outer s H E hr => by
    have ps : Passes (L2.CX P w) (cxOf (L2.CX P w) P w K mg base N__law_take "_law_take" (defScope s__law_take) T.f__law_take cdv A outer s H E) E := pass_on (takes_of rfl rfl rfl rfl)
    refine ⟨_, (by exact (pss_cons (ps_if (pt_val (pe_ix (k_ix (K := K)) (pv 0) pe_int (fun _ _ => rfl))) (pss_cons (ps_set (i := 2) sc__law_take.nd rfl (.inl rfl) (pe_op g_mod (pe_ix (k_ix (K := K)) (pv 0) pe_int (fun _ _ => rfl)) (pv 1))) (pss_cons (ps_asg (pe_op g_fdiv (pe_ix (k_ix (K := K)) (pv 0) pe_int (fun _ _ => rfl)) (pv 1)) (pg_sub (pv 0) pe_int set_list)) (pss_one (ps_ret (pv 2))))) pss_nil) (pss_cons (ps_asg (pe_op g_mod (pe_op (k_add (K := K)) (pe_op (k_mul (K := K)) (pe_ix (k_ix (K := K)) (pv 0) pe_int (fun _ _ => rfl)) pe_int) pe_int) pe_int) (pg_sub (pv 0) pe_int set_list)) (pss_cons (ps_set (i := 3) sc__law_take.nd rfl (.inl rfl) (pe_op g_mod (pe_op (k_add (K := K)) (pe_op (k_add (K := K)) (pe_op (k_mul (K := K)) (pe_ix (k_ix (K := K)) (pv 0) pe_int (fun _ _ => rfl)) (pe_ix (k_ix (K := K)) (pv 0) pe_int (fun _ _ => rfl))) (pe_op (k_mul (K := K)) pe_int (pe_ix (k_ix (K := K)) (pv 0) pe_int (fun _ _ => rfl)))) pe_int) pe_int)) (pss_cons (ps_set (i := 3) sc__law_take.nd rfl (.inl rfl) (pe_op g_mod (pe_op (k_add (K := K)) (pe_op (k_mul (K := K)) (pv 3) (pv 3)) (pe_op (k_mul (K := K)) pe_int (pv 3))) pe_int)) (pss_one (ps_ret (pe_op g_mod (pe_op g_fdiv (pv 3) pe_int) (pv 1))))))))), ?_⟩
    exact (sn_seq (sn_if (dt_B (dn_op d_ix (dn_var (i := 0)) dn_int)) (sn_seq (sn_asg (dn_op d_mod (dn_op d_ix (dn_var (i := 0)) dn_int) (dn_var (i := 1))) dg_name) (sn_seq (sn_asg (dn_op d_fdiv (dn_op d_ix (dn_var (i := 0)) dn_int) (dn_var (i := 1))) (dg_sub (dn_var (i := 0)) dn_int)) (sn_ret (dn_var (i := 2))))) sn_next) (sn_seq (sn_asg (dn_op d_mod (dn_op d_add (dn_op d_mul (dn_op d_ix (dn_var (i := 0)) dn_int) dn_int) dn_int) dn_int) (dg_sub (dn_var (i := 0)) dn_int)) (sn_seq (sn_asg (dn_op d_mod (dn_op d_add (dn_op d_add (dn_op d_mul (dn_op d_ix (dn_var (i := 0)) dn_int) (dn_op d_ix (dn_var (i := 0)) dn_int)) (dn_op d_mul dn_int (dn_op d_ix (dn_var (i := 0)) dn_int))) dn_int) dn_int) dg_name) (sn_seq (sn_asg (dn_op d_mod (dn_op d_add (dn_op d_mul (dn_var (i := 3)) (dn_var (i := 3))) (dn_op d_mul dn_int (dn_var (i := 3)))) dn_int) dg_name) (sn_ret (dn_op d_mod (dn_op d_fdiv (dn_var (i := 3)) dn_int) (dn_var (i := 1))))))))
abbrev N__law_cut : List Str := ["_law_top", "_law_bottom", "_law_one", "_law_other"]
theorem sc__law_cut : FnScope N__law_cut ["_law_top", "_law_bottom"] (defScope s__law_cut) := ⟨rfl, rfl, rfl, by decide +kernel, rfl, by decide +kernel, by decide +kernel⟩
theorem b__law_cut (T : Tx K mg) : Binds K T.fd__law_cut ["_law_top", "_law_bottom"] [] := T.F__law_cut.binds fun _ _ _ _ _ _ us hl => match us, hl with | [_, _], _ => rfl
theorem ok__law_cut (T : Tx K mg) : FnOk P w K mg base (L2.CX P w) 1 T.f__law_cut T.fd__law_cut ["_law_top", "_law_bottom"] (spP ⟨P, w, K, mg⟩ m__law_cut) :=
  okP (N := N__law_cut) (fb := d__law_cut) T.F__law_cut sc__law_cut fun cdv A outer s H E hr => by
    have ps : Passes (L2.CX P w) (cxOf (L2.CX P w) P w K mg base N__law_cut "_law_cut" (defScope s__law_cut) T.f__law_cut cdv A outer s H E) E := pass_on (takes_of rfl rfl rfl rfl)
    refine ⟨_, (by exact (pss_cons (ps_par (i := 2) (j := 3) rfl sc__law_cut.nd rfl rfl (by decide) rfl rfl (pa_cons (pe_callB g_abs (by rfl) T.z_abs bt_abs (pa_cons (pv 0) pa_nil)) (pa_cons (pv 1) pa_nil)) (by rfl)) (pss_cons (ps_while (passes_of rfl) (pt_cmpR g_gt (pv 3) pe_int (nomark _)) (pss_one (ps_par (i := 2) (j := 3) rfl sc__law_cut.nd rfl rfl (by decide) rfl rfl (pa_cons (pv 3) (pa_cons (pe_op g_mod (pv 2) (pv 3)) pa_nil)) (by rfl)))) (pss_one (ps_ret (pe_tup (pa_cons (pe_op g_fdiv (pv 0) (pv 2)) (pa_cons (pe_op g_fdiv (pv 1) (pv 2)) pa_nil)))))))), ?_⟩
    exact (sn_seq (sn_par (da_cons (dn_cb d_abs (da_cons (dn_var (i := 0)) da_nil)) (da_cons (dn_var (i := 1)) da_nil))) (sn_seq (sn_while fu__law_cut (dt_val (dn_op d_gt (dn_var (i := 3)) dn_int)) (sn_par (da_cons (dn_var (i := 3)) (da_cons (dn_op d_mod (dn_var (i := 2)) (dn_var (i := 3))) da_nil)))) (sn_ret (dn_tup (da_cons (dn_op d_fdiv (dn_var (i := 0)) (dn_var (i := 2))) (da_cons (dn_op d_fdiv (dn_var (i := 1)) (dn_var (i := 2))) da_nil))))))
abbrev N__law_plus : List Str := ["_law_one", "_law_other"]
theorem sc__law_plus : FnScope N__law_plus ["_law_one", "_law_other"] (defScope s__law_plus) := ⟨rfl, rfl, rfl, by decide +kernel, rfl, by decide +kernel, by decide +kernel⟩
theorem b__law_plus (T : Tx K mg) : Binds K T.fd__law_plus ["_law_one", "_law_other"] [] := T.F__law_plus.binds fun _ _ _ _ _ _ us hl => match us, hl with | [_, _], _ => rfl
theorem ok__law_plus (T : Tx K mg) : FnOk P w K mg base (L2.CX P w) 2 T.f__law_plus T.fd__law_plus ["_law_one", "_law_other"] (spP ⟨P, w, K, mg⟩ m__law_plus) :=
  okP (N := N__law_plus) (fb := d__law_plus) T.F__law_plus sc__law_plus fun cdv A outer s H E hr => by
    have ps : Passes (L2.CX P w) (cxOf (L2.CX P w) P w K mg base N__law_plus "_law_plus" (defScope s__law_plus) T.f__law_plus cdv A outer s H E) E := pass_on (takes_of rfl rfl rfl rfl)
    refine ⟨_, (by exact (pss_one (ps_ret (pe_call (ok__law_cut (P := P) (w := w) (base := base) T) (hr.mono (by decide)) (by rfl) T.g__law_cut T.F__law_cut.kp (b__law_cut T) .nil ps (pa_cons (pe_op (k_add (K := K)) (pe_op (k_mul (K := K)) (pe_ix (k_ix (K := K)) (pv 0) pe_int (fun _ _ => rfl)) (pe_ix (k_ix (K := K)) (pv 1) pe_int (fun _ _ => rfl))) (pe_op (k_mul (K := K)) (pe_ix (k_ix (K := K)) (pv 1) pe_int (fun _ _ => rfl)) (pe_ix (k_ix (K := K)) (pv 0) pe_int (fun _ _ => rfl)))) (pa_cons (pe_op (k_mul (K := K)) (pe_ix (k_ix (K := K)) (pv 0) pe_int (fun _ _ => rfl)) (pe_ix (k_ix (K := K)) (pv 1) pe_int (fun _ _ => rfl))) pa_nil)))))), ?_⟩
    exact (sn_ret (dn_call (da_cons (dn_op d_add (dn_op d_mul (dn_op d_ix (dn_var (i := 0)) dn_int) (dn_op d_ix (dn_var (i := 1)) dn_int)) (dn_op d_mul (dn_op d_ix (dn_var (i := 1)) dn_int) (dn_op d_ix (dn_var (i := 0)) dn_int))) (da_cons (dn_op d_mul (dn_op d_ix (dn_var (i := 0)) dn_int) (dn_op d_ix (dn_var (i := 1)) dn_int)) da_nil))))
abbrev N__law_by : List Str := ["_law_one", "_law_other"]
theorem sc__law_by : FnScope N__law_by ["_law_one", "_law_other"] (defScope s__law_by) := ⟨rfl, rfl, rfl, by decide +kernel, rfl, by decide +kernel, by decide +kernel⟩
theorem b__law_by (T : Tx K mg) : Binds K T.fd__law_by ["_law_one", "_law_other"] [] := T.F__law_by.binds fun _ _ _ _ _ _ us hl => match us, hl with | [_, _], _ => rfl
theorem ok__law_by (T : Tx K mg) : FnOk P w K mg base (L2.CX P w) 2 T.f__law_by T.fd__law_by ["_law_one", "_law_other"] (spP ⟨P, w, K, mg⟩ m__law_by) :=
  okP (N := N__law_by) (fb := d__law_by) T.F__law_by sc__law_by fun cdv A outer s H E hr => by
    have ps : Passes (L2.CX P w) (cxOf (L2.CX P w) P w K mg base N__law_by "_law_by" (defScope s__law_by) T.f__law_by cdv A outer s H E) E := pass_on (takes_of rfl rfl rfl rfl)
    refine ⟨_, (by exact (pss_one (ps_ret (pe_call (ok__law_cut (P := P) (w := w) (base := base) T) (hr.mono (by decide)) (by rfl) T.g__law_cut T.F__law_cut.kp (b__law_cut T) .nil ps (pa_cons (pe_op (k_mul (K := K)) (pe_ix (k_ix (K := K)) (pv 0) pe_int (fun _ _ => rfl)) (pe_ix (k_ix (K := K)) (pv 1) pe_int (fun _ _ => rfl))) (pa_cons (pe_op (k_mul (K := K)) (pe_ix (k_ix (K := K)) (pv 0) pe_int (fun _ _ => rfl)) (pe_ix (k_ix (K := K)) (pv 1) pe_int (fun _ _ => rfl))) pa_nil)))))), ?_⟩
    exact (sn_ret (dn_call (da_cons (dn_op d_mul (dn_op d_ix (dn_var (i := 0)) dn_int) (dn_op d_ix (dn_var (i := 1)) dn_int)) (da_cons (dn_op d_mul (dn_op d_ix (dn_var (i := 0)) dn_int) (dn_op d_ix (dn_var (i := 1)) dn_int)) da_nil))))
abbrev N__law_small : List Str := ["_law_state_here", "_law_kinds", "_law_found", "_law_kind"]
theorem sc__law_small : FnScope N__law_small ["_law_state_here", "_law_kinds"] (defScope s__law_small) := ⟨rfl, rfl, rfl, by decide +kernel, rfl, by decide +kernel, by decide +kernel⟩
theorem b__law_small (T : Tx K mg) : Binds K T.fd__law_small ["_law_state_here", "_law_kinds"] [] := T.F__law_small.binds fun _ _ _ _ _ _ us hl => match us, hl with | [_, _], _ => rfl
theorem ok__law_small (T : Tx K mg) : FnOk P w K mg base (L2.CX P w) 2 T.f__law_small T.fd__law_small ["_law_state_here", "_law_kinds"] (spS ⟨P, w, K, mg⟩ m__law_small) :=
  okS (N := N__law_small) (fb := d__law_small) T.F__law_small sc__law_small fun cdv A outer s H E hr => by
    have ps : Passes (L2.CX P w) (cxOf (L2.CX P w) P w K mg base N__law_small "_law_small" (defScope s__law_small) T.f__law_small cdv A outer s H E) E := pass_on (takes_of rfl rfl rfl rfl)
    refine ⟨_, (by exact (pss_cons (ps_setLc (own := [("_law_kind", 3)]) (i := 2) rfl sc__law_small.nd rfl rfl (sw_true rfl rfl rfl (by decide +kernel)) (pi_range1 (by rfl) T.z_range (pa_cons (pv 1) pa_nil)) (blkOk_by (N := N__law_small) (sc := (defScope s__law_small)) (by decide +kernel)) (fun _ _ _ _ _ => (pg_name (i := 3) sc__law_small.nd rfl (.inl rfl))) (fun _ _ _ _ _ => pts_nil) (fun _ _ _ _ _ => (pe_call (ok__law_take (P := P) (w := w) (base := base) T) (hr.mono (by decide)) (by rfl) T.g__law_take T.F__law_take.kp (b__law_take T) .nil passL (pa_cons (pv 0) (pa_cons pe_int pa_nil))))) (pss_cons (ps_if (pt_cmpR (k_eq (K := K) hr.units) (pe_callB (k_sum (K := K) rfl) (by rfl) T.z_sum bt_sum (pa_cons (pv 2) pa_nil)) pe_int (nomark _)) (pss_one (ps_asg pe_int (pg_sub (pv 2) (pe_call (ok__law_take (P := P) (w := w) (base := base) T) (hr.mono (by decide)) (by rfl) T.g__law_take T.F__law_take.kp (b__law_take T) .nil passL (pa_cons (pv 0) (pa_cons (pv 1) pa_nil))) set_list))) pss_nil) (pss_one (ps_ret (pe_callTy (k_tuple (K := K)) (by rfl) T.z_tuple bt_tuple (pa_cons (pv 2) pa_nil))))))), ?_⟩
    exact (sn_seq (sn_asg (dn_lc (di_rng1 (da_cons (dn_var (i := 1)) da_nil) (aC_len aN_len)) (dc_name (by decide)) dt_yes (dn_callS (da_cons (dn_var (i := 0)) (da_cons dn_int da_nil)))) dg_own) (sn_seq (sn_if (dt_val (dn_op d_eq (dn_cb d_sum (da_cons (dn_var (i := 2)) da_nil)) dn_int)) (sn_asg dn_int (dg_sub (dn_var (i := 2)) (dn_callS (da_cons (dn_var (i := 0)) (da_cons (dn_var (i := 1)) da_nil))))) sn_next) (sn_ret (dn_cb d_tuple (da_cons (dn_var (i := 2)) da_nil)))))
abbrev N__law_longer : List Str := ["_law_every", "_law_kinds", "_law_found", "_law_some", "_law_kind"]
theorem sc__law_longer : FnScope N__law_longer ["_law_every", "_law_kinds"] (defScope s__law_longer) := ⟨rfl, rfl, rfl, by decide +kernel, rfl, by decide +kernel, by decide +kernel⟩
theorem b__law_longer (T : Tx K mg) : Binds K T.fd__law_longer ["_law_every", "_law_kinds"] [] := T.F__law_longer.binds fun _ _ _ _ _ _ us hl => match us, hl with | [_, _], _ => rfl
theorem ok__law_longer (T : Tx K mg) : FnOk P w K mg base (L2.CX P w) 1 T.f__law_longer T.fd__law_longer ["_law_every", "_law_kinds"] (spP ⟨P, w, K, mg⟩ m__law_longer) :=
  okP (N := N__law_longer) (fb := d__law_longer) T.F__law_longer sc__law_longer fun cdv A outer s H E hr => by
    have ps : Passes (L2.CX P w) (cxOf (L2.CX P w) P w K mg base N__law_longer "_law_longer" (defScope s__law_longer) T.f__law_longer cdv A outer s H E) E := pass_on (takes_of rfl rfl rfl rfl)
    refine ⟨_, (by exact (pss_cons (ps_set (i := 2) sc__law_longer.nd rfl (.inl rfl) (pe_lst pa_nil)) (pss_cons (ps_for (passes_of rfl) rfl (kpi_any (K := K) (pv 0)) (pg_name (i := 3) sc__law_longer.nd rfl (.inr rfl)) (pss_one (ps_expr (pe_bm PySem.F.plainAttrs_list PySem.F.slot_list_extend PySem.F.type_list_extend mt_extL (pv 2) (pa_cons (pe_lc (own := [("_law_kind", 4)]) rfl sc__law_longer.nd (pi_range1 (by rfl) T.z_range (pa_cons (pv 1) pa_nil)) (blkOk_by (N := N__law_longer) (sc := (defScope s__law_longer)) (by decide +kernel)) (fun _ _ _ _ _ => (pg_name (i := 4) sc__law_longer.nd rfl (.inl rfl))) (fun _ _ _ _ _ => pts_nil) (fun _ _ _ _ _ => (pe_op (k_add (K := K)) (pv 3) (pe_tup (pa_cons (pv 4) pa_nil))))) pa_nil))))) (pss_one (ps_ret (pv 2)))))), ?_⟩
    exact (sn_seq (sn_asg (dn_lst da_nil) dg_own) (sn_seq (sn_for (di_any (dn_var (i := 0))) dg_name (sn_ext (dn_var (i := 2)) (dn_lc (di_rng1 (da_cons (dn_var (i := 1)) da_nil) (aC_len aN_len)) (dc_name (by decide)) dt_yes (dn_op d_add (dn_var (i := 3)) (dn_tup (da_cons (dn_var (i := 4)) da_nil)))))) (sn_ret (dn_var (i := 2)))))
abbrev N_law : List Str := ["_law_script", "_law_k", "_law_state_here", "_law_kinds", "_law_urn", "_law_rule", "_law_whole", "_law_kind", "_law_turn", "_law_draws", "_law_likely", "_law_there", "_law_every", "_law_some", "_law_nothing", "_law_one", "_law_other"]
theorem sc_law : FnScope N_law ["_law_script"] (defScope s_law) := ⟨rfl, rfl, rfl, by decide +kernel, rfl, by decide +kernel, by decide +kernel⟩
theorem b_law (T : Tx K mg) : Binds K T.fd_law ["_law_script"] [] := T.F_law.binds fun _ _ _ _ _ _ us hl => match us, hl with | [_], _ => rfl
theorem ok_law (T : Tx K mg) : FnOk P w K mg base (L2.CX P w) 7 T.f_law T.fd_law ["_law_script"] (spP ⟨P, w, K, mg⟩ m_law) :=
  okP (N := N_law) (fb := d_law) T.F_law sc_law fun cdv A outer s H E hr => by
    have ps : Passes (L2.CX P w) (cxOf (L2.CX P w) P w K mg base N_law "law" (defScope s_law) T.f_law cdv A outer s H E) E := pass_on (takes_of rfl rfl rfl rfl)
    refine ⟨_, (by exact (pss_cons (ps_for (passes_of rfl) rfl (pi_range1 (by rfl) T.z_range (pa_cons (pe_callB (k_max (K := K) rfl) (by rfl) T.z_max bt_max (pa_cons pe_int (pa_cons (pe_callB (k_min (K := K) rfl) (by rfl) T.z_min bt_min (pa_cons (pe_callB (k_len (K := K)) (by rfl) T.z_len bt_len (pa_cons (pv 0) pa_nil)) (pa_cons pe_int pa_nil))) pa_nil))) pa_nil)) (pg_name (i := 1) sc_law.nd rfl (.inl rfl)) (pss_cons (ps_set (i := 2) sc_law.nd rfl (.inr rfl) (pe_call (ok__law_state (P := P) (w := w) (base := base) T) (hr.mono (by decide)) (by rfl) T.g__law_state T.F__law_state.kp (b__law_state T) .nil ps (pa_cons (pv 0) (pa_cons (pv 1) pa_nil)))) (pss_cons (ps_set (i := 3) sc_law.nd rfl (.inr rfl) (pe_op (k_add (K := K)) pe_int (pe_call (ok__law_take (P := P) (w := w) (base := base) T) (hr.mono (by decide)) (by rfl) T.g__law_take T.F__law_take.kp (b__law_take T) .nil ps (pa_cons (pv 2) (pa_cons pe_int pa_nil))))) (pss_cons (ps_set (i := 4) sc_law.nd rfl (.inl rfl) (pe_call (ok__law_small (P := P) (w := w) (base := base) T) (hr.mono (by decide)) (by rfl) T.g__law_small T.F__law_small.kp (b__law_small T) .nil ps (pa_cons (pv 2) (pa_cons (pv 3) pa_nil)))) (pss_cons (ps_set (i := 5) sc_law.nd rfl (.inl rfl) (pe_callTy (k_tuple (K := K)) (by rfl) T.z_tuple bt_tuple (pa_cons (pe_lc (own := [("_law_one", 15)]) rfl sc_law.nd (pi_range1 (by rfl) T.z_range (pa_cons (pv 3) pa_nil)) (blkOk_by (N := N_law) (sc := (defScope s_law)) (by decide +kernel)) (fun _ _ _ _ _ => (pg_name (i := 15) sc_law.nd rfl (.inl rfl))) (fun _ _ _ _ _ => pts_nil) (fun _ _ _ _ _ => (pe_callTy (k_tuple (K := K)) (by rfl) T.z_tuple bt_tuple (pa_cons (pe_lc (own := [("_law_other", 16)]) rfl sc_law.nd (pi_range1 (by rfl) T.z_range (pa_cons (pv 3) pa_nil)) (blkOk_by (N := N_law) (sc := (relS ({ kind := PySem.ScopeKind.function, names := [(PySem.Str.ofString ".0", PySem.NameKind.local), (PySem.Str.ofString "_law_one", PySem.NameKind.local), (PySem.Str.ofString "tuple", PySem.NameKind.globalImplicit), (PySem.Str.ofString "range", PySem.NameKind.globalImplicit), (PySem.Str.ofString "_law_kinds", PySem.NameKind.free), (PySem.Str.ofString "_law_state_here", PySem.NameKind.free)], isGenerator := false, isCoroutine := false, more := [] : PySem.Scope }) (defScope s_law))) (by decide +kernel)) (fun _ _ _ _ _ => (pg_name (i := 16) sc_law.nd rfl (.inl rfl))) (fun _ _ _ _ _ => pts_nil) (fun _ _ _ _ _ => (pe_call (ok__law_take (P := P) (w := w) (base := base) T) (hr.mono (by decide)) (by rfl) T.g__law_take T.F__law_take.kp (b__law_take T) .nil passL (pa_cons (pv 2) (pa_cons pe_int pa_nil))))) pa_nil)))) pa_nil))) (pss_cons (ps_if (PW.pt (pw_or (pt_cmpR g_isnot (pe_call (ok_is_urn (P := P) (w := w) (base := base) T) (hr.mono (by decide)) (by rfl) T.g_is_urn T.F_is_urn.kp (b_is_urn T) .nil ps (pa_cons (pv 4) pa_nil)) pe_bl (nomark _)) (pw_or1 (pt_cmpR g_isnot (pe_call (ok_is_rule (P := P) (w := w) (base := base) T) (hr.mono (by decide)) (by rfl) T.g_is_rule T.F_is_rule.kp (b_is_rule T) .nil ps (pa_cons (pv 3) (pa_cons (pv 5) pa_nil))) pe_bl (nomark _))))) (pss_one (ps_ret pe_bl)) pss_nil) (pss_cons (ps_set (i := 6) sc_law.nd rfl (.inl rfl) (pe_tup (pa_cons pe_int (pa_cons pe_int pa_nil)))) (pss_cons (ps_for (passes_of rfl) rfl (pi_range1 (by rfl) T.z_range (pa_cons (pv 3) pa_nil)) (pg_name (i := 7) sc_law.nd rfl (.inl rfl)) (pss_one (ps_set (i := 6) sc_law.nd rfl (.inl rfl) (pe_call (ok__law_plus (P := P) (w := w) (base := base) T) (hr.mono (by decide)) (by rfl) T.g__law_plus T.F__law_plus.kp (b__law_plus T) .nil ps (pa_cons (pv 6) (pa_cons (pe_call (ok_chance (P := P) (w := w) (base := base) T) (hr.mono (by decide)) (by rfl) T.g_chance T.F_chance.kp (b_chance T) .nil ps (pa_cons (pv 4) (pa_cons (pv 7) pa_nil))) pa_nil)))))) (pss_cons (ps_if (pt_cmpR (k_ne (K := K) hr.units) (pv 6) (pe_tup (pa_cons pe_int (pa_cons pe_int pa_nil))) (nomark _)) (pss_one (ps_ret pe_bl)) pss_nil) (pss_cons (ps_set (i := 9) sc_law.nd rfl (.inl rfl) (pe_callTy (k_tuple (K := K)) (by rfl) T.z_tuple bt_tuple (pa_cons (pe_lc (own := [("_law_turn", 8)]) rfl sc_law.nd (pi_range1 (by rfl) T.z_range (pa_cons (pe_op (k_add (K := K)) pe_int (pe_call (ok__law_take (P := P) (w := w) (base := base) T) (hr.mono (by decide)) (by rfl) T.g__law_take T.F__law_take.kp (b__law_take T) .nil ps (pa_cons (pv 2) (pa_cons pe_int pa_nil)))) pa_nil)) (blkOk_by (N := N_law) (sc := (defScope s_law)) (by decide +kernel)) (fun _ _ _ _ _ => (pg_name (i := 8) sc_law.nd rfl (.inl rfl))) (fun _ _ _ _ _ => pts_nil) (fun _ _ _ _ _ => (pe_call (ok__law_take (P := P) (w := w) (base := base) T) (hr.mono (by decide)) (by rfl) T.g__law_take T.F__law_take.kp (b__law_take T) .nil passL (pa_cons (pv 2) (pa_cons (pv 3) pa_nil))))) pa_nil))) (pss_cons (ps_set (i := 10) sc_law.nd rfl (.inl rfl) (pe_call (ok_chance_of (P := P) (w := w) (base := base) T) (hr.mono (by decide)) (by rfl) T.g_chance_of T.F_chance_of.kp (b_chance_of T) .nil ps (pa_cons (pv 4) (pa_cons (pv 5) (pa_cons (pv 9) pa_nil))))) (pss_cons (ps_if (pt_cmpR (k_eq (K := K) hr.units) (pe_ix (k_ix (K := K)) (pv 4) (pe_ix (k_ix (K := K)) (pv 9) pe_int (fun _ _ => rfl)) (fun _ _ => rfl)) pe_int (nomark _)) (pss_cons (ps_if (PW.pt (pw_or (pt_cmpR (k_ne (K := K) hr.units) (pv 10) (pe_tup (pa_cons pe_int (pa_cons pe_int pa_nil))) (nomark _)) (pw_or1 (pt_cmpR g_isnot (pe_call (ok_urn_behind (P := P) (w := w) (base := base) T) (hr.mono (by decide)) (by rfl) T.g_urn_behind T.F_urn_behind.kp (b_urn_behind T) .nil ps (pa_cons (pv 4) (pa_cons (pv 5) (pa_cons (pv 9) pa_nil)))) pe_non (nomark _))))) (pss_one (ps_ret pe_bl)) pss_nil) (pss_one ps_continue)) pss_nil) (pss_cons (ps_set (i := 11) sc_law.nd rfl (.inl rfl) (pe_call (ok_after (P := P) (w := w) (base := base) T) (hr.mono (by decide)) (by rfl) T.g_after T.F_after.kp (b_after T) .nil ps (pa_cons (pv 4) (pa_cons (pv 5) (pa_cons (pe_ix (k_ix (K := K)) (pv 9) pe_int (fun _ _ => rfl)) pa_nil))))) (pss_cons (ps_if (pt_cmpR (k_ne (K := K) hr.units) (pv 10) (pe_call (ok__law_by (P := P) (w := w) (base := base) T) (hr.mono (by decide)) (by rfl) T.g__law_by T.F__law_by.kp (b__law_by T) .nil ps (pa_cons (pe_call (ok_chance (P := P) (w := w) (base := base) T) (hr.mono (by decide)) (by rfl) T.g_chance T.F_chance.kp (b_chance T) .nil ps (pa_cons (pv 4) (pa_cons (pe_ix (k_ix (K := K)) (pv 9) pe_int (fun _ _ => rfl)) pa_nil))) (pa_cons (pe_call (ok_chance_of (P := P) (w := w) (base := base) T) (hr.mono (by decide)) (by rfl) T.g_chance_of T.F_chance_of.kp (b_chance_of T) .nil ps (pa_cons (pv 11) (pa_cons (pv 5) (pa_cons (pe_slice (k_sl (K := K)) (pv 9) (po_some pe_int) po_none) pa_nil)))) pa_nil))) (nomark _)) (pss_one (ps_ret pe_bl)) pss_nil) (pss_cons (ps_if (pt_cmpR (k_ne (K := K) hr.units) (pe_call (ok_urn_behind (P := P) (w := w) (base := base) T) (hr.mono (by decide)) (by rfl) T.g_urn_behind T.F_urn_behind.kp (b_urn_behind T) .nil ps (pa_cons (pv 4) (pa_cons (pv 5) (pa_cons (pv 9) pa_nil)))) (pe_call (ok_urn_behind (P := P) (w := w) (base := base) T) (hr.mono (by decide)) (by rfl) T.g_urn_behind T.F_urn_behind.kp (b_urn_behind T) .nil ps (pa_cons (pv 11) (pa_cons (pv 5) (pa_cons (pe_slice (k_sl (K := K)) (pv 9) (po_some pe_int) po_none) pa_nil)))) (nomark _)) (pss_one (ps_ret pe_bl)) pss_nil) (pss_cons (ps_set (i := 12) sc_law.nd rfl (.inl rfl) (pe_lst (pa_cons (pe_tup pa_nil) pa_nil))) (pss_cons (ps_for (passes_of rfl) rfl (pi_range1 (by rfl) T.z_range (pa_cons pe_int pa_nil)) (pg_name (i := 8) sc_law.nd rfl (.inl rfl)) (pss_one (ps_set (i := 12) sc_law.nd rfl (.inl rfl) (pe_call (ok__law_longer (P := P) (w := w) (base := base) T) (hr.mono (by decide)) (by rfl) T.g__law_longer T.F__law_longer.kp (b__law_longer T) .nil ps (pa_cons (pv 12) (pa_cons (pv 3) pa_nil)))))) (pss_cons (ps_set (i := 6) sc_law.nd rfl (.inl rfl) (pe_tup (pa_cons pe_int (pa_cons pe_int pa_nil)))) (pss_cons (ps_for (passes_of rfl) rfl (kpi_any (K := K) (pv 12)) (pg_name (i := 13) sc_law.nd rfl (.inl rfl)) (pss_one (ps_set (i := 6) sc_law.nd rfl (.inl rfl) (pe_call (ok__law_plus (P := P) (w := w) (base := base) T) (hr.mono (by decide)) (by rfl) T.g__law_plus T.F__law_plus.kp (b__law_plus T) .nil ps (pa_cons (pv 6) (pa_cons (pe_call (ok_chance_of (P := P) (w := w) (base := base) T) (hr.mono (by decide)) (by rfl) T.g_chance_of T.F_chance_of.kp (b_chance_of T) .nil ps (pa_cons (pv 4) (pa_cons (pv 5) (pa_cons (pv 13) pa_nil)))) pa_nil)))))) (pss_cons (ps_set (i := 14) sc_law.nd rfl (.inl rfl) (pe_op (k_mul (K := K)) (pe_tup (pa_cons (pe_op (k_mul (K := K)) (pe_tup (pa_cons pe_int pa_nil)) (pv 3)) pa_nil)) (pv 3))) (pss_one (ps_if (PW.pt (pw_or (pt_cmpR (k_ne (K := K) hr.units) (pv 6) (pe_tup (pa_cons pe_int (pa_cons pe_int pa_nil))) (nomark _)) (pw_or1 (pt_cmpR (k_ne (K := K) hr.units) (pe_call (ok_urn_behind (P := P) (w := w) (base := base) T) (hr.mono (by decide)) (by rfl) T.g_urn_behind T.F_urn_behind.kp (b_urn_behind T) .nil ps (pa_cons (pv 4) (pa_cons (pv 14) (pa_cons (pe_slice (k_sl (K := K)) (pv 9) po_none (po_some pe_int)) pa_nil)))) (pv 4) (nomark _))))) (pss_one (ps_ret pe_bl)) pss_nil)))))))))))))))))))))) (pss_one (ps_ret pe_bl)))), ?_⟩
    exact (sn_seq (sn_for (di_rng1 (da_cons (dn_cb d_max (da_cons dn_int (da_cons (dn_cb d_min (da_cons (dn_cb d_len (da_cons (dn_var (i := 0)) da_nil)) (da_cons dn_int da_nil))) da_nil))) da_nil) (aC_len aN_len)) dg_name (sn_seq (sn_asg (dn_call (da_cons (dn_var (i := 0)) (da_cons (dn_var (i := 1)) da_nil))) dg_own) (sn_seq (sn_asg (dn_op d_add dn_int (dn_callS (da_cons (dn_var (i := 2)) (da_cons dn_int da_nil)))) dg_name) (sn_seq (sn_asg (dn_callS (da_cons (dn_var (i := 2)) (da_cons (dn_var (i := 3)) da_nil))) dg_name) (sn_seq (sn_asg (dn_cb d_tuple (da_cons (dn_lc (di_rng1 (da_cons (dn_var (i := 3)) da_nil) (aC_len aN_len)) (dc_name (by decide)) dt_yes (dn_cb d_tuple (da_cons (dn_lc (di_rng1 (da_cons (dn_var (i := 3)) da_nil) (aC_len aN_len)) (dc_name (by decide)) dt_yes (dn_callS (da_cons (dn_var (i := 2)) (da_cons dn_int da_nil)))) da_nil))) da_nil)) dg_name) (sn_seq (sn_if (dt_or (dt_val (dn_op d_isnot (dn_call (da_cons (dn_var (i := 4)) da_nil)) dn_bl)) (dt_val (dn_op d_isnot (dn_call (da_cons (dn_var (i := 3)) (da_cons (dn_var (i := 5)) da_nil))) dn_bl))) (sn_ret dn_bl) sn_next) (sn_seq (sn_asg (dn_tup (da_cons dn_int (da_cons dn_int da_nil))) dg_name) (sn_seq (sn_for (di_rng1 (da_cons (dn_var (i := 3)) da_nil) (aC_len aN_len)) dg_name (sn_asg (dn_call (da_cons (dn_var (i := 6)) (da_cons (dn_call (da_cons (dn_var (i := 4)) (da_cons (dn_var (i := 7)) da_nil))) da_nil))) dg_name)) (sn_seq (sn_if (dt_val (dn_op d_ne (dn_var (i := 6)) (dn_tup (da_cons dn_int (da_cons dn_int da_nil))))) (sn_ret dn_bl) sn_next) (sn_seq (sn_asg (dn_cb d_tuple (da_cons (dn_lc (di_rng1 (da_cons (dn_op d_add dn_int (dn_callS (da_cons (dn_var (i := 2)) (da_cons dn_int da_nil)))) da_nil) (aC_len aN_len)) (dc_name (by decide)) dt_yes (dn_callS (da_cons (dn_var (i := 2)) (da_cons (dn_var (i := 3)) da_nil)))) da_nil)) dg_name) (sn_seq (sn_asg (dn_call (da_cons (dn_var (i := 4)) (da_cons (dn_var (i := 5)) (da_cons (dn_var (i := 9)) da_nil)))) dg_name) (sn_seq (sn_if (dt_val (dn_op d_eq (dn_op d_ix (dn_var (i := 4)) (dn_op d_ix (dn_var (i := 9)) dn_int)) dn_int)) (sn_seq (sn_if (dt_or (dt_val (dn_op d_ne (dn_var (i := 10)) (dn_tup (da_cons dn_int (da_cons dn_int da_nil))))) (dt_val (dn_op d_isnot (dn_call (da_cons (dn_var (i := 4)) (da_cons (dn_var (i := 5)) (da_cons (dn_var (i := 9)) da_nil)))) dn_non))) (sn_ret dn_bl) sn_next) sn_cont) sn_next) (sn_seq (sn_asg (dn_call (da_cons (dn_var (i := 4)) (da_cons (dn_var (i := 5)) (da_cons (dn_op d_ix (dn_var (i := 9)) dn_int) da_nil)))) dg_name) (sn_seq (sn_if (dt_val (dn_op d_ne (dn_var (i := 10)) (dn_call (da_cons (dn_call (da_cons (dn_var (i := 4)) (da_cons (dn_op d_ix (dn_var (i := 9)) dn_int) da_nil))) (da_cons (dn_call (da_cons (dn_var (i := 11)) (da_cons (dn_var (i := 5)) (da_cons (dn_sl d_sl (dn_var (i := 9)) (do_some dn_int) do_none) da_nil)))) da_nil))))) (sn_ret dn_bl) sn_next) (sn_seq (sn_if (dt_val (dn_op d_ne (dn_call (da_cons (dn_var (i := 4)) (da_cons (dn_var (i := 5)) (da_cons (dn_var (i := 9)) da_nil)))) (dn_call (da_cons (dn_var (i := 11)) (da_cons (dn_var (i := 5)) (da_cons (dn_sl d_sl (dn_var (i := 9)) (do_some dn_int) do_none) da_nil)))))) (sn_ret dn_bl) sn_next) (sn_seq (sn_asg (dn_lst (da_cons (dn_tup da_nil) da_nil)) dg_name) (sn_seq (sn_for (di_rng1 (da_cons dn_int da_nil) (aC_len aN_len)) dg_name (sn_asg (dn_call (da_cons (dn_var (i := 12)) (da_cons (dn_var (i := 3)) da_nil))) dg_name)) (sn_seq (sn_asg (dn_tup (da_cons dn_int (da_cons dn_int da_nil))) dg_name) (sn_seq (sn_for (di_any (dn_var (i := 12))) dg_name (sn_asg (dn_call (da_cons (dn_var (i := 6)) (da_cons (dn_call (da_cons (dn_var (i := 4)) (da_cons (dn_var (i := 5)) (da_cons (dn_var (i := 13)) da_nil)))) da_nil))) dg_name)) (sn_seq (sn_asg (dn_op d_mul (dn_tup (da_cons (dn_op d_mul (dn_tup (da_cons dn_int da_nil)) (dn_var (i := 3))) da_nil)) (dn_var (i := 3))) dg_name) (sn_if (dt_or (dt_val (dn_op d_ne (dn_var (i := 6)) (dn_tup (da_cons dn_int (da_cons dn_int da_nil))))) (dt_val (dn_op d_ne (dn_call (da_cons (dn_var (i := 4)) (da_cons (dn_var (i := 14)) (da_cons (dn_sl d_sl (dn_var (i := 9)) do_none (do_some dn_int)) da_nil)))) (dn_var (i := 4))))) (sn_ret dn_bl) sn_next))))))))))))))))))))) (sn_ret dn_bl))
end
theorem all_mkL (law_true : ∀ ns : List Int, ns.length ≤ 63 → m_law [scrD ns] = .ok (.da (.bool true))) {l : PySem.W.OpenLaw} {w : World} {K : PySem.W.Frag} {h : Heap} {mg : Str → Option Value} {fa : Addr} (X : K.In h) (G : h.Ns mainGlobals mg) (hfa : mg "law" = some (.ref fa))
    {f_is_whole : Addr} {od_is_whole an_is_whole : Option Addr} {sl_is_whole : Array (Option Value)} {oc_is_whole kV_is_whole dc_is_whole pm_is_whole cd_is_whole ct_is_whole : Value} {f_is_between : Addr} {od_is_between an_is_between : Option Addr} {sl_is_between : Array (Option Value)} {oc_is_between kV_is_between dc_is_between pm_is_between cd_is_between ct_is_between : Value} {f_divisor : Addr} {od_divisor an_divisor : Option Addr} {sl_divisor : Array (Option Value)} {oc_divisor kV_divisor dc_divisor pm_divisor cd_divisor ct_divisor : Value} {f_fraction : Addr} {od_fraction an_fraction : Option Addr} {sl_fraction : Array (Option Value)} {oc_fraction kV_fraction dc_fraction pm_fraction cd_fraction ct_fraction : Value} {f_by : Addr} {od_by an_by : Option Addr} {sl_by : Array (Option Value)} {oc_by kV_by dc_by pm_by cd_by ct_by : Value} {f_is_urn : Addr} {od_is_urn an_is_urn : Option Addr} {sl_is_urn : Array (Option Value)} {oc_is_urn kV_is_urn dc_is_urn pm_is_urn cd_is_urn ct_is_urn : Value} {f_is_rule_of : Addr} {od_is_rule_of an_is_rule_of : Option Addr} {sl_is_rule_of : Array (Option Value)} {oc_is_rule_of kV_is_rule_of dc_is_rule_of pm_is_rule_of cd_is_rule_of ct_is_rule_of : Value} {f_need_number : Addr} {od_need_number an_need_number : Option Addr} {sl_need_number : Array (Option Value)} {oc_need_number kV_need_number dc_need_number pm_need_number cd_need_number ct_need_number : Value} {f_is_rule : Addr} {od_is_rule an_is_rule : Option Addr} {sl_is_rule : Array (Option Value)} {oc_is_rule kV_is_rule dc_is_rule pm_is_rule cd_is_rule ct_is_rule : Value} {f_need_urn : Addr} {od_need_urn an_need_urn : Option Addr} {sl_need_urn : Array (Option Value)} {oc_need_urn kV_need_urn dc_need_urn pm_need_urn cd_need_urn ct_need_urn : Value} {f_need_rule : Addr} {od_need_rule an_need_rule : Option Addr} {sl_need_rule : Array (Option Value)} {oc_need_rule kV_need_rule dc_need_rule pm_need_rule cd_need_rule ct_need_rule : Value} {f_need_kind : Addr} {od_need_kind an_need_kind : Option Addr} {sl_need_kind : Array (Option Value)} {oc_need_kind kV_need_kind dc_need_kind pm_need_kind cd_need_kind ct_need_kind : Value} {f_share : Addr} {od_share an_share : Option Addr} {sl_share : Array (Option Value)} {oc_share kV_share dc_share pm_share cd_share ct_share : Value} {f_chance : Addr} {od_chance an_chance : Option Addr} {sl_chance : Array (Option Value)} {oc_chance kV_chance dc_chance pm_chance cd_chance ct_chance : Value} {f_put_behind : Addr} {od_put_behind an_put_behind : Option Addr} {sl_put_behind : Array (Option Value)} {oc_put_behind kV_put_behind dc_put_behind pm_put_behind cd_put_behind ct_put_behind : Value} {f_after : Addr} {od_after an_after : Option Addr} {sl_after : Array (Option Value)} {oc_after kV_after dc_after pm_after cd_after ct_after : Value} {f_need_draws : Addr} {od_need_draws an_need_draws : Option Addr} {sl_need_draws : Array (Option Value)} {oc_need_draws kV_need_draws dc_need_draws pm_need_draws cd_need_draws ct_need_draws : Value} {f_gone_through : Addr} {od_gone_through an_gone_through : Option Addr} {sl_gone_through : Array (Option Value)} {oc_gone_through kV_gone_through dc_gone_through pm_gone_through cd_gone_through ct_gone_through : Value} {f_chance_of : Addr} {od_chance_of an_chance_of : Option Addr} {sl_chance_of : Array (Option Value)} {oc_chance_of kV_chance_of dc_chance_of pm_chance_of cd_chance_of ct_chance_of : Value} {f_urn_behind : Addr} {od_urn_behind an_urn_behind : Option Addr} {sl_urn_behind : Array (Option Value)} {oc_urn_behind kV_urn_behind dc_urn_behind pm_urn_behind cd_urn_behind ct_urn_behind : Value} {f__law_cell_at : Addr} {od__law_cell_at an__law_cell_at : Option Addr} {sl__law_cell_at : Array (Option Value)} {oc__law_cell_at kV__law_cell_at dc__law_cell_at pm__law_cell_at cd__law_cell_at ct__law_cell_at : Value} {f__law_state : Addr} {od__law_state an__law_state : Option Addr} {sl__law_state : Array (Option Value)} {oc__law_state kV__law_state dc__law_state pm__law_state cd__law_state ct__law_state : Value} {f__law_take : Addr} {od__law_take an__law_take : Option Addr} {sl__law_take : Array (Option Value)} {oc__law_take kV__law_take dc__law_take pm__law_take cd__law_take ct__law_take : Value} {f__law_cut : Addr} {od__law_cut an__law_cut : Option Addr} {sl__law_cut : Array (Option Value)} {oc__law_cut kV__law_cut dc__law_cut pm__law_cut cd__law_cut ct__law_cut : Value} {f__law_plus : Addr} {od__law_plus an__law_plus : Option Addr} {sl__law_plus : Array (Option Value)} {oc__law_plus kV__law_plus dc__law_plus pm__law_plus cd__law_plus ct__law_plus : Value} {f__law_by : Addr} {od__law_by an__law_by : Option Addr} {sl__law_by : Array (Option Value)} {oc__law_by kV__law_by dc__law_by pm__law_by cd__law_by ct__law_by : Value} {f__law_small : Addr} {od__law_small an__law_small : Option Addr} {sl__law_small : Array (Option Value)} {oc__law_small kV__law_small dc__law_small pm__law_small cd__law_small ct__law_small : Value} {f__law_longer : Addr} {od__law_longer an__law_longer : Option Addr} {sl__law_longer : Array (Option Value)} {oc__law_longer kV__law_longer dc__law_longer pm__law_longer cd__law_longer ct__law_longer : Value} {f_law : Addr} {od_law an_law : Option Addr} {sl_law : Array (Option Value)} {oc_law kV_law dc_law pm_law cd_law ct_law : Value} {t_MOST_BALLS : Tok} {t_MOST_DRAWN : Tok} {t_MOST_KINDS : Tok} {t_MOST_PUT : Tok}
    (a_is_whole : PySem.W.nsIn K mainGlobals "is_whole" = some (some (.ref f_is_whole))) (l_is_whole : K.lookup f_is_whole = some ⟨oc_is_whole, od_is_whole, .func (PySem.W.fnOf "is_whole" "is_whole" (defArgs s_is_whole) (defBody s_is_whole) (defScope s_is_whole) .none kV_is_whole dc_is_whole pm_is_whole an_is_whole cd_is_whole ct_is_whole), sl_is_whole⟩) (c_is_whole : PySem.W.codeIn K cd_is_whole "is_whole" = true) (k_is_whole : PySem.W.keepIn K (.ref f_is_whole) = true)
    (a_is_between : PySem.W.nsIn K mainGlobals "is_between" = some (some (.ref f_is_between))) (l_is_between : K.lookup f_is_between = some ⟨oc_is_between, od_is_between, .func (PySem.W.fnOf "is_between" "is_between" (defArgs s_is_between) (defBody s_is_between) (defScope s_is_between) .none kV_is_between dc_is_between pm_is_between an_is_between cd_is_between ct_is_between), sl_is_between⟩) (c_is_between : PySem.W.codeIn K cd_is_between "is_between" = true) (k_is_between : PySem.W.keepIn K (.ref f_is_between) = true)
    (a_divisor : PySem.W.nsIn K mainGlobals "divisor" = some (some (.ref f_divisor))) (l_divisor : K.lookup f_divisor = some ⟨oc_divisor, od_divisor, .func (PySem.W.fnOf "divisor" "divisor" (defArgs s_divisor) (defBody s_divisor) (defScope s_divisor) .none kV_divisor dc_divisor pm_divisor an_divisor cd_divisor ct_divisor), sl_divisor⟩) (c_divisor : PySem.W.codeIn K cd_divisor "divisor" = true) (k_divisor : PySem.W.keepIn K (.ref f_divisor) = true)
    (a_fraction : PySem.W.nsIn K mainGlobals "fraction" = some (some (.ref f_fraction))) (l_fraction : K.lookup f_fraction = some ⟨oc_fraction, od_fraction, .func (PySem.W.fnOf "fraction" "fraction" (defArgs s_fraction) (defBody s_fraction) (defScope s_fraction) .none kV_fraction dc_fraction pm_fraction an_fraction cd_fraction ct_fraction), sl_fraction⟩) (c_fraction : PySem.W.codeIn K cd_fraction "fraction" = true) (k_fraction : PySem.W.keepIn K (.ref f_fraction) = true)
    (a_by : PySem.W.nsIn K mainGlobals "by" = some (some (.ref f_by))) (l_by : K.lookup f_by = some ⟨oc_by, od_by, .func (PySem.W.fnOf "by" "by" (defArgs s_by) (defBody s_by) (defScope s_by) .none kV_by dc_by pm_by an_by cd_by ct_by), sl_by⟩) (c_by : PySem.W.codeIn K cd_by "by" = true) (k_by : PySem.W.keepIn K (.ref f_by) = true)
    (a_is_urn : PySem.W.nsIn K mainGlobals "is_urn" = some (some (.ref f_is_urn))) (l_is_urn : K.lookup f_is_urn = some ⟨oc_is_urn, od_is_urn, .func (PySem.W.fnOf "is_urn" "is_urn" (defArgs s_is_urn) (defBody s_is_urn) (defScope s_is_urn) .none kV_is_urn dc_is_urn pm_is_urn an_is_urn cd_is_urn ct_is_urn), sl_is_urn⟩) (c_is_urn : PySem.W.codeIn K cd_is_urn "is_urn" = true) (k_is_urn : PySem.W.keepIn K (.ref f_is_urn) = true)
    (a_is_rule_of : PySem.W.nsIn K mainGlobals "is_rule_of" = some (some (.ref f_is_rule_of))) (l_is_rule_of : K.lookup f_is_rule_of = some ⟨oc_is_rule_of, od_is_rule_of, .func (PySem.W.fnOf "is_rule_of" "is_rule_of" (defArgs s_is_rule_of) (defBody s_is_rule_of) (defScope s_is_rule_of) .none kV_is_rule_of dc_is_rule_of pm_is_rule_of an_is_rule_of cd_is_rule_of ct_is_rule_of), sl_is_rule_of⟩) (c_is_rule_of : PySem.W.codeIn K cd_is_rule_of "is_rule_of" = true) (k_is_rule_of : PySem.W.keepIn K (.ref f_is_rule_of) = true)
    (a_need_number : PySem.W.nsIn K mainGlobals "need_number" = some (some (.ref f_need_number))) (l_need_number : K.lookup f_need_number = some ⟨oc_need_number, od_need_number, .func (PySem.W.fnOf "need_number" "need_number" (defArgs s_need_number) (defBody s_need_number) (defScope s_need_number) .none kV_need_number dc_need_number pm_need_number an_need_number cd_need_number ct_need_number), sl_need_number⟩) (c_need_number : PySem.W.codeIn K cd_need_number "need_number" = true) (k_need_number : PySem.W.keepIn K (.ref f_need_number) = true)
    (a_is_rule : PySem.W.nsIn K mainGlobals "is_rule" = some (some (.ref f_is_rule))) (l_is_rule : K.lookup f_is_rule = some ⟨oc_is_rule, od_is_rule, .func (PySem.W.fnOf "is_rule" "is_rule" (defArgs s_is_rule) (defBody s_is_rule) (defScope s_is_rule) .none kV_is_rule dc_is_rule pm_is_rule an_is_rule cd_is_rule ct_is_rule), sl_is_rule⟩) (c_is_rule : PySem.W.codeIn K cd_is_rule "is_rule" = true) (k_is_rule : PySem.W.keepIn K (.ref f_is_rule) = true)
    (a_need_urn : PySem.W.nsIn K mainGlobals "need_urn" = some (some (.ref f_need_urn))) (l_need_urn : K.lookup f_need_urn = some ⟨oc_need_urn, od_need_urn, .func (PySem.W.fnOf "need_urn" "need_urn" (defArgs s_need_urn) (defBody s_need_urn) (defScope s_need_urn) .none kV_need_urn dc_need_urn pm_need_urn an_need_urn cd_need_urn ct_need_urn), sl_need_urn⟩) (c_need_urn : PySem.W.codeIn K cd_need_urn "need_urn" = true) (k_need_urn : PySem.W.keepIn K (.ref f_need_urn) = true)
    (a_need_rule : PySem.W.nsIn K mainGlobals "need_rule" = some (some (.ref f_need_rule))) (l_need_rule : K.lookup f_need_rule = some ⟨oc_need_rule, od_need_rule, .func (PySem.W.fnOf "need_rule" "need_rule" (defArgs s_need_rule) (defBody s_need_rule) (defScope s_need_rule) .none kV_need_rule dc_need_rule pm_need_rule an_need_rule cd_need_rule ct_need_rule), sl_need_rule⟩) (c_need_rule : PySem.W.codeIn K cd_need_rule "need_rule" = true) (k_need_rule : PySem.W.keepIn K (.ref f_need_rule) = true)
    (a_need_kind : PySem.W.nsIn K mainGlobals "need_kind" = some (some (.ref f_need_kind))) (l_need_kind : K.lookup f_need_kind = some ⟨oc_need_kind, od_need_kind, .func (PySem.W.fnOf "need_kind" "need_kind" (defArgs s_need_kind) (defBody s_need_kind) (defScope s_need_kind) .none kV_need_kind dc_need_kind pm_need_kind an_need_kind cd_need_kind ct_need_kind), sl_need_kind⟩) (c_need_kind : PySem.W.codeIn K cd_need_kind "need_kind" = true) (k_need_kind : PySem.W.keepIn K (.ref f_need_kind) = true)
    (a_share : PySem.W.nsIn K mainGlobals "share" = some (some (.ref f_share))) (l_share : K.lookup f_share = some ⟨oc_share, od_share, .func (PySem.W.fnOf "share" "share" (defArgs s_share) (defBody s_share) (defScope s_share) .none kV_share dc_share pm_share an_share cd_share ct_share), sl_share⟩) (c_share : PySem.W.codeIn K cd_share "share" = true) (k_share : PySem.W.keepIn K (.ref f_share) = true)
    (a_chance : PySem.W.nsIn K mainGlobals "chance" = some (some (.ref f_chance))) (l_chance : K.lookup f_chance = some ⟨oc_chance, od_chance, .func (PySem.W.fnOf "chance" "chance" (defArgs s_chance) (defBody s_chance) (defScope s_chance) .none kV_chance dc_chance pm_chance an_chance cd_chance ct_chance), sl_chance⟩) (c_chance : PySem.W.codeIn K cd_chance "chance" = true) (k_chance : PySem.W.keepIn K (.ref f_chance) = true)
    (a_put_behind : PySem.W.nsIn K mainGlobals "put_behind" = some (some (.ref f_put_behind))) (l_put_behind : K.lookup f_put_behind = some ⟨oc_put_behind, od_put_behind, .func (PySem.W.fnOf "put_behind" "put_behind" (defArgs s_put_behind) (defBody s_put_behind) (defScope s_put_behind) .none kV_put_behind dc_put_behind pm_put_behind an_put_behind cd_put_behind ct_put_behind), sl_put_behind⟩) (c_put_behind : PySem.W.codeIn K cd_put_behind "put_behind" = true) (k_put_behind : PySem.W.keepIn K (.ref f_put_behind) = true)
    (a_after : PySem.W.nsIn K mainGlobals "after" = some (some (.ref f_after))) (l_after : K.lookup f_after = some ⟨oc_after, od_after, .func (PySem.W.fnOf "after" "after" (defArgs s_after) (defBody s_after) (defScope s_after) .none kV_after dc_after pm_after an_after cd_after ct_after), sl_after⟩) (c_after : PySem.W.codeIn K cd_after "after" = true) (k_after : PySem.W.keepIn K (.ref f_after) = true)
    (a_need_draws : PySem.W.nsIn K mainGlobals "need_draws" = some (some (.ref f_need_draws))) (l_need_draws : K.lookup f_need_draws = some ⟨oc_need_draws, od_need_draws, .func (PySem.W.fnOf "need_draws" "need_draws" (defArgs s_need_draws) (defBody s_need_draws) (defScope s_need_draws) .none kV_need_draws dc_need_draws pm_need_draws an_need_draws cd_need_draws ct_need_draws), sl_need_draws⟩) (c_need_draws : PySem.W.codeIn K cd_need_draws "need_draws" = true) (k_need_draws : PySem.W.keepIn K (.ref f_need_draws) = true)
    (a_gone_through : PySem.W.nsIn K mainGlobals "gone_through" = some (some (.ref f_gone_through))) (l_gone_through : K.lookup f_gone_through = some ⟨oc_gone_through, od_gone_through, .func (PySem.W.fnOf "gone_through" "gone_through" (defArgs s_gone_through) (defBody s_gone_through) (defScope s_gone_through) .none kV_gone_through dc_gone_through pm_gone_through an_gone_through cd_gone_through ct_gone_through), sl_gone_through⟩) (c_gone_through : PySem.W.codeIn K cd_gone_through "gone_through" = true) (k_gone_through : PySem.W.keepIn K (.ref f_gone_through) = true)
    (a_chance_of : PySem.W.nsIn K mainGlobals "chance_of" = some (some (.ref f_chance_of))) (l_chance_of : K.lookup f_chance_of = some ⟨oc_chance_of, od_chance_of, .func (PySem.W.fnOf "chance_of" "chance_of" (defArgs s_chance_of) (defBody s_chance_of) (defScope s_chance_of) .none kV_chance_of dc_chance_of pm_chance_of an_chance_of cd_chance_of ct_chance_of), sl_chance_of⟩) (c_chance_of : PySem.W.codeIn K cd_chance_of "chance_of" = true) (k_chance_of : PySem.W.keepIn K (.ref f_chance_of) = true)
    (a_urn_behind : PySem.W.nsIn K mainGlobals "urn_behind" = some (some (.ref f_urn_behind))) (l_urn_behind : K.lookup f_urn_behind = some ⟨oc_urn_behind, od_urn_behind, .func (PySem.W.fnOf "urn_behind" "urn_behind" (defArgs s_urn_behind) (defBody s_urn_behind) (defScope s_urn_behind) .none kV_urn_behind dc_urn_behind pm_urn_behind an_urn_behind cd_urn_behind ct_urn_behind), sl_urn_behind⟩) (c_urn_behind : PySem.W.codeIn K cd_urn_behind "urn_behind" = true) (k_urn_behind : PySem.W.keepIn K (.ref f_urn_behind) = true)
    (a__law_cell_at : PySem.W.nsIn K mainGlobals "_law_cell_at" = some (some (.ref f__law_cell_at))) (l__law_cell_at : K.lookup f__law_cell_at = some ⟨oc__law_cell_at, od__law_cell_at, .func (PySem.W.fnOf "_law_cell_at" "_law_cell_at" (defArgs s__law_cell_at) (defBody s__law_cell_at) (defScope s__law_cell_at) .none kV__law_cell_at dc__law_cell_at pm__law_cell_at an__law_cell_at cd__law_cell_at ct__law_cell_at), sl__law_cell_at⟩) (c__law_cell_at : PySem.W.codeIn K cd__law_cell_at "_law_cell_at" = true) (k__law_cell_at : PySem.W.keepIn K (.ref f__law_cell_at) = true)
    (a__law_state : PySem.W.nsIn K mainGlobals "_law_state" = some (some (.ref f__law_state))) (l__law_state : K.lookup f__law_state = some ⟨oc__law_state, od__law_state, .func (PySem.W.fnOf "_law_state" "_law_state" (defArgs s__law_state) (defBody s__law_state) (defScope s__law_state) .none kV__law_state dc__law_state pm__law_state an__law_state cd__law_state ct__law_state), sl__law_state⟩) (c__law_state : PySem.W.codeIn K cd__law_state "_law_state" = true) (k__law_state : PySem.W.keepIn K (.ref f__law_state) = true)
    (a__law_take : PySem.W.nsIn K mainGlobals "_law_take" = some (some (.ref f__law_take))) (l__law_take : K.lookup f__law_take = some ⟨oc__law_take, od__law_take, .func (PySem.W.fnOf "_law_take" "_law_take" (defArgs s__law_take) (defBody s__law_take) (defScope s__law_take) .none kV__law_take dc__law_take pm__law_take an__law_take cd__law_take ct__law_take), sl__law_take⟩) (c__law_take : PySem.W.codeIn K cd__law_take "_law_take" = true) (k__law_take : PySem.W.keepIn K (.ref f__law_take) = true)
    (a__law_cut : PySem.W.nsIn K mainGlobals "_law_cut" = some (some (.ref f__law_cut))) (l__law_cut : K.lookup f__law_cut = some ⟨oc__law_cut, od__law_cut, .func (PySem.W.fnOf "_law_cut" "_law_cut" (defArgs s__law_cut) (defBody s__law_cut) (defScope s__law_cut) .none kV__law_cut dc__law_cut pm__law_cut an__law_cut cd__law_cut ct__law_cut), sl__law_cut⟩) (c__law_cut : PySem.W.codeIn K cd__law_cut "_law_cut" = true) (k__law_cut : PySem.W.keepIn K (.ref f__law_cut) = true)
    (a__law_plus : PySem.W.nsIn K mainGlobals "_law_plus" = some (some (.ref f__law_plus))) (l__law_plus : K.lookup f__law_plus = some ⟨oc__law_plus, od__law_plus, .func (PySem.W.fnOf "_law_plus" "_law_plus" (defArgs s__law_plus) (defBody s__law_plus) (defScope s__law_plus) .none kV__law_plus dc__law_plus pm__law_plus an__law_plus cd__law_plus ct__law_plus), sl__law_plus⟩) (c__law_plus : PySem.W.codeIn K cd__law_plus "_law_plus" = true) (k__law_plus : PySem.W.keepIn K (.ref f__law_plus) = true)
    (a__law_by : PySem.W.nsIn K mainGlobals "_law_by" = some (some (.ref f__law_by))) (l__law_by : K.lookup f__law_by = some ⟨oc__law_by, od__law_by, .func (PySem.W.fnOf "_law_by" "_law_by" (defArgs s__law_by) (defBody s__law_by) (defScope s__law_by) .none kV__law_by dc__law_by pm__law_by an__law_by cd__law_by ct__law_by), sl__law_by⟩) (c__law_by : PySem.W.codeIn K cd__law_by "_law_by" = true) (k__law_by : PySem.W.keepIn K (.ref f__law_by) = true)
    (a__law_small : PySem.W.nsIn K mainGlobals "_law_small" = some (some (.ref f__law_small))) (l__law_small : K.lookup f__law_small = some ⟨oc__law_small, od__law_small, .func (PySem.W.fnOf "_law_small" "_law_small" (defArgs s__law_small) (defBody s__law_small) (defScope s__law_small) .none kV__law_small dc__law_small pm__law_small an__law_small cd__law_small ct__law_small), sl__law_small⟩) (c__law_small : PySem.W.codeIn K cd__law_small "_law_small" = true) (k__law_small : PySem.W.keepIn K (.ref f__law_small) = true)
    (a__law_longer : PySem.W.nsIn K mainGlobals "_law_longer" = some (some (.ref f__law_longer))) (l__law_longer : K.lookup f__law_longer = some ⟨oc__law_longer, od__law_longer, .func (PySem.W.fnOf "_law_longer" "_law_longer" (defArgs s__law_longer) (defBody s__law_longer) (defScope s__law_longer) .none kV__law_longer dc__law_longer pm__law_longer an__law_longer cd__law_longer ct__law_longer), sl__law_longer⟩) (c__law_longer : PySem.W.codeIn K cd__law_longer "_law_longer" = true) (k__law_longer : PySem.W.keepIn K (.ref f__law_longer) = true)
    (a_law : PySem.W.nsIn K mainGlobals "law" = some (some (.ref f_law))) (l_law : K.lookup f_law = some ⟨oc_law, od_law, .func (PySem.W.fnOf "law" "law" (defArgs s_law) (defBody s_law) (defScope s_law) .none kV_law dc_law pm_law an_law cd_law ct_law), sl_law⟩) (c_law : PySem.W.codeIn K cd_law "law" = true) (k_law : PySem.W.keepIn K (.ref f_law) = true)
    (z_abs : PySem.W.nsIn K mainGlobals "abs" = some none)
    (z_all : PySem.W.nsIn K mainGlobals "all" = some none)
    (z_bool : PySem.W.nsIn K mainGlobals "bool" = some none)
    (z_int : PySem.W.nsIn K mainGlobals "int" = some none)
    (z_isinstance : PySem.W.nsIn K mainGlobals "isinstance" = some none)
    (z_len : PySem.W.nsIn K mainGlobals "len" = some none)
    (z_max : PySem.W.nsIn K mainGlobals "max" = some none)
    (z_min : PySem.W.nsIn K mainGlobals "min" = some none)
    (z_range : PySem.W.nsIn K mainGlobals "range" = some none)
    (z_sum : PySem.W.nsIn K mainGlobals "sum" = some none)
    (z_tuple : PySem.W.nsIn K mainGlobals "tuple" = some none)
    (z_zip : PySem.W.nsIn K mainGlobals "zip" = some none)
    (m_MOST_BALLS : PySem.W.nsIn K mainGlobals "MOST_BALLS" = some (some (.int 20 t_MOST_BALLS)))
    (m_MOST_DRAWN : PySem.W.nsIn K mainGlobals "MOST_DRAWN" = some (some (.int 20 t_MOST_DRAWN)))
    (m_MOST_KINDS : PySem.W.nsIn K mainGlobals "MOST_KINDS" = some (some (.int 4 t_MOST_KINDS)))
    (m_MOST_PUT : PySem.W.nsIn K mainGlobals "MOST_PUT" = some (some (.int 5 t_MOST_PUT))) :
    ∃ fd : FuncData, (∀ (s : Shared) (v : Value), BindsTo s fd ⟨[v], []⟩ [("_law_script", v)]) ∧ ∀ base : Heap, K.In base → base.Ns mainGlobals mg → FnOk l.prog w K mg base (L2.CX l.prog w) 7 fa fd ["_law_script"] (spLaw K) := by
  have e := hfa.symm.trans (PySem.W.mg_of X G a_law)
  cases e
  let T : Tx K mg := {
    f_is_whole := f_is_whole
    fd_is_whole := _
    F_is_whole := fun_mk (st := s_is_whole) l_is_whole c_is_whole k_is_whole
    g_is_whole := PySem.W.mg_of X G a_is_whole
    f_is_between := f_is_between
    fd_is_between := _
    F_is_between := fun_mk (st := s_is_between) l_is_between c_is_between k_is_between
    g_is_between := PySem.W.mg_of X G a_is_between
    f_divisor := f_divisor
    fd_divisor := _
    F_divisor := fun_mk (st := s_divisor) l_divisor c_divisor k_divisor
    g_divisor := PySem.W.mg_of X G a_divisor
    f_fraction := f_fraction
    fd_fraction := _
    F_fraction := fun_mk (st := s_fraction) l_fraction c_fraction k_fraction
    g_fraction := PySem.W.mg_of X G a_fraction
    f_by := f_by
    fd_by := _
    F_by := fun_mk (st := s_by) l_by c_by k_by
    g_by := PySem.W.mg_of X G a_by
    f_is_urn := f_is_urn
    fd_is_urn := _
    F_is_urn := fun_mk (st := s_is_urn) l_is_urn c_is_urn k_is_urn
    g_is_urn := PySem.W.mg_of X G a_is_urn
    f_is_rule_of := f_is_rule_of
    fd_is_rule_of := _
    F_is_rule_of := fun_mk (st := s_is_rule_of) l_is_rule_of c_is_rule_of k_is_rule_of
    g_is_rule_of := PySem.W.mg_of X G a_is_rule_of
    f_need_number := f_need_number
    fd_need_number := _
    F_need_number := fun_mk (st := s_need_number) l_need_number c_need_number k_need_number
    g_need_number := PySem.W.mg_of X G a_need_number
    f_is_rule := f_is_rule
    fd_is_rule := _
    F_is_rule := fun_mk (st := s_is_rule) l_is_rule c_is_rule k_is_rule
    g_is_rule := PySem.W.mg_of X G a_is_rule
    f_need_urn := f_need_urn
    fd_need_urn := _
    F_need_urn := fun_mk (st := s_need_urn) l_need_urn c_need_urn k_need_urn
    g_need_urn := PySem.W.mg_of X G a_need_urn
    f_need_rule := f_need_rule
    fd_need_rule := _
    F_need_rule := fun_mk (st := s_need_rule) l_need_rule c_need_rule k_need_rule
    g_need_rule := PySem.W.mg_of X G a_need_rule
    f_need_kind := f_need_kind
    fd_need_kind := _
    F_need_kind := fun_mk (st := s_need_kind) l_need_kind c_need_kind k_need_kind
    g_need_kind := PySem.W.mg_of X G a_need_kind
    f_share := f_share
    fd_share := _
    F_share := fun_mk (st := s_share) l_share c_share k_share
    g_share := PySem.W.mg_of X G a_share
    f_chance := f_chance
    fd_chance := _
    F_chance := fun_mk (st := s_chance) l_chance c_chance k_chance
    g_chance := PySem.W.mg_of X G a_chance
    f_put_behind := f_put_behind
    fd_put_behind := _
    F_put_behind := fun_mk (st := s_put_behind) l_put_behind c_put_behind k_put_behind
    g_put_behind := PySem.W.mg_of X G a_put_behind
    f_after := f_after
    fd_after := _
    F_after := fun_mk (st := s_after) l_after c_after k_after
    g_after := PySem.W.mg_of X G a_after
    f_need_draws := f_need_draws
    fd_need_draws := _
    F_need_draws := fun_mk (st := s_need_draws) l_need_draws c_need_draws k_need_draws
    g_need_draws := PySem.W.mg_of X G a_need_draws
    f_gone_through := f_gone_through
    fd_gone_through := _
    F_gone_through := fun_mk (st := s_gone_through) l_gone_through c_gone_through k_gone_through
    g_gone_through := PySem.W.mg_of X G a_gone_through
    f_chance_of := f_chance_of
    fd_chance_of := _
    F_chance_of := fun_mk (st := s_chance_of) l_chance_of c_chance_of k_chance_of
    g_chance_of := PySem.W.mg_of X G a_chance_of
    f_urn_behind := f_urn_behind
    fd_urn_behind := _
    F_urn_behind := fun_mk (st := s_urn_behind) l_urn_behind c_urn_behind k_urn_behind
    g_urn_behind := PySem.W.mg_of X G a_urn_behind
    f__law_cell_at := f__law_cell_at
    fd__law_cell_at := _
    F__law_cell_at := fun_mk (st := s__law_cell_at) l__law_cell_at c__law_cell_at k__law_cell_at
    g__law_cell_at := PySem.W.mg_of X G a__law_cell_at
    f__law_state := f__law_state
    fd__law_state := _
    F__law_state := fun_mk (st := s__law_state) l__law_state c__law_state k__law_state
    g__law_state := PySem.W.mg_of X G a__law_state
    f__law_take := f__law_take
    fd__law_take := _
    F__law_take := fun_mk (st := s__law_take) l__law_take c__law_take k__law_take
    g__law_take := PySem.W.mg_of X G a__law_take
    f__law_cut := f__law_cut
    fd__law_cut := _
    F__law_cut := fun_mk (st := s__law_cut) l__law_cut c__law_cut k__law_cut
    g__law_cut := PySem.W.mg_of X G a__law_cut
    f__law_plus := f__law_plus
    fd__law_plus := _
    F__law_plus := fun_mk (st := s__law_plus) l__law_plus c__law_plus k__law_plus
    g__law_plus := PySem.W.mg_of X G a__law_plus
    f__law_by := f__law_by
    fd__law_by := _
    F__law_by := fun_mk (st := s__law_by) l__law_by c__law_by k__law_by
    g__law_by := PySem.W.mg_of X G a__law_by
    f__law_small := f__law_small
    fd__law_small := _
    F__law_small := fun_mk (st := s__law_small) l__law_small c__law_small k__law_small
    g__law_small := PySem.W.mg_of X G a__law_small
    f__law_longer := f__law_longer
    fd__law_longer := _
    F__law_longer := fun_mk (st := s__law_longer) l__law_longer c__law_longer k__law_longer
    g__law_longer := PySem.W.mg_of X G a__law_longer
    f_law := fa
    fd_law := _
    F_law := fun_mk (st := s_law) l_law c_law k_law
    g_law := PySem.W.mg_of X G a_law
    z_abs := PySem.W.mg_none_of X G z_abs
    z_all := PySem.W.mg_none_of X G z_all
    z_bool := PySem.W.mg_none_of X G z_bool
    z_int := PySem.W.mg_none_of X G z_int
    z_isinstance := PySem.W.mg_none_of X G z_isinstance
    z_len := PySem.W.mg_none_of X G z_len
    z_max := PySem.W.mg_none_of X G z_max
    z_min := PySem.W.mg_none_of X G z_min
    z_range := PySem.W.mg_none_of X G z_range
    z_sum := PySem.W.mg_none_of X G z_sum
    z_tuple := PySem.W.mg_none_of X G z_tuple
    z_zip := PySem.W.mg_none_of X G z_zip
    t_MOST_BALLS := t_MOST_BALLS
    m_MOST_BALLS := PySem.W.mg_of X G m_MOST_BALLS
    t_MOST_DRAWN := t_MOST_DRAWN
    m_MOST_DRAWN := PySem.W.mg_of X G m_MOST_DRAWN
    t_MOST_KINDS := t_MOST_KINDS
    m_MOST_KINDS := PySem.W.mg_of X G m_MOST_KINDS
    t_MOST_PUT := t_MOST_PUT
    m_MOST_PUT := PySem.W.mg_of X G m_MOST_PUT }
  exact ⟨T.fd_law, fun s v => .of_eq rfl, fun base _ _ => law_imp (ok_law T) law_true⟩
end LawHere

open PySem PySem.W PyProof.Rows
set_option maxHeartbeats 0 in
theorem PySem.Challenge.cw_growurns_k14_whole_draws_holds : PySem.Challenge.rw_growurns_k14_whole_draws.Holds := by
  w_on; o_law; k_head; (case hw => w_witness2)
  k_fill
  refine L2.walk_of (l := PySem.Challenge.rw_growurns_k14_whole_draws) (n := 63) (k := 7) (x := "_law_script") (CX := fun w => L2.CX PySem.Challenge.rw_growurns_k14_whole_draws.prog w) (sp := fun w => GD.spLaw _) rfl (by decide) rfl ⟨rfl, by decide, by decide⟩ (fun w h Y => PySem.W.kIn_of Y) ?F (fun _ _ a ns hl _ hS => ⟨a, ns, rfl, hS, hl, fun _ => rfl⟩) (fun _ _ _ _ _ h => GD.cx_none h)
  case F =>
    intro w mg fa h KX G hmg
    refine' LawHere.all_mkL LawHere.law_true KX G hmg ?a_is_whole ?l_is_whole ?c_is_whole ?k_is_whole ?a_is_between ?l_is_between ?c_is_between ?k_is_between ?a_divisor ?l_divisor ?c_divisor ?k_divisor ?a_fraction ?l_fraction ?c_fraction ?k_fraction ?a_by ?l_by ?c_by ?k_by ?a_is_urn ?l_is_urn ?c_is_urn ?k_is_urn ?a_is_rule_of ?l_is_rule_of ?c_is_rule_of ?k_is_rule_of ?a_need_number ?l_need_number ?c_need_number ?k_need_number ?a_is_rule ?l_is_rule ?c_is_rule ?k_is_rule ?a_need_urn ?l_need_urn ?c_need_urn ?k_need_urn ?a_need_rule ?l_need_rule ?c_need_rule ?k_need_rule ?a_need_kind ?l_need_kind ?c_need_kind ?k_need_kind ?a_share ?l_share ?c_share ?k_share ?a_chance ?l_chance ?c_chance ?k_chance ?a_put_behind ?l_put_behind ?c_put_behind ?k_put_behind ?a_after ?l_after ?c_after ?k_after ?a_need_draws ?l_need_draws ?c_need_draws ?k_need_draws ?a_gone_through ?l_gone_through ?c_gone_through ?k_gone_through ?a_chance_of ?l_chance_of ?c_chance_of ?k_chance_of ?a_urn_behind ?l_urn_behind ?c_urn_behind ?k_urn_behind ?a__law_cell_at ?l__law_cell_at ?c__law_cell_at ?k__law_cell_at ?a__law_state ?l__law_state ?c__law_state ?k__law_state ?a__law_take ?l__law_take ?c__law_take ?k__law_take ?a__law_cut ?l__law_cut ?c__law_cut ?k__law_cut ?a__law_plus ?l__law_plus ?c__law_plus ?k__law_plus ?a__law_by ?l__law_by ?c__law_by ?k__law_by ?a__law_small ?l__law_small ?c__law_small ?k__law_small ?a__law_longer ?l__law_longer ?c__law_longer ?k__law_longer ?a_law ?l_law ?c_law ?k_law ?z_abs ?z_all ?z_bool ?z_int ?z_isinstance ?z_len ?z_max ?z_min ?z_range ?z_sum ?z_tuple ?z_zip ?m_MOST_BALLS ?m_MOST_DRAWN ?m_MOST_KINDS ?m_MOST_PUT
    (case a_is_whole => k_is); (case l_is_whole => k_is); (case c_is_whole => k_is); (case k_is_whole => k_is); (case a_is_between => k_is); (case l_is_between => k_is); (case c_is_between => k_is); (case k_is_between => k_is); (case a_divisor => k_is); (case l_divisor => k_is); (case c_divisor => k_is); (case k_divisor => k_is); (case a_fraction => k_is); (case l_fraction => k_is); (case c_fraction => k_is); (case k_fraction => k_is); (case a_by => k_is); (case l_by => k_is); (case c_by => k_is); (case k_by => k_is); (case a_is_urn => k_is); (case l_is_urn => k_is); (case c_is_urn => k_is); (case k_is_urn => k_is); (case a_is_rule_of => k_is); (case l_is_rule_of => k_is); (case c_is_rule_of => k_is); (case k_is_rule_of => k_is); (case a_need_number => k_is); (case l_need_number => k_is); (case c_need_number => k_is); (case k_need_number => k_is); (case a_is_rule => k_is); (case l_is_rule => k_is); (case c_is_rule => k_is); (case k_is_rule => k_is); (case a_need_urn => k_is); (case l_need_urn => k_is); (case c_need_urn => k_is); (case k_need_urn => k_is); (case a_need_rule => k_is); (case l_need_rule => k_is); (case c_need_rule => k_is); (case k_need_rule => k_is); (case a_need_kind => k_is); (case l_need_kind => k_is); (case c_need_kind => k_is); (case k_need_kind => k_is); (case a_share => k_is); (case l_share => k_is); (case c_share => k_is); (case k_share => k_is); (case a_chance => k_is); (case l_chance => k_is); (case c_chance => k_is); (case k_chance => k_is); (case a_put_behind => k_is); (case l_put_behind => k_is); (case c_put_behind => k_is); (case k_put_behind => k_is); (case a_after => k_is); (case l_after => k_is); (case c_after => k_is); (case k_after => k_is); (case a_need_draws => k_is); (case l_need_draws => k_is); (case c_need_draws => k_is); (case k_need_draws => k_is); (case a_gone_through => k_is); (case l_gone_through => k_is); (case c_gone_through => k_is); (case k_gone_through => k_is); (case a_chance_of => k_is); (case l_chance_of => k_is); (case c_chance_of => k_is); (case k_chance_of => k_is); (case a_urn_behind => k_is); (case l_urn_behind => k_is); (case c_urn_behind => k_is); (case k_urn_behind => k_is); (case a__law_cell_at => k_is); (case l__law_cell_at => k_is); (case c__law_cell_at => k_is); (case k__law_cell_at => k_is); (case a__law_state => k_is); (case l__law_state => k_is); (case c__law_state => k_is); (case k__law_state => k_is); (case a__law_take => k_is); (case l__law_take => k_is); (case c__law_take => k_is); (case k__law_take => k_is); (case a__law_cut => k_is); (case l__law_cut => k_is); (case c__law_cut => k_is); (case k__law_cut => k_is); (case a__law_plus => k_is); (case l__law_plus => k_is); (case c__law_plus => k_is); (case k__law_plus => k_is); (case a__law_by => k_is); (case l__law_by => k_is); (case c__law_by => k_is); (case k__law_by => k_is); (case a__law_small => k_is); (case l__law_small => k_is); (case c__law_small => k_is); (case k__law_small => k_is); (case a__law_longer => k_is); (case l__law_longer => k_is); (case c__law_longer => k_is); (case k__law_longer => k_is); (case a_law => k_is); (case l_law => k_is); (case c_law => k_is); (case k_law => k_is); (case z_abs => k_is); (case z_all => k_is); (case z_bool => k_is); (case z_int => k_is); (case z_isinstance => k_is); (case z_len => k_is); (case z_max => k_is); (case z_min => k_is); (case z_range => k_is); (case z_sum => k_is); (case z_tuple => k_is); (case z_zip => k_is); (case m_MOST_BALLS => k_is); (case m_MOST_DRAWN => k_is); (case m_MOST_KINDS => k_is); (case m_MOST_PUT => k_is)
