import PyProof.Rows.All
import Wide.All
import OpenK.AllK
import Wide.FinOn
import HandS.ForMost
import HandS.ForExc
import HandS.Flow
import HandS.TupAny
import HandS.Defaults
import HandS.HeadHook1
import HandS.HeadHook2
import HandS.ExcIs
import HandS.ExcValue
import HandS.IsInst
import HandS.Deep
import HandS.Conv
import HandS.TupMul
import HandS.More
import HandS.NoneIn
import HandS.HeadHook3
import HandS.Exc
import HandS.Strs
import KE.DataFind
import HandS.Style
import HandS.TryOnly
import HandS.SetFor
import KE.SortData
import KE.DataMinMax
import HandS.ListItems
import KE.KDictSum
import HandS.Iter
import HandS.Text
import HandS.Replace
import HandS.Steps
import HandS.Head0
import HandS.Head1
import HandS.Head2
import HandS.HeadEnd
import HandS.HeadHook4
import KE.KStateDown
import PySem.Challenge.RW_signlearn_k50_whole_texts
set_option Elab.async false
set_option linter.all false
set_option maxRecDepth 100000
set_option maxHeartbeats 4000000
set_option autoImplicit false
/-! Dat0: data in an abstract heap, hidden places, slots, frames. -/
namespace Dt
open PySem L2

/-! ### data -/
def kd : Key → PyData
  | .inl i => .int i
  | .inr x => .str x
/-- an exception of the own class c, held as a value; as data: a dict of the one key None -/
def ExK (K : PySem.W.Frag) (c : Str) (a : Addr) : HO := .ext fun h => ∃ (oe : Obj) (vs : Array Value), h.get? a = some oe ∧ Zc (.ref (He.ga K c)) none oe ∧ oe.data = .fields vs
def excD (c : Str) : PyData := .dict [(.none, .str c)]
structure XcK (K : PySem.W.Frag) (c : Str) : Prop where
  ex : ExcC K (He.ga K c)
  kit : ∀ T : String, T ∈ ["int", "bool", "tuple", "list", "str", "dict"] → PySem.W.kitOne K (.ref (He.ga K c)) (.type T) = some false
mutual
inductive Da (K : PySem.W.Frag) (H : Hp) : V → PyData → Prop
  | non : Da K H .non .none
  | bl (b : Bool) : Da K H (.bl b) (.bool b)
  | int (i : Int) : Da K H (.int i) (.int i)
  | str (x : Str) : Da K H (.str x) (.str x)
  | lst {a : Addr} {xs : List V} {ds : List PyData} : H a = some (.lst xs) → DaL K H xs ds → Da K H (.ref a) (.list ds)
  | tup {a : Addr} {xs : List V} {ds : List PyData} : SqT K H a xs → DaL K H xs ds → Da K H (.ref a) (.tuple ds)
  | dic {a : Addr} {kvs : List (Key × V)} {ps : List (PyData × PyData)} : H a = some (.dK kvs) → DaD K H kvs ps → Da K H (.ref a) (.dict ps)
  | exc {a : Addr} {c : Str} : H a = some (ExK K c a) → XcK K c → Da K H (.ref a) (excD c)
inductive DaL (K : PySem.W.Frag) (H : Hp) : List V → List PyData → Prop
  | nil : DaL K H [] []
  | cons {v : V} {vs : List V} {d : PyData} {ds : List PyData} : Da K H v d → DaL K H vs ds → DaL K H (v :: vs) (d :: ds)
inductive DaD (K : PySem.W.Frag) (H : Hp) : List (Key × V) → List (PyData × PyData) → Prop
  | nil : DaD K H [] []
  | cons {k : Key} {v : V} {kvs : List (Key × V)} {d : PyData} {ps : List (PyData × PyData)} : Da K H v d → DaD K H kvs ps → DaD K H ((k, v) :: kvs) ((kd k, d) :: ps)
end
theorem seqT {K : PySem.W.Frag} {H H' : Hp} {a : Addr} {xs : List V} (e : Same H H') (h : SqT K H a xs) : SqT K H' a xs := by
  rcases h with (h | ⟨o, h⟩) | h
  · exact .inl (.inl (e _ _ h))
  · exact .inl (.inr ⟨o, e _ _ h⟩)
  · exact .inr h
mutual
theorem Da.mono {K : PySem.W.Frag} {H H' : Hp} (e : Same H H') : ∀ {v : V} {d : PyData}, Da K H v d → Da K H' v d
  | _, _, .non => .non
  | _, _, .bl b => .bl b
  | _, _, .int i => .int i
  | _, _, .str x => .str x
  | _, _, .lst h r => .lst (e _ _ h) (DaL.mono e r)
  | _, _, .tup h r => .tup (seqT e h) (DaL.mono e r)
  | _, _, .dic h r => .dic (e _ _ h) (DaD.mono e r)
  | _, _, .exc h r => .exc (e _ _ h) r
theorem DaL.mono {K : PySem.W.Frag} {H H' : Hp} (e : Same H H') : ∀ {vs : List V} {ds : List PyData}, DaL K H vs ds → DaL K H' vs ds
  | _, _, .nil => .nil
  | _, _, .cons h t => .cons (Da.mono e h) (DaL.mono e t)
theorem DaD.mono {K : PySem.W.Frag} {H H' : Hp} (e : Same H H') : ∀ {vs : List (Key × V)} {ds : List (PyData × PyData)}, DaD K H vs ds → DaD K H' vs ds
  | _, _, .nil => .nil
  | _, _, .cons h t => .cons (Da.mono e h) (DaD.mono e t)
end
section
variable {K : PySem.W.Frag} {H : Hp}
theorem DaL.length : ∀ {vs : List V} {ds : List PyData}, DaL K H vs ds → vs.length = ds.length
  | _, _, .nil => rfl
  | _, _, .cons _ t => by simp [DaL.length t]
theorem DaL.get : ∀ {vs : List V} {ds : List PyData} {i : Nat} {d : PyData}, DaL K H vs ds → ds[i]? = some d → ∃ v, vs[i]? = some v ∧ Da K H v d
  | _, _, _, _, .nil, e => by simp at e
  | _, _, 0, _, .cons h _, e => by simp at e; subst e; exact ⟨_, rfl, h⟩
  | _, _, i + 1, d, .cons _ t, e => by
    obtain ⟨v, h1, h2⟩ := DaL.get (i := i) (d := d) t (by simpa using e)
    exact ⟨v, by simpa using h1, h2⟩
theorem DaL.getV : ∀ {vs : List V} {ds : List PyData} {i : Nat} {v : V}, DaL K H vs ds → vs[i]? = some v → ∃ d, ds[i]? = some d ∧ Da K H v d
  | _, _, _, _, .nil, e => by simp at e
  | _, _, 0, _, .cons h _, e => by simp at e; subst e; exact ⟨_, rfl, h⟩
  | _, _, i + 1, v, .cons _ t, e => by
    obtain ⟨d, h1, h2⟩ := DaL.getV (i := i) (v := v) t (by simpa using e)
    exact ⟨d, by simpa using h1, h2⟩
theorem DaL.append : ∀ {vs ws : List V} {ds es : List PyData}, DaL K H vs ds → DaL K H ws es → DaL K H (vs ++ ws) (ds ++ es)
  | _, _, _, _, .nil, s => s
  | _, _, _, _, .cons h t, s => .cons h (DaL.append t s)
theorem DaL.take : ∀ {vs : List V} {ds : List PyData} (n : Nat), DaL K H vs ds → DaL K H (vs.take n) (ds.take n)
  | _, _, 0, _ => .nil
  | _, _, _ + 1, .nil => .nil
  | _, _, n + 1, .cons h t => .cons h (DaL.take n t)
theorem DaL.drop : ∀ {vs : List V} {ds : List PyData} (n : Nat), DaL K H vs ds → DaL K H (vs.drop n) (ds.drop n)
  | _, _, 0, r => r
  | _, _, _ + 1, .nil => .nil
  | _, _, n + 1, .cons _ t => DaL.drop n t
theorem DaL.one {vs : List V} {d : PyData} (h : DaL K H vs [d]) : ∃ v, vs = [v] ∧ Da K H v d := by
  cases h with
  | cons h t => cases t; exact ⟨_, rfl, h⟩
theorem DaL.two {vs : List V} {d e : PyData} (h : DaL K H vs [d, e]) : ∃ v w, vs = [v, w] ∧ Da K H v d ∧ Da K H w e := by
  cases h with
  | cons h t =>
    obtain ⟨w, rfl, hw⟩ := t.one
    exact ⟨_, w, rfl, h, hw⟩
theorem DaL.ints : ∀ {vs : List V} {ns : List Int}, DaL K H vs (ns.map PyData.int) → vs = ns.map V.int
  | _, [], .nil => rfl
  | _, n :: ns, .cons h t => by cases h; simp [DaL.ints t]
theorem DaL.bools : ∀ {vs : List V} {ns : List Bool}, DaL K H vs (ns.map PyData.bool) → vs = ns.map V.bl
  | _, [], .nil => rfl
  | _, n :: ns, .cons h t => by cases h; simp [DaL.bools t]
theorem DaL.of_ints : ∀ (ns : List Int), DaL K H (ns.map V.int) (ns.map PyData.int)
  | [] => .nil
  | n :: ns => .cons (.int n) (DaL.of_ints ns)
theorem DaL.of_bools : ∀ (ns : List Bool), DaL K H (ns.map V.bl) (ns.map PyData.bool)
  | [] => .nil
  | n :: ns => .cons (.bl n) (DaL.of_bools ns)
end
mutual
theorem Da.dp {K : PySem.W.Frag} {H : Hp} : ∀ {v : V} {d : PyData}, Da K H v d → d.canLay0 = true → Dp K H v d
  | _, _, .non, _ => .non
  | _, _, .bl b, _ => .bl b
  | _, _, .int i, _ => .int i
  | _, _, .str x, _ => .str x
  | _, _, .lst h r, e => .lst (.of h) (DaL.dp r (by unfold PyData.canLay0 at e; exact e))
  | _, _, .tup h r, e => .tup h (DaL.dp r (by unfold PyData.canLay0 at e; exact e))
  | _, _, .dic h r, e => by unfold PyData.canLay0 at e; cases e
theorem DaL.dp {K : PySem.W.Frag} {H : Hp} : ∀ {vs : List V} {ds : List PyData}, DaL K H vs ds → PyData.canLayAll0 ds = true → DpAll K H vs ds
  | _, _, .nil, _ => .nil
  | _, _, .cons h t, e => by
    unfold PyData.canLayAll0 at e
    rw [Bool.and_eq_true] at e
    exact .cons (Da.dp h e.1) (DaL.dp t e.2)
end

/-! ### hidden places -/
abbrev Hd := Addr → Prop
open Classical in
noncomputable def off (S : Hd) (H : Hp) : Hp := fun b => if S b then none else H b
theorem off_in {S : Hd} {H : Hp} {b : Addr} (h : ¬ S b) : off S H b = H b := by unfold off; rw [if_neg h]
theorem off_out {S : Hd} {H : Hp} {b : Addr} (h : S b) : off S H b = none := by unfold off; rw [if_pos h]
theorem off_get {S : Hd} {H : Hp} {b : Addr} {o : HO} (h : off S H b = some o) : ¬ S b ∧ H b = some o := by
  by_cases q : S b
  · rw [off_out q] at h; cases h
  · rw [off_in q] at h; exact ⟨q, h⟩
def Le (S : Hd) (H H' : Hp) : Prop := ∀ b o, ¬ S b → H b = some o → H' b = some o
theorem Le.refl {S : Hd} {H : Hp} : Le S H H := fun _ _ _ h => h
theorem Le.trans {S : Hd} {H H1 H2 : Hp} (a : Le S H H1) (b : Le S H1 H2) : Le S H H2 := fun c o n h => b c o n (a c o n h)
theorem Le.of {S : Hd} {H H' : Hp} (e : Same H H') : Le S H H' := fun b o _ h => e b o h
theorem Le.off {S : Hd} {H H' : Hp} (e : Le S H H') : Same (off S H) (off S H') := fun b o h => by
  obtain ⟨n, h⟩ := off_get h
  rw [off_in n]
  exact e b o n h
theorem off_same {S : Hd} {H : Hp} : Same (off S H) H := fun b o h => (off_get h).2
theorem off_sub {S S' : Hd} {H : Hp} (h : ∀ b, S' b → S b) : Same (off S H) (off S' H) := fun b o e => by
  obtain ⟨n, q⟩ := off_get e
  rw [off_in (fun z => n (h b z))]
  exact q
theorem same_new {H : Hp} {p : Addr} {o : HO} (h : H p = none) : Same H (upd H p o) := fun b x e => by
  rw [upd_ne (ne_of_none e h)]
  exact e
def Hid (S : Hd) (H : Hp) : Prop := ∀ b, S b → H b ≠ none
theorem Hid.free {S : Hd} {H : Hp} {p : Addr} (h : Hid S H) (n : H p = none) : ¬ S p := fun z => h p z n
theorem Hid.same {S : Hd} {H H' : Hp} (h : Hid S H) (e : Same H H') : Hid S H' := fun b z n => h b z (e.free n)
/-- a new list, a new tuple of data is data -/
theorem Da.newL {K : PySem.W.Frag} {S : Hd} {H : Hp} {p : Addr} {vs : List V} {ds : List PyData} (hS : Hid S H) (n : H p = none) (h : DaL K (off S H) vs ds) : Da K (off S (upd H p (.lst vs))) (.ref p) (.list ds) :=
  .lst (by rw [off_in (hS.free n), upd_same]) (h.mono (Le.off (Le.of (same_new n))))
theorem Da.newT {K : PySem.W.Frag} {S : Hd} {H : Hp} {p : Addr} {vs : List V} {ds : List PyData} (hS : Hid S H) (n : H p = none) (h : DaL K (off S H) vs ds) : Da K (off S (upd H p (.tup vs))) (.ref p) (.tuple ds) :=
  .tup (.of (by rw [off_in (hS.free n), upd_same])) (h.mono (Le.off (Le.of (same_new n))))

/-! ### slots -/
inductive Sl where
  | no
  | dat (d : PyData)
  | own0 (d : PyData)
  | twn (n : Nat)
  | scr
abbrev Sl.own (ds : List PyData) : Sl := .own0 (.list ds)
abbrev Gm := List Sl
/-- what an object of one's own holds -/
def Cont (K : PySem.W.Frag) (h : Hp) (o : HO) : PyData → Prop
  | .list ds => ∃ vs, o = .lst vs ∧ DaL K h vs ds
  | .dict ps => ∃ kvs, o = .dK kvs ∧ DaD K h kvs ps
  | _ => False
theorem Cont.mono {K : PySem.W.Frag} {h h' : Hp} {o : HO} (e : Same h h') : ∀ {d : PyData}, Cont K h o d → Cont K h' o d
  | .list _, ⟨vs, e1, e2⟩ => ⟨vs, e1, e2.mono e⟩
  | .dict _, ⟨vs, e1, e2⟩ => ⟨vs, e1, e2.mono e⟩
structure Fm where
  H0 : Hp
  S0 : Hd
  T : Hd
/-- the script -/
def Scr (K : PySem.W.Frag) (H : Hp) (v : V) : Prop := ∃ (a : Addr) (ns : List Int), v = .ref a ∧ SqL K H a (ns.map V.int)
theorem Scr.mono {K : PySem.W.Frag} {H H' : Hp} {v : V} (e : Same H H') (h : Scr K H v) : Scr K H' v := let ⟨a, ns, e1, e2⟩ := h; ⟨a, ns, e1, e.seq e2⟩
def SlOk (K : PySem.W.Frag) (F : Fm) (S : Hd) (H : Hp) : Sl → Option V → Prop
  | .no, _ => True
  | .dat d, o => ∃ v, o = some v ∧ Da K (off S H) v d
  | .own0 d, o => ∃ a u, o = some (.ref a) ∧ S a ∧ F.H0 a = none ∧ ¬ F.T a ∧ H a = some u ∧ Cont K (off S H) u d
  | .twn n, o => ∃ a vs, o = some (.ref a) ∧ S a ∧ (F.T a ∨ (F.H0 a = none ∧ ∀ b, ¬ F.T b)) ∧ H a = some (.lst vs) ∧ vs.length ≤ n
  | .scr, o => ∃ v, o = some v ∧ Scr K (off S H) v
def Sl.mut : Sl → Bool
  | .own0 _ => true
  | .twn _ => true
  | _ => false
structure En (K : PySem.W.Frag) (F : Fm) (S : Hd) (Γ : Gm) (σ : St) (H : Hp) : Prop where
  sub : ∀ b, F.S0 b → S b ∧ F.H0 b ≠ none
  tin : ∀ b, F.T b → S b
  fr : ∀ b, S b → F.S0 b ∨ F.T b ∨ F.H0 b = none
  hid : Hid S H
  base : ∀ b o, ¬ F.T b → F.H0 b = some o → H b = some o
  len : Γ.length = σ.length
  slot : ∀ (i : Nat) (s : Sl), Γ[i]? = some s → ∃ o, σ[i]? = some o ∧ SlOk K F S H s o
  inj : ∀ (i j : Nat) (s t : Sl) (a : Addr), i ≠ j → Γ[i]? = some s → Γ[j]? = some t → s.mut = true → t.mut = true → σ[i]? = some (some (.ref a)) → σ[j]? ≠ some (some (.ref a))
structure Mv (S : Hd) (σ : St) (Γ Γ' : Gm) (H H' : Hp) : Prop where
  le : Le S H H'
  al : ∀ (b : Addr) (o : HO), H b = some o → H' b = some o ∨ ∃ (i n : Nat), Γ[i]? = some (Sl.twn n) ∧ σ[i]? = some (some (.ref b))
  ow : ∀ (i : Nat) (d : PyData), Γ[i]? = some (Sl.own0 d) → Γ'[i]? = some (Sl.own0 d)
  wo : ∀ (i : Nat) (d : PyData), Γ'[i]? = some (Sl.own0 d) → Γ[i]? = some (Sl.own0 d)
  tw : ∀ (i n : Nat), Γ'[i]? = some (Sl.twn n) → ∃ m, Γ[i]? = some (Sl.twn m)
theorem Mv.refl {S : Hd} {σ : St} {Γ : Gm} {H : Hp} : Mv S σ Γ Γ H H := ⟨.refl, fun _ _ h => .inl h, fun _ _ h => h, fun _ _ h => h, fun _ n h => ⟨n, h⟩⟩
theorem Mv.trans {S : Hd} {σ : St} {Γ Γ1 Γ2 : Gm} {H H1 H2 : Hp} (a : Mv S σ Γ Γ1 H H1) (b : Mv S σ Γ1 Γ2 H1 H2) : Mv S σ Γ Γ2 H H2 :=
  ⟨a.le.trans b.le, fun c o h => by
    rcases a.al c o h with h1 | h1
    · rcases b.al c o h1 with h2 | ⟨i, n, g, e⟩
      · exact .inl h2
      · obtain ⟨m, g'⟩ := a.tw i n g
        exact .inr ⟨i, m, g', e⟩
    · exact .inr h1, fun i ds h => b.ow i ds (a.ow i ds h), fun i ds h => a.wo i ds (b.wo i ds h), fun i n h => let ⟨m, h1⟩ := b.tw i n h; a.tw i m h1⟩
theorem Mv.of {S : Hd} {σ : St} {Γ : Gm} {H H' : Hp} (e : Same H H') : Mv S σ Γ Γ H H' := ⟨.of e, fun b o h => .inl (e b o h), fun _ _ h => h, fun _ _ h => h, fun _ n h => ⟨n, h⟩⟩
theorem Mv.mu {S : Hd} {σ : St} {Γ Γ' : Gm} {H H' : Hp} (a : Mv S σ Γ Γ' H H') {i : Nat} {s : Sl} (h : Γ'[i]? = some s) (m : s.mut = true) : ∃ s', Γ[i]? = some s' ∧ s'.mut = true := by
  cases s with
  | own0 ds => exact ⟨_, a.wo i ds h, rfl⟩
  | twn n => obtain ⟨k, q⟩ := a.tw i n h; exact ⟨_, q, rfl⟩
  | _ => cases m
/-- readable: data, or a list that a slot owns -/
def Rb (K : PySem.W.Frag) (S : Hd) (Γ : Gm) (σ : St) (H : Hp) (v : V) (d : PyData) : Prop :=
  Da K (off S H) v d ∨ ∃ (i : Nat), Γ[i]? = some (Sl.own0 d) ∧ σ[i]? = some (some v)
/-- .. by the heap -/
def Dr (K : PySem.W.Frag) (S : Hd) (H : Hp) (v : V) (d : PyData) : Prop :=
  Da K (off S H) v d ∨ ∃ a u, v = .ref a ∧ H a = some u ∧ Cont K (off S H) u d
section
variable {K : PySem.W.Frag} {F : Fm} {S : Hd} {Γ Γ' : Gm} {σ : St} {H H' : Hp} {v : V} {d : PyData}
theorem SlOk.same (e : Same H H') : ∀ {s : Sl} {o : Option V}, SlOk K F S H s o → SlOk K F S H' s o
  | .no, _, h => h
  | .dat d, _, ⟨v, h1, h2⟩ => ⟨v, h1, h2.mono (Le.off (Le.of e))⟩
  | .own0 ds, _, ⟨a, vs, h1, h2, h3, ht, h4, h5⟩ => ⟨a, vs, h1, h2, h3, ht, e _ _ h4, h5.mono (Le.off (Le.of e))⟩
  | .twn n, _, ⟨a, vs, h1, h2, h3, h4, h5⟩ => ⟨a, vs, h1, h2, h3, e _ _ h4, h5⟩
  | .scr, _, ⟨v, h1, h2⟩ => ⟨v, h1, h2.mono (Le.off (Le.of e))⟩
theorem En.same (h : En K F S Γ σ H) (e : Same H H') : En K F S Γ σ H' :=
  ⟨h.sub, h.tin, h.fr, h.hid.same e, fun b o n q => e _ _ (h.base b o n q), h.len, fun i s q => let ⟨o, a, b⟩ := h.slot i s q; ⟨o, a, b.same e⟩, h.inj⟩
theorem En.fresh0 {p : Addr} (h : En K F S Γ σ H) (n : H p = none) : F.H0 p = none := by
  cases q : F.H0 p with
  | none => rfl
  | some o =>
    by_cases t : F.T p
    · exact absurd n (h.hid p (h.tin p t))
    · rw [h.base p o t q] at n; cases n
theorem Rb.of (h : Da K (off S H) v d) : Rb K S Γ σ H v d := .inl h
theorem Rb.mv (h : Rb K S Γ σ H v d) (m : Mv S σ Γ Γ' H H') : Rb K S Γ' σ H' v d := by
  rcases h with h | ⟨i, h1, h2⟩
  · exact .inl (h.mono m.le.off)
  · exact .inr ⟨i, m.ow _ _ h1, h2⟩
theorem Rb.dr (h : Rb K S Γ σ H v d) (e : En K F S Γ σ H) : Dr K S H v d := by
  rcases h with h | ⟨i, h1, h2⟩
  · exact .inl h
  · obtain ⟨o, q1, a, u, q2, _, _, _, q3, q4⟩ := e.slot i _ h1
    rw [h2] at q1
    cases q1
    cases q2
    exact .inr ⟨a, u, rfl, q3, q4⟩
theorem Dr.list {ds : List PyData} (h : Dr K S H v (.list ds)) : ∃ a vs, v = .ref a ∧ H a = some (.lst vs) ∧ DaL K (off S H) vs ds := by
  rcases h with h | ⟨a, u, rfl, h1, vs, e, h2⟩
  · cases h with
    | lst h r => exact ⟨_, _, rfl, (off_get h).2, r⟩
  · subst e
    exact ⟨a, vs, rfl, h1, h2⟩
theorem Dr.tuple {ds : List PyData} (h : Dr K S H v (.tuple ds)) : ∃ a vs, v = .ref a ∧ SqT K H a vs ∧ DaL K (off S H) vs ds := by
  rcases h with h | ⟨a, u, rfl, h1, h2⟩
  · cases h with
    | tup h r => exact ⟨_, _, rfl, seqT off_same h, r⟩
  · exact h2.elim
theorem Dr.int {i : Int} (h : Dr K S H v (.int i)) : v = .int i := by
  rcases h with h | ⟨a, u, rfl, h1, h2⟩
  · cases h; rfl
  · exact h2.elim
theorem Dr.bool {i : Bool} (h : Dr K S H v (.bool i)) : v = .bl i := by
  rcases h with h | ⟨a, u, rfl, h1, h2⟩
  · cases h; rfl
  · exact h2.elim
theorem Dr.str {i : Str} (h : Dr K S H v (.str i)) : v = .str i := by
  rcases h with h | ⟨a, u, rfl, h1, h2⟩
  · cases h; rfl
  · exact h2.elim
theorem Dr.none (h : Dr K S H v .none) : v = .non := by
  rcases h with h | ⟨a, u, rfl, h1, h2⟩
  · cases h; rfl
  · exact h2.elim
theorem Dr.dp (h : Dr K S H v d) (c : d.canLay0 = true) : Dp K H v d := by
  rcases h with h | ⟨a, u, rfl, h1, h2⟩
  · exact (h.mono off_same).dp c
  · cases d with
    | list ds =>
      obtain ⟨vs, rfl, h2⟩ := h2
      exact .lst (.of h1) ((h2.mono off_same).dp (by unfold PyData.canLay0 at c; exact c))
    | dict ps => unfold PyData.canLay0 at c; cases c
    | _ => exact h2.elim
end
end Dt

/-! Dat1: readings over data: expressions. -/
namespace Dt
open PySem L2

abbrev Kq := PyData → Gm → Prop
abbrev Ke := Str → Gm → Prop
abbrev DE := Gm → Kq → Ke → Prop
abbrev DB := Gm → (Bool → Gm → Prop) → Ke → Prop
abbrev DL := Gm → (List PyData → Gm → Prop) → Ke → Prop
abbrev F0 : Ke := fun _ _ => False
abbrev W0 : WX := fun _ _ _ _ => False

def tD (K : PySem.W.Frag) (W : WX) (w : DE) : TE := fun σ H Q => ∃ (F : Fm) (S : Hd) (Γ : Gm) (Qd : Kq) (Ed : Ke), En K F S Γ σ H ∧ w Γ Qd Ed ∧
  (∀ d Γ' v H', Qd d Γ' → Mv S σ Γ Γ' H H' → En K F S Γ' σ H' → Da K (off S H') v d → Q v H') ∧ (∀ c Γ' H', Ed c Γ' → En K F S Γ' σ H' → W (.ref (He.ga K c)) none σ H')
def tR (K : PySem.W.Frag) (W : WX) (w : DE) : TE := fun σ H Q => ∃ (F : Fm) (S : Hd) (Γ : Gm) (Qd : Kq) (Ed : Ke), En K F S Γ σ H ∧ w Γ Qd Ed ∧
  (∀ d Γ' v H', Qd d Γ' → Mv S σ Γ Γ' H H' → En K F S Γ' σ H' → Rb K S Γ' σ H' v d → Q v H') ∧ (∀ c Γ' H', Ed c Γ' → En K F S Γ' σ H' → W (.ref (He.ga K c)) none σ H')
def tB (K : PySem.W.Frag) (W : WX) (w : DB) : TT := fun σ H Q => ∃ (F : Fm) (S : Hd) (Γ : Gm) (Qd : Bool → Gm → Prop) (Ed : Ke), En K F S Γ σ H ∧ w Γ Qd Ed ∧
  (∀ b Γ' H', Qd b Γ' → Mv S σ Γ Γ' H H' → En K F S Γ' σ H' → Q b H') ∧ (∀ c Γ' H', Ed c Γ' → En K F S Γ' σ H' → W (.ref (He.ga K c)) none σ H')
/-- arguments: data; readable -/
def tL (K : PySem.W.Frag) (W : WX) (w : DL) : TA := fun σ H Q => ∃ (F : Fm) (S : Hd) (Γ : Gm) (Qd : List PyData → Gm → Prop) (Ed : Ke), En K F S Γ σ H ∧ w Γ Qd Ed ∧
  (∀ ds Γ' vs H', Qd ds Γ' → Mv S σ Γ Γ' H H' → En K F S Γ' σ H' → DaL K (off S H') vs ds → Q vs H') ∧ (∀ c Γ' H', Ed c Γ' → En K F S Γ' σ H' → W (.ref (He.ga K c)) none σ H')
inductive DrL (K : PySem.W.Frag) (S : Hd) (H : Hp) : List V → List PyData → Prop
  | nil : DrL K S H [] []
  | cons {v : V} {vs : List V} {d : PyData} {ds : List PyData} : Dr K S H v d → DrL K S H vs ds → DrL K S H (v :: vs) (d :: ds)
inductive RbL (K : PySem.W.Frag) (S : Hd) (Γ : Gm) (σ : St) (H : Hp) : List V → List PyData → Prop
  | nil : RbL K S Γ σ H [] []
  | cons {v : V} {vs : List V} {d : PyData} {ds : List PyData} : Rb K S Γ σ H v d → RbL K S Γ σ H vs ds → RbL K S Γ σ H (v :: vs) (d :: ds)
def tLR (K : PySem.W.Frag) (W : WX) (w : DL) : TA := fun σ H Q => ∃ (F : Fm) (S : Hd) (Γ : Gm) (Qd : List PyData → Gm → Prop) (Ed : Ke), En K F S Γ σ H ∧ w Γ Qd Ed ∧
  (∀ ds Γ' vs H', Qd ds Γ' → Mv S σ Γ Γ' H H' → En K F S Γ' σ H' → RbL K S Γ' σ H' vs ds → Q vs H') ∧ (∀ c Γ' H', Ed c Γ' → En K F S Γ' σ H' → W (.ref (He.ga K c)) none σ H')
section
variable {K : PySem.W.Frag} {F : Fm} {S : Hd} {Γ Γ' : Gm} {σ : St} {H H' : Hp} {v : V} {d : PyData}
theorem RbL.mv (m : Mv S σ Γ Γ' H H') : ∀ {vs : List V} {ds : List PyData}, RbL K S Γ σ H vs ds → RbL K S Γ' σ H' vs ds
  | _, _, .nil => .nil
  | _, _, .cons h t => .cons (h.mv m) (RbL.mv m t)
theorem RbL.dr (e : En K F S Γ σ H) : ∀ {vs : List V} {ds : List PyData}, RbL K S Γ σ H vs ds → DrL K S H vs ds
  | _, _, .nil => .nil
  | _, _, .cons h t => .cons (h.dr e) (RbL.dr e t)
theorem DrL.one {vs : List V} {d : PyData} (h : DrL K S H vs [d]) : ∃ v, vs = [v] ∧ Dr K S H v d := by
  cases h with
  | cons h t => cases t; exact ⟨_, rfl, h⟩
theorem DrL.two {vs : List V} {d e : PyData} (h : DrL K S H vs [d, e]) : ∃ v w, vs = [v, w] ∧ Dr K S H v d ∧ Dr K S H w e := by
  cases h with
  | cons h t =>
    obtain ⟨w, rfl, hw⟩ := t.one
    exact ⟨_, w, rfl, h, hw⟩
end

section
variable {X : Cx} {W : WX} {e a b c : Expr} {es : List Expr}
theorem peImp {t t' : TE} (h : PE X e t) (i : ∀ σ H Q, t' σ H Q → t σ H Q) : PE X e t' := ⟨fun pins s σ H Q I q => h.run pins s σ H Q I (i σ H Q q)⟩
theorem ptImp {t t' : TT} (h : PT X e t) (i : ∀ σ H Q, t' σ H Q → t σ H Q) : PT X e t' := ⟨fun pins s σ H Q I q => h.run pins s σ H Q I (i σ H Q q)⟩
theorem pwImp {t t' : TT} (h : PW X e t) (i : ∀ σ H Q, t' σ H Q → t σ H Q) : PW X e t' := ⟨fun wh pins s σ H Q I q => h.run wh pins s σ H Q I (i σ H Q q)⟩
theorem paImp {t t' : TA} (h : PA X es t) (i : ∀ σ H Q, t' σ H Q → t σ H Q) : PA X es t' := ⟨fun pos pins s σ H Q I q => h.run pos pins s σ H Q I (i σ H Q q)⟩
theorem psImp {st : Stmt} {t t' : TS} (h : PS X st t) (i : ∀ D σ H, t' D σ H → t D σ H) : PS X st t' := ⟨fun pins s σ H D I q => h.run pins s σ H D I (i D σ H q)⟩
theorem pssImp {st : List Stmt} {t t' : TS} (h : PSs X st t) (i : ∀ D σ H, t' D σ H → t D σ H) : PSs X st t' := ⟨fun pins s σ H D I q => h.run pins s σ H D I (i D σ H q)⟩
theorem piImp {tg : Expr} {t t' : TI} (h : PI X tg e t) (i : ∀ σ H R, t' σ H R → t σ H R) : PI X tg e t' := ⟨fun pins s σ H R I q => h.run pins s σ H R I (i σ H R q)⟩

/-- data is readable -/
theorem toR {w : DE} (h : PE X e (tD X.K W w)) : PE X e (tR X.K W w) := peImp h fun σ H Q ⟨F, S, Γ, Qd, Ed, en, hw, k, ke⟩ => ⟨F, S, Γ, Qd, Ed, en, hw, fun d Γ' v H' q m en' hv => k d Γ' v H' q m en' (.of hv), ke⟩

/-! ### names, constants -/
def wVar (i : Nat) : DE := fun Γ Q _ => ∃ d, Γ[i]? = some (Sl.dat d) ∧ Q d Γ
def rdS : Sl → Option PyData
  | .dat d => some d
  | .own0 d => some d
  | _ => none
def wPk (i : Nat) : DE := fun Γ Q _ => ∃ d, (Γ[i]?.bind rdS) = some d ∧ Q d Γ
def wC (d : PyData) : DE := fun Γ Q _ => Q d Γ
theorem de_var (i : Nat) {x : Str} {pos : Pos} (h : PE X (.Name x pos) (tVar i)) : PE X (.Name x pos) (tD X.K W (wVar i)) := peImp h fun σ H Q ⟨F, S, Γ, Qd, Ed, en, ⟨d, hd, q⟩, k, ke⟩ => by
  obtain ⟨o, h1, v, rfl, hv⟩ := en.slot i _ hd
  exact ⟨v, h1, k d Γ v H q .refl en hv⟩
theorem de_pk (i : Nat) {x : Str} {pos : Pos} (h : PE X (.Name x pos) (tVar i)) : PE X (.Name x pos) (tR X.K W (wPk i)) := peImp h fun σ H Q ⟨F, S, Γ, Qd, Ed, en, ⟨d, hd, q⟩, k, ke⟩ => by
  cases hi : Γ[i]? with
  | none => rw [hi] at hd; cases hd
  | some s =>
    rw [hi] at hd
    obtain ⟨o, h1, h2⟩ := en.slot i _ hi
    cases s with
    | no => cases hd
    | dat d' =>
      cases hd
      obtain ⟨v, rfl, hv⟩ := h2
      exact ⟨v, h1, k _ Γ v H q .refl en (.of hv)⟩
    | own0 ds =>
      cases hd
      obtain ⟨a, vs, rfl, h3⟩ := h2
      exact ⟨_, h1, k _ Γ _ H q .refl en (.inr ⟨i, hi, h1⟩)⟩
    | twn n => cases hd
    | scr => cases hd
theorem de_c {v : V} {d : PyData} (h : PE X e (tC v)) (hv : ∀ H, Da X.K H v d) : PE X e (tD X.K W (wC d)) := peImp h fun σ H Q ⟨F, S, Γ, Qd, Ed, en, q, k, ke⟩ => k d Γ v H q .refl en (hv _)
theorem de_int {i : Int} {j : Nat} {pos : Pos} : PE X (.Constant (.int i) j pos) (tD X.K W (wC (.int i))) := de_c pe_int fun _ => .int i
theorem de_bl {i : Bool} {j : Nat} {pos : Pos} : PE X (.Constant (.bool i) j pos) (tD X.K W (wC (.bool i))) := de_c pe_bl fun _ => .bl i
theorem de_non {j : Nat} {pos : Pos} : PE X (.Constant .none j pos) (tD X.K W (wC .none)) := de_c pe_non fun _ => .non
theorem de_str {i : Str} {j : Nat} {pos : Pos} : PE X (.Constant (.str i) j pos) (tD X.K W (wC (.str i))) := de_c pe_str fun _ => .str i

/-! ### two operands -/
def OkR (K : PySem.W.Frag) (r : R2) (op : PyData → PyData → PyData → Prop) : Prop := ∀ (S : Hd) (H : Hp) (x y : V) (dx dy d : PyData) (Q : VK), Hid S H → op dx dy d → Dr K S H x dx → Dr K S H y dy → (∀ v H', Same H H' → Da K (off S H') v d → Q v H') → r x y H Q
def wBin (op : PyData → PyData → PyData → Prop) (wa wb : DE) : DE := fun Γ Q E => wa Γ (fun x Γ1 => wb Γ1 (fun y Γ2 => ∃ d, op x y d ∧ Q d Γ2) E) E
theorem op_rd {K : PySem.W.Frag} {r : R2} {op : PyData → PyData → PyData → Prop} (hr : OkR K r op) {wa wb : DE} {σ : St} {H : Hp} {Q : VK} (h : tD K W (wBin op wa wb) σ H Q) : tOp r (tR K W wa) (tR K W wb) σ H Q := by
  obtain ⟨F, S, Γ, Qd, Ed, e, hw, k, ke⟩ := h
  exact ⟨F, S, Γ, _, Ed, e, hw, fun x Γ1 v1 H1 hb m1 e1 r1 => ⟨F, S, Γ1, _, Ed, e1, hb, fun y Γ2 v2 H2 ⟨d, ho, q⟩ m2 e2 r2 =>
    hr S H2 v1 v2 x y d Q e2.hid ho ((r1.mv m2).dr e2) (r2.dr e2) (fun v H' s hv => k d Γ2 v H' q ((m1.trans m2).trans (.of s)) (e2.same s) hv), ke⟩, ke⟩
theorem de_bin {o : Operator} {pos : Pos} {r : R2} {op : PyData → PyData → PyData → Prop} {wa wb : DE} (ho : OpR X (binaryOp o) r) (hr : OkR X.K r op) (ha : PE X a (tR X.K W wa)) (hb : PE X b (tR X.K W wb)) : PE X (.BinOp a o b pos) (tD X.K W (wBin op wa wb)) :=
  peImp (pe_op ho ha hb) fun _ _ _ h => op_rd hr h
theorem de_cmp {o : CmpOp} {pos : Pos} {r : R2} {op : PyData → PyData → PyData → Prop} {wa wb : DE} (ho : OpR X (compareOp o) r) (hr : OkR X.K r op) (ha : PE X a (tR X.K W wa)) (hb : PE X b (tR X.K W wb)) (hm : behindInMarks o b = false) : PE X (.Compare a [o] [b] pos) (tD X.K W (wBin op wa wb)) :=
  peImp (pe_cmpR ho ha hb hm) fun _ _ _ h => op_rd hr h
theorem de_ix {pos : Pos} {r : R2} {op : PyData → PyData → PyData → Prop} {wa wb : DE} (ho : IxR X r) (hr : OkR X.K r op) (ha : PE X a (tR X.K W wa)) (hb : PE X b (tR X.K W wb)) (hs : PlainIx b) : PE X (.Subscript a b pos) (tD X.K W (wBin op wa wb)) :=
  peImp (pe_ix ho ha hb hs) fun _ _ _ h => op_rd hr h
/-! ### one operand -/
def OkU (K : PySem.W.Frag) (r : V → Hp → VK → Prop) (op : PyData → PyData → Prop) : Prop := ∀ (S : Hd) (H : Hp) (x : V) (dx d : PyData) (Q : VK), Hid S H → op dx d → Dr K S H x dx → (∀ v H', Same H H' → Da K (off S H') v d → Q v H') → r x H Q
def wUn (op : PyData → PyData → Prop) (wa : DE) : DE := fun Γ Q E => wa Γ (fun x Γ1 => ∃ d, op x d ∧ Q d Γ1) E
theorem de_un {o : UnaryOp} {pos : Pos} {r : V → Hp → VK → Prop} {op : PyData → PyData → Prop} {wa : DE} (ho : UnR X (unaryOp o) r) (hr : OkU X.K r op) (ha : PE X a (tR X.K W wa)) : PE X (.UnaryOp o a pos) (tD X.K W (wUn op wa)) :=
  peImp (pe_un ho ha) fun σ H Q ⟨F, S, Γ, Qd, Ed, e, hw, k, ke⟩ => ⟨F, S, Γ, _, Ed, e, hw, fun x Γ1 v1 H1 ⟨d, ho, q⟩ m1 e1 r1 => hr S H1 v1 x d Q e1.hid ho (r1.dr e1) (fun v H' s hv => k d Γ1 v H' q (m1.trans (.of s)) (e1.same s) hv), ke⟩
/-! ### truth -/
def TruD : PyData → Bool → Prop
  | .none, b => b = false
  | .bool c, b => b = c
  | .int i, b => b = (i != 0)
  | .str x, b => x.length ≤ sizeLine ∧ b = ((x.length : Int) != 0)
  | .list ds, b => b = !ds.isEmpty
  | .tuple ds, b => b = !ds.isEmpty
  | .dict ((.none, _) :: _), _ => False
  | .dict ps, b => b = !ps.isEmpty
theorem DaL.empty {K : PySem.W.Frag} {H : Hp} {vs : List V} {ds : List PyData} (h : DaL K H vs ds) : vs.isEmpty = ds.isEmpty := by
  cases h <;> rfl
theorem DaD.empty {K : PySem.W.Frag} {H : Hp} {vs : List (Key × V)} {ds : List (PyData × PyData)} (h : DaD K H vs ds) : vs.isEmpty = ds.isEmpty := by
  cases h <;> rfl
theorem tru_of {K : PySem.W.Frag} {S : Hd} {H : Hp} {v : V} {d : PyData} {b : Bool} (h : Dr K S H v d) (t : TruD d b) : TruV K v H b := by
  cases d with
  | none => rw [h.none]; exact t
  | bool c => rw [h.bool]; exact t
  | int i => rw [h.int]; exact t
  | str x => rw [h.str]; exact t
  | list ds =>
    obtain ⟨a, vs, rfl, h1, h2⟩ := h.list
    exact .inl ⟨vs, .of h1, by rw [h2.empty]; exact t⟩
  | tuple ds =>
    obtain ⟨a, vs, rfl, h1, h2⟩ := h.tuple
    exact .inr (.inl ⟨vs, h1, by rw [h2.empty]; exact t⟩)
  | dict ps =>
    have key : ∀ {a : Addr} {kvs : List (Key × V)}, H a = some (.dK kvs) → DaD K (off S H) kvs ps → TruV K (.ref a) H b := fun h1 h2 => by
      have e : b = !ps.isEmpty := by
        cases h2 with
        | nil => exact t
        | @cons k _ _ _ _ _ _ => cases k <;> exact t
      exact .inr (.inr ⟨_, h1, by rw [h2.empty]; exact e⟩)
    rcases h with h | ⟨a, u, rfl, h1, kvs, rfl, h2⟩
    · cases h with
      | dic h1 h2 => exact key (off_get h1).2 h2
      | exc _ _ => exact t.elim
    · exact key h1 h2
def wTru (w : DE) : DB := fun Γ Q E => w Γ (fun d Γ1 => ∃ b, TruD d b ∧ Q b Γ1) E
theorem dt_tru {wa : DE} (ha : PE X a (tR X.K W wa)) (he : ∀ whole, isTrue a X.env whole = (do let v ← whole; standAt a.pos; holding [v] (truthy v))) : PT X a (tB X.K W (wTru wa)) :=
  ptImp (pt_truth ha he) fun σ H Q ⟨F, S, Γ, Qd, Ed, e, hw, k, ke⟩ => ⟨F, S, Γ, _, Ed, e, hw, fun x Γ1 v1 H1 ⟨b, ht, q⟩ m1 e1 r1 => ⟨b, tru_of (r1.dr e1) ht, k b Γ1 H1 q m1 e1⟩, ke⟩
def wTst (w : DE) : DB := fun Γ Q E => w Γ (fun d Γ1 => ∃ b, d = .bool b ∧ Q b Γ1) E
theorem tst_rd {K : PySem.W.Frag} {w : DE} {t : TE} (i : ∀ σ H Q, tD K W w σ H Q → t σ H Q) {σ : St} {H : Hp} {Q : Bool → Hp → Prop} (h : tB K W (wTst w) σ H Q) : tTest t σ H Q := by
  obtain ⟨F, S, Γ, Qd, Ed, e, hw, k, ke⟩ := h
  refine i σ H _ ⟨F, S, Γ, _, Ed, e, hw, fun d Γ1 v H1 ⟨b, ed, q⟩ m1 e1 hv => ?_, ke⟩
  subst ed
  cases hv
  exact ⟨b, rfl, k b Γ1 H1 q m1 e1⟩
theorem dt_cmp {o : CmpOp} {pos : Pos} {r : R2} {op : PyData → PyData → PyData → Prop} {wa wb : DE} (ho : OpR X (compareOp o) r) (hr : OkR X.K r op) (ha : PE X a (tR X.K W wa)) (hb : PE X b (tR X.K W wb)) (hm : behindInMarks o b = false) : PT X (.Compare a [o] [b] pos) (tB X.K W (wTst (wBin op wa wb))) :=
  ptImp (pt_cmpR ho ha hb hm) fun _ _ _ h => tst_rd (fun _ _ _ => op_rd hr) h
/-! ### a < b < c -/
def wChain (op op' : PyData → PyData → PyData → Prop) (wa wb wc : DE) : DE := fun Γ Q E => wa Γ (fun x Γ1 => wb Γ1 (fun y Γ2 => ∃ b, op x y (.bool b) ∧ if b = true then wc Γ2 (fun z Γ3 => ∃ d, op' y z d ∧ Q d Γ3) E else Q (.bool false) Γ2) E) E
theorem chain_rd {K : PySem.W.Frag} {r r' : R2} {op op' : PyData → PyData → PyData → Prop} (hr : OkR K r op) (hr' : OkR K r' op') {wa wb wc : DE} {σ : St} {H : Hp} {Q : VK} (h : tD K W (wChain op op' wa wb wc) σ H Q) : tChain r r' (tR K W wa) (tR K W wb) (tR K W wc) σ H Q := by
  obtain ⟨F, S, Γ, Qd, Ed, e, hw, k, ke⟩ := h
  refine ⟨F, S, Γ, _, Ed, e, hw, fun x Γ1 v1 H1 hb m1 e1 r1 => ⟨F, S, Γ1, _, Ed, e1, hb, fun y Γ2 v2 H2 ⟨b, ho, q⟩ m2 e2 r2 => ?_, ke⟩, ke⟩
  refine hr S H2 v1 v2 x y _ _ e2.hid ho ((r1.mv m2).dr e2) (r2.dr e2) fun v H3 s hv => ?_
  cases hv
  refine ⟨b, rfl, ?_⟩
  cases b with
  | false =>
    exact k _ Γ2 _ H3 q ((m1.trans m2).trans (.of s)) (e2.same s) (.bl false)
  | true =>
    refine ⟨F, S, Γ2, _, Ed, e2.same s, q, fun z Γ3 v3 H4 ⟨d, ho', q'⟩ m3 e3 r3 => ?_, ke⟩
    exact hr' S H4 v2 v3 y z d Q e3.hid ho' ((r2.mv ((Mv.of s).trans m3)).dr e3) (r3.dr e3) fun v' H5 s' hv' => k d Γ3 v' H5 q' (((m1.trans m2).trans (.of s)).trans (m3.trans (.of s'))) (e3.same s') hv'
theorem de_chain {o o' : CmpOp} {pos : Pos} {r r' : R2} {op op' : PyData → PyData → PyData → Prop} {wa wb wc : DE} (ho : OpR X (compareOp o) r) (ho' : OpR X (compareOp o') r') (hr : OkR X.K r op) (hr' : OkR X.K r' op') (ha : PE X a (tR X.K W wa)) (hb : PE X b (tR X.K W wb)) (hc : PE X c (tR X.K W wc))
    (hm : lastMarks [o, o'] [b, c] = false := by with_unfolding_all rfl) : PE X (.Compare a [o, o'] [b, c] pos) (tD X.K W (wChain op op' wa wb wc)) := peImp (pe_chain ho ho' ha hb hc hm) fun _ _ _ h => chain_rd hr hr' h
theorem dt_chain {o o' : CmpOp} {pos : Pos} {r r' : R2} {op op' : PyData → PyData → PyData → Prop} {wa wb wc : DE} (ho : OpR X (compareOp o) r) (ho' : OpR X (compareOp o') r') (hr : OkR X.K r op) (hr' : OkR X.K r' op') (ha : PE X a (tR X.K W wa)) (hb : PE X b (tR X.K W wb)) (hc : PE X c (tR X.K W wc))
    (hm : lastMarks [o, o'] [b, c] = false := by with_unfolding_all rfl) : PT X (.Compare a [o, o'] [b, c] pos) (tB X.K W (wTst (wChain op op' wa wb wc))) := ptImp (pt_chain ho ho' ha hb hc hm) fun _ _ _ h => tst_rd (fun _ _ _ => chain_rd hr hr') h
/-! ### and, or, not, if -/
def wtAnd (t u : DB) : DB := fun Γ Q E => t Γ (fun b Γ1 => if b = true then u Γ1 Q E else Q false Γ1) E
def wtOr (t u : DB) : DB := fun Γ Q E => t Γ (fun b Γ1 => if b = true then Q true Γ1 else u Γ1 Q E) E
def wtNot (t : DB) : DB := fun Γ Q E => t Γ (fun b Γ1 => Q (!b) Γ1) E
variable {rest : List Expr} {pos : Pos}
theorem dt_and1 {t : DB} (h : PT X a (tB X.K W t)) : PW X (.BoolOp .And [a] pos) (tB X.K W t) := pw_and1 h
theorem dt_or1 {t : DB} (h : PT X a (tB X.K W t)) : PW X (.BoolOp .Or [a] pos) (tB X.K W t) := pw_or1 h
theorem dt_and {t u : DB} (h : PT X a (tB X.K W t)) (hb : PW X (.BoolOp .And (b :: rest) pos) (tB X.K W u)) : PW X (.BoolOp .And (a :: b :: rest) pos) (tB X.K W (wtAnd t u)) :=
  pwImp (pw_and h hb) fun σ H Q ⟨F, S, Γ, Qd, Ed, e, hw, k, ke⟩ => ⟨F, S, Γ, _, Ed, e, hw, fun b Γ1 H1 q m1 e1 => by
    cases b with
    | true => exact ⟨F, S, Γ1, _, Ed, e1, q, fun c Γ2 H2 q2 m2 e2 => k c Γ2 H2 q2 (m1.trans m2) e2, ke⟩
    | false => exact k false Γ1 H1 q m1 e1, ke⟩
theorem dt_or {t u : DB} (h : PT X a (tB X.K W t)) (hb : PW X (.BoolOp .Or (b :: rest) pos) (tB X.K W u)) : PW X (.BoolOp .Or (a :: b :: rest) pos) (tB X.K W (wtOr t u)) :=
  pwImp (pw_or h hb) fun σ H Q ⟨F, S, Γ, Qd, Ed, e, hw, k, ke⟩ => ⟨F, S, Γ, _, Ed, e, hw, fun b Γ1 H1 q m1 e1 => by
    cases b with
    | false => exact ⟨F, S, Γ1, _, Ed, e1, q, fun c Γ2 H2 q2 m2 e2 => k c Γ2 H2 q2 (m1.trans m2) e2, ke⟩
    | true => exact k true Γ1 H1 q m1 e1, ke⟩
theorem dt_not {t : DB} (h : PT X a (tB X.K W t)) : PT X (.UnaryOp .Not a pos) (tB X.K W (wtNot t)) :=
  ptImp (pt_not h) fun σ H Q ⟨F, S, Γ, Qd, Ed, e, hw, k, ke⟩ => ⟨F, S, Γ, _, Ed, e, hw, fun b Γ1 H1 q m1 e1 => k (!b) Γ1 H1 q m1 e1, ke⟩
def wAnd (wa wb : DE) : DE := fun Γ Q E => wa Γ (fun x Γ1 => ∃ b, TruD x b ∧ if b = true then wb Γ1 Q E else Q x Γ1) E
def wOr (wa wb : DE) : DE := fun Γ Q E => wa Γ (fun x Γ1 => ∃ b, TruD x b ∧ if b = true then Q x Γ1 else wb Γ1 Q E) E
def wNot (wa : DE) : DE := fun Γ Q E => wa Γ (fun x Γ1 => ∃ b, TruD x b ∧ Q (.bool !b) Γ1) E
theorem de_one {o : BoolOp} {w : DE} (h : PE X a (tD X.K W w)) : PE X (.BoolOp o [a] pos) (tD X.K W w) := pe_one h
theorem de_and {wa wb : DE} (h : PE X a (tD X.K W wa)) (hb : PE X (.BoolOp .And (b :: rest) pos) (tD X.K W wb)) : PE X (.BoolOp .And (a :: b :: rest) pos) (tD X.K W (wAnd wa wb)) :=
  peImp (pe_andT h hb) fun σ H Q ⟨F, S, Γ, Qd, Ed, e, hw, k, ke⟩ => ⟨F, S, Γ, _, Ed, e, hw, fun x Γ1 v1 H1 ⟨b, ht, q⟩ m1 e1 r1 => ⟨b, tru_of (.inl r1) ht, by
    cases b with
    | true => exact ⟨F, S, Γ1, _, Ed, e1, q, fun d Γ2 v H2 q2 m2 e2 hv => k d Γ2 v H2 q2 (m1.trans m2) e2 hv, ke⟩
    | false => exact k x Γ1 v1 H1 q m1 e1 r1⟩, ke⟩
theorem de_or {wa wb : DE} (h : PE X a (tD X.K W wa)) (hb : PE X (.BoolOp .Or (b :: rest) pos) (tD X.K W wb)) : PE X (.BoolOp .Or (a :: b :: rest) pos) (tD X.K W (wOr wa wb)) :=
  peImp (pe_orT h hb) fun σ H Q ⟨F, S, Γ, Qd, Ed, e, hw, k, ke⟩ => ⟨F, S, Γ, _, Ed, e, hw, fun x Γ1 v1 H1 ⟨b, ht, q⟩ m1 e1 r1 => ⟨b, tru_of (.inl r1) ht, by
    cases b with
    | false => exact ⟨F, S, Γ1, _, Ed, e1, q, fun d Γ2 v H2 q2 m2 e2 hv => k d Γ2 v H2 q2 (m1.trans m2) e2 hv, ke⟩
    | true => exact k x Γ1 v1 H1 q m1 e1 r1⟩, ke⟩
theorem de_not {wa : DE} (h : PE X a (tR X.K W wa)) : PE X (.UnaryOp .Not a pos) (tD X.K W (wNot wa)) :=
  peImp (pe_notT h) fun σ H Q ⟨F, S, Γ, Qd, Ed, e, hw, k, ke⟩ => ⟨F, S, Γ, _, Ed, e, hw, fun x Γ1 v1 H1 ⟨b, ht, q⟩ m1 e1 r1 => ⟨b, tru_of (r1.dr e1) ht, k (.bool !b) Γ1 _ H1 q m1 e1 (.bl _)⟩, ke⟩
def wIf (t : DB) (wa wb : DE) : DE := fun Γ Q E => t Γ (fun c Γ1 => if c = true then wa Γ1 Q E else wb Γ1 Q E) E
theorem de_if {t : DB} {wa wb : DE} (hc : PT X c (tB X.K W t)) (ha : PE X a (tD X.K W wa)) (hb : PE X b (tD X.K W wb)) : PE X (.IfExp c a b pos) (tD X.K W (wIf t wa wb)) :=
  peImp (pe_ifExp hc ha hb) fun σ H Q ⟨F, S, Γ, Qd, Ed, e, hw, k, ke⟩ => ⟨F, S, Γ, _, Ed, e, hw, fun c Γ1 H1 q m1 e1 => by
    cases c with
    | true => exact ⟨F, S, Γ1, _, Ed, e1, q, fun d Γ2 v H2 q2 m2 e2 hv => k d Γ2 v H2 q2 (m1.trans m2) e2 hv, ke⟩
    | false => exact ⟨F, S, Γ1, _, Ed, e1, q, fun d Γ2 v H2 q2 m2 e2 hv => k d Γ2 v H2 q2 (m1.trans m2) e2 hv, ke⟩, ke⟩
/-! ### arguments, displays -/
def wNil : DL := fun Γ Q _ => Q [] Γ
def wCons (w : DE) (ws : DL) : DL := fun Γ Q E => w Γ (fun d Γ1 => ws Γ1 (fun ds Γ2 => Q (d :: ds) Γ2) E) E
theorem da_nil : PA X [] (tL X.K W wNil) := paImp pa_nil fun σ H Q ⟨F, S, Γ, Qd, Ed, e, hw, k, ke⟩ => k [] Γ [] H hw .refl e .nil
theorem da_cons {w : DE} {ws : DL} (h : PE X e (tD X.K W w)) (hr : PA X es (tL X.K W ws)) (hs : starEach (e :: es) X.env = (false, eval e X.env) :: starEach es X.env := by rfl) : PA X (e :: es) (tL X.K W (wCons w ws)) :=
  paImp (pa_cons h hr hs) fun σ H Q ⟨F, S, Γ, Qd, Ed, e, hw, k, ke⟩ => ⟨F, S, Γ, _, Ed, e, hw, fun d Γ1 v1 H1 q m1 e1 r1 => ⟨F, S, Γ1, _, Ed, e1, q, fun ds Γ2 vs H2 q2 m2 e2 hv => k (d :: ds) Γ2 _ H2 q2 (m1.trans m2) e2 (.cons (r1.mono m2.le.off) hv), ke⟩, ke⟩
theorem dr_nil : PA X [] (tLR X.K W wNil) := paImp pa_nil fun σ H Q ⟨F, S, Γ, Qd, Ed, e, hw, k, ke⟩ => k [] Γ [] H hw .refl e .nil
theorem dr_cons {w : DE} {ws : DL} (h : PE X e (tR X.K W w)) (hr : PA X es (tLR X.K W ws)) (hs : starEach (e :: es) X.env = (false, eval e X.env) :: starEach es X.env := by rfl) : PA X (e :: es) (tLR X.K W (wCons w ws)) :=
  paImp (pa_cons h hr hs) fun σ H Q ⟨F, S, Γ, Qd, Ed, e, hw, k, ke⟩ => ⟨F, S, Γ, _, Ed, e, hw, fun d Γ1 v1 H1 q m1 e1 r1 => ⟨F, S, Γ1, _, Ed, e1, q, fun ds Γ2 vs H2 q2 m2 e2 hv => k (d :: ds) Γ2 _ H2 q2 (m1.trans m2) e2 (.cons (r1.mv m2) hv), ke⟩, ke⟩
def wTup (ws : DL) : DE := fun Γ Q E => ws Γ (fun ds Γ1 => ds.length ≤ sizeLine ∧ Q (.tuple ds) Γ1) E
def wLst (ws : DL) : DE := fun Γ Q E => ws Γ (fun ds Γ1 => ds.length ≤ sizeLine ∧ Q (.list ds) Γ1) E
theorem de_tup {ws : DL} {x1 : Nat} (h : PA X es (tL X.K W ws)) : PE X (.Tuple es x1 pos) (tD X.K W (wTup ws)) :=
  peImp (pe_tup h) fun σ H Q ⟨F, S, Γ, Qd, Ed, e, hw, k, ke⟩ => ⟨F, S, Γ, _, Ed, e, hw, fun ds Γ1 vs H1 ⟨hz, q⟩ m1 e1 hv => ⟨by rw [hv.length]; exact hz, fun p hp => k _ Γ1 _ _ q (m1.trans (.of (same_new hp))) (e1.same (same_new hp)) (.newT e1.hid hp hv)⟩, ke⟩
theorem de_lst {ws : DL} (h : PA X es (tL X.K W ws)) : PE X (.List es pos) (tD X.K W (wLst ws)) :=
  peImp (pe_lst h) fun σ H Q ⟨F, S, Γ, Qd, Ed, e, hw, k, ke⟩ => ⟨F, S, Γ, _, Ed, e, hw, fun ds Γ1 vs H1 ⟨hz, q⟩ m1 e1 hv => ⟨by rw [hv.length]; exact hz, fun p hp => k _ Γ1 _ _ q (m1.trans (.of (same_new hp))) (e1.same (same_new hp)) (.newL e1.hid hp hv)⟩, ke⟩
/-! ### built-ins called by name -/
def OkC (K : PySem.W.Frag) (r : List V → Hp → VK → Prop) (op : List PyData → PyData → Prop) : Prop := ∀ (S : Hd) (H : Hp) (xs : List V) (dx : List PyData) (d : PyData) (Q : VK), Hid S H → op dx d → DrL K S H xs dx → (∀ v H', Same H H' → Da K (off S H') v d → Q v H') → r xs H Q
def wCall (op : List PyData → PyData → Prop) (ws : DL) : DE := fun Γ Q E => ws Γ (fun ds Γ1 => ∃ d, op ds d ∧ Q d Γ1) E
theorem cb_rd {K : PySem.W.Frag} {r : List V → Hp → VK → Prop} {op : List PyData → PyData → Prop} (hr : OkC K r op) {ws : DL} {σ : St} {H : Hp} {Q : VK} (h : tD K W (wCall op ws) σ H Q) : tCB r (tLR K W ws) σ H Q := by
  obtain ⟨F, S, Γ, Qd, Ed, e, hw, k, ke⟩ := h
  exact ⟨F, S, Γ, _, Ed, e, hw, fun ds Γ1 vs H1 ⟨d, ho, q⟩ m1 e1 hv => hr S H1 vs ds d Q e1.hid ho (hv.dr e1) fun v H' s h' => k d Γ1 v H' q (m1.trans (.of s)) (e1.same s) h', ke⟩
theorem de_cb {id : String} {x : Str} {p : Pos} {r : List V → Hp → VK → Prop} {op : List PyData → PyData → Prop} {ws : DL} (hc : CallR X (.builtin id) r) (hr : OkC X.K r op) (hg : Gl X x) (hm : X.mg x = none) (hv : bootBuiltins x = some (.builtin id)) (ha : PA X (e :: es) (tLR X.K W ws))
    (hn : x ≠ "__name__" := by decide) (hdb : (x == ("__debug__" : Str)) = false := by decide) (he : starEach (e :: es) X.env = (false, eval e X.env) :: starEach es X.env := by rfl) (hpl : (backTo pos (starEach es X.env)).any (·.1) = false := by rfl) :
    PE X (.Call (.Name x p) (e :: es) [] pos) (tD X.K W (wCall op ws)) := peImp (pe_callB hc hg hm hv ha hn hdb he hpl) fun _ _ _ h => cb_rd hr h
theorem de_ct {id : String} {x : Str} {p : Pos} {r : List V → Hp → VK → Prop} {op : List PyData → PyData → Prop} {ws : DL} (hc : CallR X (.type id) r) (hr : OkC X.K r op) (hg : Gl X x) (hm : X.mg x = none) (hv : bootBuiltins x = some (.type id)) (ha : PA X (e :: es) (tLR X.K W ws))
    (hn : x ≠ "__name__" := by decide) (hdb : (x == ("__debug__" : Str)) = false := by decide) (he : starEach (e :: es) X.env = (false, eval e X.env) :: starEach es X.env := by rfl) (hpl : (backTo pos (starEach es X.env)).any (·.1) = false := by rfl) :
    PE X (.Call (.Name x p) (e :: es) [] pos) (tD X.K W (wCall op ws)) := peImp (pe_callTy hc hg hm hv ha hn hdb he hpl) fun _ _ _ h => cb_rd hr h
end
end Dt

/-! Dat2: calls of defs, what is walked, comprehensions. -/
namespace Dt
open PySem L2

section
variable {K : PySem.W.Frag} {F : Fm} {S S' : Hd} {Γ Γ' : Gm} {σ : St} {H H' : Hp} {v : V} {d : PyData} {i : Nat}
theorem getset {α : Type} (l : List α) (i j : Nat) (x : α) : (l.set i x)[j]? = if i = j then (if i < l.length then some x else none) else l[j]? := by
  rw [List.getElem?_set]
theorem set_at {α : Type} {l : List α} {i j : Nat} {x y : α} (h : (l.set i x)[j]? = some y) : (i = j ∧ i < l.length ∧ y = x) ∨ (i ≠ j ∧ l[j]? = some y) := by
  rw [getset] at h
  by_cases e : i = j
  · rw [if_pos e] at h
    by_cases q : i < l.length
    · rw [if_pos q] at h
      exact .inl ⟨e, q, (Option.some.inj h).symm⟩
    · rw [if_neg q] at h; cases h
  · rw [if_neg e] at h
    exact .inr ⟨e, h⟩
/-- what a slot's description leans on -/
theorem SlOk.stay (e : Same (off S H) (off S' H')) (hs : ∀ b, S b → S' b) (hm : ∀ a, S a → F.H0 a = none ∨ F.T a → H' a = H a) : ∀ {s : Sl} {o : Option V}, SlOk K F S H s o → SlOk K F S' H' s o
  | .no, _, h => h
  | .dat d, _, ⟨v, h1, h2⟩ => ⟨v, h1, h2.mono e⟩
  | .own0 ds, _, ⟨a, vs, h1, h2, h3, ht, h4, h5⟩ => ⟨a, vs, h1, hs a h2, h3, ht, by rw [hm a h2 (.inl h3)]; exact h4, h5.mono e⟩
  | .twn n, _, ⟨a, vs, h1, h2, h3, h4, h5⟩ => ⟨a, vs, h1, hs a h2, h3, by rw [hm a h2 (h3.elim .inr fun z => .inl z.1)]; exact h4, h5⟩
  | .scr, _, ⟨v, h1, h2⟩ => ⟨v, h1, h2.mono e⟩
/-- a slot that is set to what is no list of its own -/
theorem En.setP (h : En K F S Γ σ H) (i : Nat) (s : Sl) (o : Option V) (hm : s.mut = false) (hs : SlOk K F S H s o) : En K F S (Γ.set i s) (σ.set i o) H := by
  refine ⟨h.sub, h.tin, h.fr, h.hid, h.base, by rw [List.length_set, List.length_set]; exact h.len, fun j t q => ?_, fun j k s1 s2 a hjk q1 q2 m1 m2 r1 => ?_⟩
  · rcases set_at q with ⟨rfl, hi, rfl⟩ | ⟨hne, q⟩
    · exact ⟨o, by rw [getset, if_pos rfl, if_pos (by rw [← h.len]; exact hi)], hs⟩
    · obtain ⟨o', a, b⟩ := h.slot j t q
      exact ⟨o', by rw [getset, if_neg hne]; exact a, b⟩
  · rcases set_at q1 with ⟨rfl, hi, rfl⟩ | ⟨hne, q1⟩
    · rw [hm] at m1; cases m1
    · rcases set_at q2 with ⟨rfl, hi, rfl⟩ | ⟨hne2, q2⟩
      · rw [hm] at m2; cases m2
      · rw [getset, if_neg hne] at r1
        rw [getset, if_neg hne2]
        exact h.inj j k s1 s2 a hjk q1 q2 m1 m2 r1
theorem En.set (h : En K F S Γ σ H) (i : Nat) (hv : Da K (off S H) v d) : En K F S (Γ.set i (.dat d)) (σ.set i (some v)) H := h.setP i _ _ rfl ⟨v, rfl, hv⟩
theorem En.drop (h : En K F S Γ σ H) (i : Nat) : En K F S (Γ.set i .no) (σ.set i none) H := h.setP i _ _ rfl trivial
/-- a slot is forgotten -/
theorem En.forget (h : En K F S Γ σ H) (i : Nat) : En K F S (Γ.set i .no) σ H := by
  refine ⟨h.sub, h.tin, h.fr, h.hid, h.base, by rw [List.length_set]; exact h.len, fun j t q => ?_, fun j k s1 s2 a hjk q1 q2 m1 m2 r1 => ?_⟩
  · rcases set_at q with ⟨rfl, hi, rfl⟩ | ⟨hne, q⟩
    · exact ⟨σ[i]'(by rw [← h.len]; exact hi), List.getElem?_eq_getElem _, trivial⟩
    · exact h.slot j t q
  · rcases set_at q1 with ⟨rfl, hi, rfl⟩ | ⟨hne, q1⟩
    · cases m1
    · rcases set_at q2 with ⟨rfl, hi, rfl⟩ | ⟨hne2, q2⟩
      · cases m2
      · exact h.inj j k s1 s2 a hjk q1 q2 m1 m2 r1
/-- more is hidden: a new place -/
theorem En.hide {p : Addr} {o : HO} (h : En K F S Γ σ H) (n : H p = none) : En K F (fun b => S b ∨ b = p) Γ σ (upd H p o) := by
  have e : Same (off S H) (off (fun b => S b ∨ b = p) (upd H p o)) := fun b u q => by
    obtain ⟨n1, q⟩ := off_get q
    have nb : b ≠ p := ne_of_none q n
    rw [off_in (fun z => z.elim n1 nb), upd_ne nb]
    exact q
  refine ⟨fun b z => ⟨.inl (h.sub b z).1, (h.sub b z).2⟩, fun b z => .inl (h.tin b z), fun b z => z.elim (h.fr b) (fun q => by rw [q]; exact .inr (.inr (h.fresh0 n))), fun b z q => ?_, fun b u nt q => ?_, h.len, fun j t q => ?_, h.inj⟩
  · rcases z with z | z
    · by_cases e : b = p
      · rw [e, upd_same] at q; cases q
      · rw [upd_ne e] at q; exact h.hid b z q
    · rw [z, upd_same] at q; cases q
  · have q2 := h.base b u nt q
    rw [upd_ne (ne_of_none q2 n)]
    exact q2
  · obtain ⟨o', a, b⟩ := h.slot j t q
    refine ⟨o', a, b.stay e (fun _ z => .inl z) fun a z _ => ?_⟩
    rw [upd_ne]
    exact fun q => h.hid.free n (q ▸ z)
/-- what is hidden but no slot's may change -/
theorem En.free {p : Addr} {o : HO} (h : En K F S Γ σ H) (hp : S p) (h0 : F.H0 p = none) (hn : ∀ (j : Nat) (s : Sl), Γ[j]? = some s → s.mut = true → σ[j]? ≠ some (some (.ref p))) : En K F S Γ σ (upd H p o) := by
  have e : Same (off S H) (off S (upd H p o)) := fun b u q => by
    obtain ⟨n1, q⟩ := off_get q
    have nb : b ≠ p := fun z => n1 (z ▸ hp)
    rw [off_in n1, upd_ne nb]
    exact q
  refine ⟨h.sub, h.tin, h.fr, fun b z q => ?_, fun b u nt q => ?_, h.len, fun j t q => ?_, h.inj⟩
  · by_cases e : b = p
    · rw [e, upd_same] at q; cases q
    · rw [upd_ne e] at q; exact h.hid b z q
  · have q2 := h.base b u nt q
    rw [upd_ne (fun z => by rw [z, h0] at q; cases q)]
    exact q2
  · obtain ⟨o', a, b⟩ := h.slot j t q
    refine ⟨o', a, ?_⟩
    cases t with
    | no => trivial
    | dat d => exact ⟨b.choose, b.choose_spec.1, b.choose_spec.2.mono e⟩
    | own0 ds =>
      obtain ⟨x, vs, h1, h2, h3, ht, h4, h5⟩ := b
      refine ⟨x, vs, h1, h2, h3, ht, ?_, h5.mono e⟩
      rw [upd_ne]
      · exact h4
      · rintro rfl; exact hn j _ q rfl (by rw [a, h1])
    | twn n =>
      obtain ⟨x, vs, h1, h2, h3, h4, h5⟩ := b
      refine ⟨x, vs, h1, h2, h3, ?_, h5⟩
      rw [upd_ne]
      · exact h4
      · rintro rfl; exact hn j _ q rfl (by rw [a, h1])
    | scr => exact ⟨b.choose, b.choose_spec.1, b.choose_spec.2.mono e⟩
/-- the town grows -/
theorem En.town {t : Addr} {us : List V} {n n' : Nat} (h : En K F S Γ σ H) (hi : Γ[i]? = some (.twn n)) (ht : σ[i]? = some (some (.ref t))) (k : ∀ b o, b ≠ t → H b = some o → H' b = some o) (hu : H' t = some (.lst us)) (hl : us.length ≤ n') :
    En K F S (Γ.set i (.twn n')) σ H' := by
  obtain ⟨o0, q0, a0, vs0, e0, s0, h0, hh0, _⟩ := h.slot i _ hi
  rw [ht] at q0
  cases q0
  cases e0
  have e : Same (off S H) (off S H') := fun b u q => by
    obtain ⟨n1, q⟩ := off_get q
    rw [off_in n1]
    exact k b u (fun z => n1 (z ▸ s0)) q
  have hil : i < Γ.length := (List.getElem?_eq_some_iff.mp hi).1
  refine ⟨h.sub, h.tin, h.fr, fun b z q => ?_, fun b u nt q => ?_, by rw [List.length_set]; exact h.len, fun j s q => ?_, fun j k' s1 s2 a hjk q1 q2 m1 m2 r1 => ?_⟩
  · by_cases e : b = t
    · rw [e, hu] at q; cases q
    · cases r : H b with
      | none => exact h.hid b z r
      | some o => rw [k b o e r] at q; cases q
  · have q2 := h.base b u nt q
    refine k b u (fun z => ?_) q2
    subst z
    rcases h0 with h0 | h0
    · exact nt h0
    · rw [h0.1] at q; cases q
  · rcases set_at q with ⟨rfl, hi', rfl⟩ | ⟨hne, q⟩
    · exact ⟨_, ht, t, us, rfl, s0, h0, hu, hl⟩
    · obtain ⟨o', a, b⟩ := h.slot j s q
      refine ⟨o', a, ?_⟩
      cases s with
      | no => trivial
      | dat d => exact ⟨b.choose, b.choose_spec.1, b.choose_spec.2.mono e⟩
      | own0 ds =>
        obtain ⟨x, vs, h1, h2, h3, hT, h4, h5⟩ := b
        refine ⟨x, vs, h1, h2, h3, hT, k _ _ ?_ h4, h5.mono e⟩
        rintro rfl
        exact h.inj i j _ _ _ hne hi q rfl rfl ht (by rw [a, h1])
      | twn m =>
        obtain ⟨x, vs, h1, h2, h3, h4, h5⟩ := b
        refine ⟨x, vs, h1, h2, h3, k _ _ ?_ h4, h5⟩
        rintro rfl
        exact h.inj i j _ _ _ hne hi q rfl rfl ht (by rw [a, h1])
      | scr => exact ⟨b.choose, b.choose_spec.1, b.choose_spec.2.mono e⟩
  · have g : ∀ (m : Nat) (s : Sl), (Γ.set i (.twn n'))[m]? = some s → s.mut = true → ∃ s', Γ[m]? = some s' ∧ s'.mut = true := fun m s q ms => by
      rcases set_at q with ⟨rfl, _, rfl⟩ | ⟨_, q⟩
      · exact ⟨_, hi, rfl⟩
      · exact ⟨s, q, ms⟩
    obtain ⟨s1', q1', m1'⟩ := g j s1 q1 m1
    obtain ⟨s2', q2', m2'⟩ := g k' s2 q2 m2
    exact h.inj j k' s1' s2' a hjk q1' q2' m1' m2' r1
end

/-! ### a def over data -/
abbrev DSp := List PyData → (PyData → Prop) → (Str → Prop) → Prop
def spD (K : PySem.W.Frag) (sp : DSp) : Sp := fun vs H Q E => ∃ (S : Hd) (ds : List PyData) (Qd : PyData → Prop) (Ed : Str → Prop), Hid S H ∧ DaL K (off S H) vs ds ∧ sp ds Qd Ed ∧
  (∀ d v H', Qd d → Same H H' → Da K (off S H') v d → Q v H') ∧ (∀ c H', Ed c → Same H H' → E (.ref (He.ga K c)) none H')
def wFn (sp : DSp) (ws : DL) : DE := fun Γ Q E => ws Γ (fun ds Γ1 => sp ds (fun d => Q d Γ1) (fun c => E c Γ1)) E
/-- a def that draws -/
abbrev TSp := Nat → List PyData → (PyData → Nat → Prop) → Prop
def spT (K : PySem.W.Frag) (sp : TSp) : Sp := fun vs H Q E => ∃ (S : Hd) (t : Addr) (us : List V) (n : Nat) (v0 : V) (vs' : List V) (ds : List PyData) (Qd : PyData → Nat → Prop), Hid S H ∧ S t ∧ H t = some (.lst us) ∧ us.length ≤ n ∧
  vs = v0 :: .ref t :: vs' ∧ Scr K (off S H) v0 ∧ DaL K (off S H) vs' ds ∧ sp n ds Qd ∧
  ∀ d n' v H' us', Qd d n' → (∀ b o, b ≠ t → H b = some o → H' b = some o) → H' t = some (.lst us') → us'.length ≤ n' → Da K (off S H') v d → Q v H'
def wFnT (is it : Nat) (sp : TSp) (ws : DL) : DE := fun Γ Q E => Γ[is]? = some Sl.scr ∧ (∃ n0, Γ[it]? = some (Sl.twn n0)) ∧ ws Γ (fun ds Γ1 => ∃ n, Γ1[is]? = some Sl.scr ∧ Γ1[it]? = some (.twn n) ∧ sp n ds (fun d n' => Q d (Γ1.set it (.twn n')))) E
section
variable {X : Cx} {W : WX} {e a b c : Expr} {es : List Expr} {pos p : Pos} {CX : CXT} {k : Nat} {f : Addr} {fd : FuncData} {ps : List Str} {x : Str}
theorem de_fn {sp : DSp} {ws : DL} (Fk : FnOk X.prog X.w X.K X.mg X.base (L2.CX X.prog X.w) k f fd ps (spD X.K sp)) (hr : Room k X.A) (hg : Gl X x) (hm : X.mg x = some (.ref f)) (hk : PySem.W.keepIn X.K (.ref f) = true) (hb : Binds X.K fd ps []) (tk : Takes X W)
    (ha : PA X (e :: es) (tL X.K W ws)) (hdb : (x == ("__debug__" : Str)) = false := by decide) (he : starEach (e :: es) X.env = (false, eval e X.env) :: starEach es X.env := by rfl) (hpl : (backTo pos (starEach es X.env)).any (·.1) = false := by rfl) :
    PE X (.Call (.Name x p) (e :: es) [] pos) (tD X.K W (wFn sp ws)) :=
  peImp (pe_callS (E := WE W) Fk hr hg hm hk hb (fun σ => passAt tk σ) ha hdb he hpl) fun σ H Q ⟨F, S, Γ, Qd, Ed, en, hw, kq, ke⟩ =>
    ⟨F, S, Γ, _, Ed, en, hw, fun ds Γ1 vs H1 q m1 e1 hv => ⟨S, ds, _, _, e1.hid, hv, q, fun d v H' qd s hv' => kq d Γ1 v H' qd (m1.trans (.of s)) (e1.same s) hv', fun c H' qc s => ke c Γ1 H' qc (e1.same s)⟩, ke⟩
theorem de_fnT {sp : TSp} {ws : DL} {is it : Nat} {xs xt : Str} {p1 p2 : Pos} (Fk : FnOk X.prog X.w X.K X.mg X.base (L2.CX X.prog X.w) k f fd ps (spT X.K sp)) (hr : Room k X.A) (hg : Gl X x) (hm : X.mg x = some (.ref f)) (hk : PySem.W.keepIn X.K (.ref f) = true) (hb : Binds X.K fd ps []) (tk : Takes X W)
    (hs : PE X (.Name xs p1) (tVar is)) (ht : PE X (.Name xt p2) (tVar it)) (ha : PA X es (tL X.K W ws)) (hdb : (x == ("__debug__" : Str)) = false := by decide)
    (h1 : starEach (Expr.Name xs p1 :: Expr.Name xt p2 :: es) X.env = (false, eval (Expr.Name xs p1) X.env) :: starEach (Expr.Name xt p2 :: es) X.env := by rfl)
    (h2 : starEach (Expr.Name xt p2 :: es) X.env = (false, eval (Expr.Name xt p2) X.env) :: starEach es X.env := by rfl)
    (hpl : (backTo pos (starEach (Expr.Name xt p2 :: es) X.env)).any (·.1) = false := by rfl) :
    PE X (.Call (.Name x p) (.Name xs p1 :: .Name xt p2 :: es) [] pos) (tD X.K W (wFnT is it sp ws)) := by
  refine peImp (pe_callS (E := WE W) Fk hr hg hm hk hb (fun σ => passAt tk σ) (pa_cons hs (pa_cons ht ha h2) h1) hdb h1 hpl) fun σ H Q ⟨F, S, Γ, Qd, Ed, en, ⟨hs0, ⟨n0, ht0⟩, hw⟩, kq, ke⟩ => ?_
  -- the two names are read ahead of the others; they stand
  have key : ∀ (v0 v1 : V), σ[is]? = some (some v0) → σ[it]? = some (some v1) → tL X.K W ws σ H fun vs H1 => spT X.K sp (v0 :: v1 :: vs) H1 Q (WE W σ) := fun v0 v1 g0 g1 => by
    refine ⟨F, S, Γ, _, Ed, en, hw, fun ds Γ1 vs H1 ⟨n, hi, hj, q⟩ m1 e1 hv => ?_, ke⟩
    obtain ⟨o0, q0, v0', r0, s0⟩ := e1.slot is _ hi
    obtain ⟨o1, q1, t, us, r1, st, _, hu, hl⟩ := e1.slot it _ hj
    rw [g0] at q0
    rw [g1] at q1
    cases q0; cases q1; cases r0; cases r1
    refine ⟨S, t, us, n, v0, vs, ds, _, e1.hid, st, hu, hl, rfl, s0, hv, q, fun d n' v H' us' qd ks hu' hl' hv' => ?_⟩
    refine kq d _ v H' qd (m1.trans ⟨fun b o nb hb => ks b o (fun z => nb (z ▸ st)) hb, fun b o hb => ?_, fun i ds' hi' => ?_, fun i ds' hi' => ?_, fun i n2 hi' => ?_⟩) (e1.town hj g1 ks hu' hl') hv'
    · by_cases hbt : b = t
      · subst hbt; exact .inr ⟨it, n, hj, g1⟩
      · exact .inl (ks b o hbt hb)
    · rw [getset]
      by_cases hc : it = i
      · subst hc
        have z : Γ1[it]? = some (Sl.own0 ds') := hi'
        rw [hj] at z
        cases z
      · rw [if_neg hc]
        exact hi'
    · rcases set_at hi' with ⟨rfl, _, z⟩ | ⟨_, q'⟩
      · cases z
      · exact q'
    · rcases set_at hi' with ⟨rfl, _, z⟩ | ⟨_, q'⟩
      · exact ⟨_, hj⟩
      · exact ⟨_, q'⟩
  obtain ⟨o0, q0, v0, r0, _⟩ := en.slot is _ hs0
  obtain ⟨o1, q1, t, us, r1, _⟩ := en.slot it _ ht0
  subst r0
  subst r1
  exact ⟨v0, q0, _, q1, key _ _ q0 q1⟩
end

/-! ### what is walked -/
/-- J walks ds, whatever comes, as long as what was data stays (cl: even if lists of one's own change) -/
def Wk (cl : Bool) (K : PySem.W.Frag) (S : Hd) (Γ : Gm) (σ : St) (H : Hp) (J : It) (ds : List PyData) : Prop :=
  ∀ (F' : Fm) (S' : Hd) (Γ' : Gm) (σ' : St) (H' : Hp), Same (off S H) (off S' H') → (cl = false → ∀ (i : Nat) (l : PyData), Γ[i]? = some (Sl.own0 l) → Γ'[i]? = some (Sl.own0 l) ∧ σ'[i]? = σ[i]?) → En K F' S' Γ' σ' H' →
    (∀ (i : Nat) (d : PyData), ds[i]? = some d → J.go i H' ∧ ∀ x H3, J.yld i H' x H3 → H3 = H' ∧ Da K (off S' H') x d) ∧ J.stop ds.length H'
def tI (cl : Bool) (K : PySem.W.Frag) (W : WX) (w : DL) : TI := fun σ H R => ∃ (F : Fm) (S : Hd) (Γ : Gm) (Qd : List PyData → Gm → Prop) (Ed : Ke), En K F S Γ σ H ∧ w Γ Qd Ed ∧
  (∀ ds Γ' H' J, Qd ds Γ' → Mv S σ Γ Γ' H H' → En K F S Γ' σ H' → Wk cl K S Γ' σ H' J ds → R J H') ∧ (∀ c Γ' H', Ed c Γ' → En K F S Γ' σ H' → W (.ref (He.ga K c)) none σ H')
section
variable {X : Cx} {W : WX} {e a b tg : Expr} {es : List Expr} {pos p : Pos}
/-- a list or a tuple -/
def iSeq (K : PySem.W.Frag) (tl : TE) : TI := fun σ H R => tl σ H fun x H1 => ∃ a, x = .ref a ∧ (((∃ xs, SqL K H1 a xs) ∧ R (Itl K a) H1) ∨ ((∃ xs, SqT K H1 a xs) ∧ R (Itt K a) H1))
theorem pi_seq {l : Expr} {tl : TE} (hl : PE X l tl) : PI X tg l (iSeq X.K tl) := by
  refine ⟨fun pins s σ H R I h => ?_⟩
  refine thn (hl.run pins s σ H _ I h) fun v s1 ⟨x, H1, I1, r1, q1⟩ => ?_
  obtain ⟨a, e, q1⟩ := q1
  subst e
  cases r1
  rcases q1 with ⟨⟨xs, hq⟩, q⟩ | ⟨⟨xs, hq⟩, q⟩
  · obtain ⟨its, rv, p, hz⟩ := I1.list hq
    refine wpAny_pyIter_list p.isList ?_
    refine ⟨s1.heap.objs.size, [s1.heap.objs.size], _, _, H1, rfl, I1.kept (t' := s1.toks) fun b o e => Heap.get?_push_of_some _ e, turn_list a _, ⟨_, Heap.get?_push_size _ rfl, rfl, rfl⟩, fun b hb => ?_, q⟩
    have e : b = s1.heap.objs.size := by simpa using hb
    subst e
    exact I1.fpOk (Nat.le_refl _) (I1.hok.fresh (Nat.le_refl _))
  · obtain ⟨its, rv, p, hz⟩ := I1.tuple hq
    refine wpAny_pyIter_tuple (show s1.heap.IsTuple a its.toArray from p) ?_
    refine ⟨s1.heap.objs.size, [s1.heap.objs.size], _, _, H1, rfl, I1.kept (t' := s1.toks) fun b o e => Heap.get?_push_of_some _ e, turn_tuple a _, ⟨_, Heap.get?_push_size _ rfl, rfl, rfl⟩, fun b hb => ?_, q⟩
    have e : b = s1.heap.objs.size := by simpa using hb
    subst e
    exact I1.fpOk (Nat.le_refl _) (I1.hok.fresh (Nat.le_refl _))
def SeqD : PyData → List PyData → Prop
  | .list xs, ds => ds = xs
  | .tuple xs, ds => ds = xs
  | _, _ => False
def wSeq (w : DE) : DL := fun Γ Q E => w Γ (fun d Γ1 => ∃ ds, SeqD d ds ∧ Q ds Γ1) E
theorem wk_lst {cl : Bool} {K : PySem.W.Frag} {S : Hd} {Γ : Gm} {σ : St} {H : Hp} {a : Addr} {xs : List V} {ds : List PyData} (h : off S H a = some (.lst xs)) (hd : DaL K (off S H) xs ds) : Wk cl K S Γ σ H (Itl K a) ds := by
  intro F' S' Γ' σ' H' e _ en
  have h1 : SqL K H' a xs := .of (off_same _ _ (e _ _ h))
  refine ⟨fun i d hi => ?_, ⟨xs, h1, by rw [hd.length]; exact Nat.le_refl _⟩⟩
  obtain ⟨v, hv, hvd⟩ := hd.get hi
  refine ⟨⟨xs, v, h1, hv⟩, fun x H3 y => ?_⟩
  obtain ⟨rfl, y⟩ := y
  have ex : x = v := Option.some.inj ((y xs h1).symm.trans hv)
  subst ex
  exact ⟨rfl, hvd.mono e⟩
theorem wk_tup {cl : Bool} {K : PySem.W.Frag} {S : Hd} {Γ : Gm} {σ : St} {H : Hp} {a : Addr} {xs : List V} {ds : List PyData} (h : SqT K (off S H) a xs) (hd : DaL K (off S H) xs ds) : Wk cl K S Γ σ H (Itt K a) ds := by
  intro F' S' Γ' σ' H' e _ en
  have h1 : SqT K H' a xs := seqT off_same (seqT e h)
  refine ⟨fun i d hi => ?_, ⟨xs, h1, by rw [hd.length]; exact Nat.le_refl _⟩⟩
  obtain ⟨v, hv, hvd⟩ := hd.get hi
  refine ⟨⟨xs, v, h1, hv⟩, fun x H3 y => ?_⟩
  obtain ⟨rfl, y⟩ := y
  have ex : x = v := Option.some.inj ((y xs h1).symm.trans hv)
  subst ex
  exact ⟨rfl, hvd.mono e⟩
theorem wk_own {K : PySem.W.Frag} {S : Hd} {Γ : Gm} {σ : St} {H : Hp} {a : Addr} {i : Nat} {ds : List PyData} (h : Γ[i]? = some (Sl.own ds)) (hs : σ[i]? = some (some (.ref a))) : Wk false K S Γ σ H (Itl K a) ds := by
  intro F' S' Γ' σ' H' e ho en
  obtain ⟨g, gs⟩ := ho rfl i _ h
  obtain ⟨o, q1, a', u, q2, _, _, _, h1, xs, rfl, hd⟩ := en.slot i _ g
  rw [gs, hs] at q1
  cases q1
  cases q2
  have h1 : SqL K H' a xs := .of h1
  refine ⟨fun i d hi => ?_, ⟨xs, h1, by rw [hd.length]; exact Nat.le_refl _⟩⟩
  obtain ⟨v, hv, hvd⟩ := hd.get hi
  refine ⟨⟨xs, v, h1, hv⟩, fun x H3 y => ?_⟩
  obtain ⟨rfl, y⟩ := y
  have ex : x = v := Option.some.inj ((y xs h1).symm.trans hv)
  subst ex
  exact ⟨rfl, hvd⟩
/-- over data -/
theorem di_seq {cl : Bool} {w : DE} (h : PE X e (tD X.K W w)) : PI X tg e (tI cl X.K W (wSeq w)) := piImp (pi_seq h) fun σ H R ⟨F, S, Γ, Qd, Ed, en, hw, k, ke⟩ => ⟨F, S, Γ, _, Ed, en, hw, fun d Γ1 v H1 ⟨ds, sd, q⟩ m1 e1 hv => by
    cases hv with
    | lst h1 h2 => cases sd; exact ⟨_, rfl, .inl ⟨⟨_, .of (off_same _ _ h1)⟩, k _ Γ1 H1 _ q m1 e1 (wk_lst h1 h2)⟩⟩
    | tup h1 h2 => cases sd; exact ⟨_, rfl, .inr ⟨⟨_, seqT off_same h1⟩, k _ Γ1 H1 _ q m1 e1 (wk_tup h1 h2)⟩⟩
    | _ => exact sd.elim, ke⟩
/-- over a list that a slot owns, in a comprehension -/
theorem di_own {w : DE} (h : PE X e (tR X.K W w)) : PI X tg e (tI false X.K W (wSeq w)) := piImp (pi_seq h) fun σ H R ⟨F, S, Γ, Qd, Ed, en, hw, k, ke⟩ => ⟨F, S, Γ, _, Ed, en, hw, fun d Γ1 v H1 ⟨ds, sd, q⟩ m1 e1 hv => by
    rcases hv with hv | ⟨i, g1, g2⟩
    · cases hv with
      | lst h1 h2 => cases sd; exact ⟨_, rfl, .inl ⟨⟨_, .of (off_same _ _ h1)⟩, k _ Γ1 H1 _ q m1 e1 (wk_lst h1 h2)⟩⟩
      | tup h1 h2 => cases sd; exact ⟨_, rfl, .inr ⟨⟨_, seqT off_same h1⟩, k _ Γ1 H1 _ q m1 e1 (wk_tup h1 h2)⟩⟩
      | _ => exact sd.elim
    · obtain ⟨o, q1, a, u, rfl, _, _, _, h1, hd⟩ := e1.slot i _ g1
      cases d with
      | list l =>
        cases sd
        obtain ⟨xs, rfl, hd⟩ := hd
        rw [g2] at q1
        cases q1
        exact ⟨_, rfl, .inl ⟨⟨_, .of h1⟩, k _ Γ1 H1 _ q m1 e1 (wk_own g1 g2)⟩⟩
      | tuple l => exact hd.elim
      | _ => exact sd.elim, ke⟩
theorem wk_rng {cl : Bool} {K : PySem.W.Frag} {S : Hd} {Γ : Gm} {σ : St} {H : Hp} {lo : Int} {n : Nat} : Wk cl K S Γ σ H (Itr lo n) ((List.range n).map fun (i : Nat) => PyData.int (lo + (i : Int))) := by
  intro F' S' Γ' σ' H' e _ en
  refine ⟨fun i d hi => ?_, by show n ≤ _; rw [List.length_map, List.length_range]; exact Nat.le_refl _⟩
  have hin : i < n := by
    have q := (List.getElem?_eq_some_iff.mp hi).1
    rw [List.length_map, List.length_range] at q
    exact q
  rw [List.getElem?_map, List.getElem?_range hin] at hi
  cases hi
  refine ⟨hin, fun x H3 y => ?_⟩
  obtain ⟨e1, e2⟩ := y
  subst e1 e2
  exact ⟨rfl, .int _⟩
def rngL (i j : Int) : List PyData := (List.range (j - i).toNat).map fun (k : Nat) => PyData.int (i + (k : Int))
def Rng1 (ds rs : List PyData) : Prop := ∃ j : Int, ds = [.int j] ∧ -(2 ^ 62) ≤ j ∧ j < 2 ^ 62 ∧ rs = rngL 0 j
def Rng2 (ds rs : List PyData) : Prop := ∃ i j : Int, ds = [.int i, .int j] ∧ (-(2 ^ 62) ≤ i ∧ i < 2 ^ 62 ∧ -(2 ^ 62) ≤ j ∧ j < 2 ^ 62) ∧ rs = rngL i j
def wRng (R : List PyData → List PyData → Prop) (ws : DL) : DL := fun Γ Q E => ws Γ (fun d Γ1 => ∃ ds, R d ds ∧ Q ds Γ1) E
theorem di_rng1 {cl : Bool} {ws : DL} (hg : Gl X "range") (hm : X.mg "range" = none) (ha : PA X [a] (tL X.K W ws)) (hs : starEach [a] X.env = [(false, eval a X.env)] := by rfl) : PI X tg (.Call (.Name "range" p) [a] [] pos) (tI cl X.K W (wRng Rng1 ws)) :=
  piImp (pi_range1 hg hm ha hs) fun σ H R ⟨F, S, Γ, Qd, Ed, en, hw, k, ke⟩ => ⟨F, S, Γ, _, Ed, en, hw, fun ds Γ1 vs H1 ⟨ds', rd, q⟩ m1 e1 hv => by
    obtain ⟨j, rfl, r1, r2, rfl⟩ := rd
    obtain ⟨v, rfl, hv1⟩ := hv.one
    cases hv1
    refine ⟨j, rfl, r1, r2, k _ Γ1 H1 _ q m1 e1 ?_⟩
    have e : j.toNat = (j - 0).toNat := by rw [Int.sub_zero]
    unfold rngL
    rw [e]
    exact wk_rng, ke⟩
theorem di_rng2 {cl : Bool} {ws : DL} (hg : Gl X "range") (hm : X.mg "range" = none) (ha : PA X [a, b] (tL X.K W ws)) (hs : starEach [a, b] X.env = [(false, eval a X.env), (false, eval b X.env)] := by rfl) (hs2 : starEach [b] X.env = [(false, eval b X.env)] := by rfl) : PI X tg (.Call (.Name "range" p) [a, b] [] pos) (tI cl X.K W (wRng Rng2 ws)) :=
  piImp (pi_range2 hg hm ha hs hs2) fun σ H R ⟨F, S, Γ, Qd, Ed, en, hw, k, ke⟩ => ⟨F, S, Γ, _, Ed, en, hw, fun ds Γ1 vs H1 ⟨ds', rd, q⟩ m1 e1 hv => by
    obtain ⟨i, j, rfl, r, rfl⟩ := rd
    obtain ⟨v, v', rfl, hv, hv'⟩ := hv.two
    cases hv
    cases hv'
    exact ⟨i, j, rfl, r, k _ Γ1 H1 _ q m1 e1 wk_rng⟩, ke⟩
end

/-! ### targets -/
abbrev DG := PyData → Gm → (Gm → Prop) → Prop
/-- g, a target's reading, does what gd says; it sets the slots vs alone -/
def OkG (K : PySem.W.Frag) (g : TG) (gd : DG) (vs : List Nat) : Prop := ∀ (F : Fm) (S : Hd) (Γ : Gm) (σ : St) (H : Hp) (v : V) (d : PyData) (Qd : Gm → Prop) (Q : St → Hp → Prop), En K F S Γ σ H → Da K (off S H) v d → gd d Γ Qd →
  (∀ Γ' σ', Qd Γ' → En K F S Γ' σ' H → (∀ j, j ∉ vs → σ'[j]? = σ[j]? ∧ Γ'[j]? = Γ[j]?) → (∀ (j n : Nat), Γ'[j]? = some (Sl.twn n) → Γ[j]? = some (Sl.twn n)) → σ'.length = σ.length → Q σ' H) → g v σ H Q
def gdN (i : Nat) : DG := fun d Γ k => k (Γ.set i (.dat d))
theorem okg_name {K : PySem.W.Frag} (i : Nat) : OkG K (gName i) (gdN i) [i] := fun F S Γ σ H v d Qd Q en hv hd k =>
  k _ _ hd (en.set i hv) (fun j hj => by
    have ne : i ≠ j := fun e => hj (by rw [e]; exact List.mem_singleton_self j)
    exact ⟨by rw [getset, if_neg ne], by rw [getset, if_neg ne]⟩) (fun j n q => by
    rcases set_at q with ⟨_, _, z⟩ | ⟨_, q⟩
    · cases z
    · exact q) (by rw [List.length_set])
abbrev DGs := List PyData → Gm → (Gm → Prop) → Prop
def OkGs (K : PySem.W.Frag) (g : TGs) (gd : DGs) (vs : List Nat) : Prop := ∀ (F : Fm) (S : Hd) (Γ : Gm) (σ : St) (H : Hp) (xs : List V) (ds : List PyData) (Qd : Gm → Prop) (Q : St → Hp → Prop), En K F S Γ σ H → DaL K (off S H) xs ds → gd ds Γ Qd →
  (∀ Γ' σ', Qd Γ' → En K F S Γ' σ' H → (∀ j, j ∉ vs → σ'[j]? = σ[j]? ∧ Γ'[j]? = Γ[j]?) → (∀ (j n : Nat), Γ'[j]? = some (Sl.twn n) → Γ[j]? = some (Sl.twn n)) → σ'.length = σ.length → Q σ' H) → g xs σ H Q
def gdNil : DGs := fun ds Γ k => ds = [] ∧ k Γ
def gdCons (g : DG) (gs : DGs) : DGs := fun ds Γ k => ∃ d r, ds = d :: r ∧ g d Γ fun Γ1 => gs r Γ1 k
theorem okg_nil {K : PySem.W.Frag} : OkGs K gNil gdNil [] := fun F S Γ σ H xs ds Qd Q en hv hd k => by
  obtain ⟨rfl, hd⟩ := hd
  cases hv
  exact ⟨rfl, k Γ σ hd en (fun _ _ => ⟨rfl, rfl⟩) (fun _ _ q => q) rfl⟩
theorem okg_cons {K : PySem.W.Frag} {g : TG} {gs : TGs} {gd : DG} {gds : DGs} {v1 v2 : List Nat} (h1 : OkG K g gd v1) (h2 : OkGs K gs gds v2) : OkGs K (gCons g gs) (gdCons gd gds) (v1 ++ v2) := fun F S Γ σ H xs ds Qd Q en hv hd k => by
  obtain ⟨d, r, rfl, hd⟩ := hd
  cases hv with
  | cons hv hr =>
    refine ⟨_, _, rfl, h1 F S Γ σ H _ d _ _ en hv hd fun Γ1 σ1 q1 e1 f1 t1 l1 => h2 F S Γ1 σ1 H _ r _ _ e1 hr q1 fun Γ2 σ2 q2 e2 f2 t2 l2 => k Γ2 σ2 q2 e2 (fun j hj => ?_) (fun j n q => t1 j n (t2 j n q)) (l2.trans l1)⟩
    rw [List.mem_append, not_or] at hj
    exact ⟨((f2 j hj.2).1).trans (f1 j hj.1).1, ((f2 j hj.2).2).trans (f1 j hj.1).2⟩
def gdT (n : Nat) (gs : DGs) : DG := fun d Γ k => ∃ ds, d = .tuple ds ∧ ds.length = n ∧ gs ds Γ k
def gdS (n : Nat) (gs : DGs) : DG := fun d Γ k => ∃ ds, d = .list ds ∧ ds.length = n ∧ gs ds Γ k
theorem okg_tup {K : PySem.W.Frag} {n : Nat} {gs : TGs} {gds : DGs} {vs : List Nat} (h : OkGs K gs gds vs) : OkG K (gTup K n gs) (gdT n gds) vs := fun F S Γ σ H v d Qd Q en hv hd k => by
  obtain ⟨ds, rfl, hl, hd⟩ := hd
  cases hv with
  | tup h1 h2 => exact ⟨_, _, rfl, seqT off_same h1, h2.length.trans hl, h F S Γ σ H _ ds Qd Q en h2 hd k⟩
theorem okg_lst {K : PySem.W.Frag} {n : Nat} {gs : TGs} {gds : DGs} {vs : List Nat} (h : OkGs K gs gds vs) : OkG K (gLst K n gs) (gdS n gds) vs := fun F S Γ σ H v d Qd Q en hv hd k => by
  obtain ⟨ds, rfl, hl, hd⟩ := hd
  cases hv with
  | lst h1 h2 => exact ⟨_, _, rfl, .of (off_same _ _ h1), h2.length.trans hl, h F S Γ σ H _ ds Qd Q en h2 hd k⟩

/-! ### comprehensions -/
def wipeG (Γ : Gm) : List Nat → Gm
  | [] => Γ
  | i :: r => (wipeG Γ r).set i .no
theorem wipe_get (σ : St) (j : Nat) : ∀ vs : List Nat, (j ∉ vs → (wipe σ vs)[j]? = σ[j]?) ∧ (j ∈ vs → j < σ.length → (wipe σ vs)[j]? = some none)
  | [] => ⟨fun _ => rfl, fun h => by cases h⟩
  | i :: r => by
    obtain ⟨h1, h2⟩ := wipe_get σ j r
    constructor
    · intro h
      rw [List.mem_cons, not_or] at h
      show ((wipe σ r).set i none)[j]? = _
      rw [getset, if_neg (Ne.symm h.1)]
      exact h1 h.2
    · intro h hl
      show ((wipe σ r).set i none)[j]? = _
      rw [getset]
      by_cases e : i = j
      · rw [if_pos e, if_pos (by rw [wipe_length, e]; exact hl)]
      · rw [if_neg e]
        rcases List.mem_cons.mp h with q | q
        · exact absurd q.symm e
        · exact h2 q hl
theorem wipeG_get (Γ : Gm) (j : Nat) : ∀ vs : List Nat, (wipeG Γ vs).length = Γ.length ∧ (j ∉ vs → (wipeG Γ vs)[j]? = Γ[j]?) ∧ (j ∈ vs → j < Γ.length → (wipeG Γ vs)[j]? = some Sl.no)
  | [] => ⟨rfl, fun _ => rfl, fun h => by cases h⟩
  | i :: r => by
    obtain ⟨h0, h1, h2⟩ := wipeG_get Γ j r
    refine ⟨by show ((wipeG Γ r).set i .no).length = _; rw [List.length_set]; exact h0, ?_, ?_⟩
    · intro h
      rw [List.mem_cons, not_or] at h
      show ((wipeG Γ r).set i .no)[j]? = _
      rw [getset, if_neg (Ne.symm h.1)]
      exact h1 h.2
    · intro h hl
      show ((wipeG Γ r).set i .no)[j]? = _
      rw [getset]
      by_cases e : i = j
      · rw [if_pos e, if_pos (by rw [h0, e]; exact hl)]
      · rw [if_neg e]
        rcases List.mem_cons.mp h with q | q
        · exact absurd q.symm e
        · exact h2 q hl
theorem wipe_ext {σ σ' : St} {vs : List Nat} (hl : σ'.length = σ.length) (h : ∀ j, j ∉ vs → σ'[j]? = σ[j]?) : wipe σ' vs = wipe σ vs := by
  apply List.ext_getElem?
  intro j
  by_cases hj : j ∈ vs
  · by_cases q : j < σ.length
    · rw [(wipe_get σ j vs).2 hj q, (wipe_get σ' j vs).2 hj (by rw [hl]; exact q)]
    · rw [List.getElem?_eq_none (by rw [wipe_length]; omega), List.getElem?_eq_none (by rw [wipe_length]; omega)]
  · rw [(wipe_get σ j vs).1 hj, (wipe_get σ' j vs).1 hj]
    exact h j hj
theorem En.ext {K : PySem.W.Frag} {F : Fm} {S : Hd} {Γ Γ' : Gm} {σ σ' : St} {H : Hp} (h : En K F S Γ σ H) (hl : Γ'.length = σ'.length) (vs : List Nat) (h1 : ∀ j, j ∉ vs → Γ'[j]? = Γ[j]?) (h2 : ∀ j, j ∉ vs → σ'[j]? = σ[j]?) (h3 : ∀ j, j ∈ vs → j < Γ'.length → Γ'[j]? = some Sl.no) : En K F S Γ' σ' H := by
  refine ⟨h.sub, h.tin, h.fr, h.hid, h.base, hl, fun j s q => ?_, fun j k s1 s2 a hjk q1 q2 m1 m2 r1 => ?_⟩
  · by_cases hj : j ∈ vs
    · have hlt : j < Γ'.length := (List.getElem?_eq_some_iff.mp q).1
      rw [h3 j hj hlt] at q
      cases q
      exact ⟨_, List.getElem?_eq_getElem (by rw [← hl]; exact hlt), trivial⟩
    · rw [h1 j hj] at q
      rw [h2 j hj]
      exact h.slot j s q
  · have g : ∀ (m : Nat) (s : Sl), Γ'[m]? = some s → s.mut = true → m ∉ vs := fun m s q ms hm => by
      rw [h3 m hm (List.getElem?_eq_some_iff.mp q).1] at q
      cases q
      cases ms
    have n1 := g j s1 q1 m1
    have n2 := g k s2 q2 m2
    rw [h1 j n1] at q1
    rw [h1 k n2] at q2
    rw [h2 j n1] at r1
    rw [h2 k n2]
    exact h.inj j k s1 s2 a hjk q1 q2 m1 m2 r1
/-- one turn of a comprehension: what is taken (or nothing) -/
abbrev LStep := PyData → Gm → (Option PyData → Gm → Prop) → Prop
def lcW (st : LStep) : List PyData → List PyData → Gm → (List PyData → Gm → Prop) → Prop
  | [], acc, Γ, k => k acc Γ
  | d :: ds, acc, Γ, k => st d Γ fun o Γ' => lcW st ds (acc ++ o.toList) Γ' k
def stIf (gd : DG) (t : DB) (w : DE) (vs : List Nat) : LStep := fun d Γ k => gd d Γ fun Γa => t Γa (fun b Γb => if b = true then w Γb (fun e Γc => k (some e) (wipeG Γc vs)) F0 else k none (wipeG Γb vs)) F0
def stAll (gd : DG) (w : DE) (vs : List Nat) : LStep := fun d Γ k => gd d Γ fun Γa => w Γa (fun e Γc => k (some e) (wipeG Γc vs)) F0
def noOwn (Γ : Gm) (vs : List Nat) : Bool := vs.all fun i => match Γ[i]? with
  | some (.own0 _) => false
  | _ => true
theorem noOwn_ok {Γ : Gm} {vs : List Nat} (h : noOwn Γ vs = true) {i : Nat} {l : PyData} (e : Γ[i]? = some (Sl.own0 l)) : i ∉ vs := fun hi => by
  have q := List.all_eq_true.mp h i hi
  rw [e] at q
  cases q
def wLc (wi : DL) (st : LStep) (vs : List Nat) : DE := fun Γ Q E => wi Γ (fun ds Γ1 => ds.length ≤ sizeLine ∧ noOwn Γ1 vs = true ∧ lcW st ds [] (wipeG Γ1 vs) fun acc Γ2 => Q (.list acc) Γ2) E
theorem En.wiped {K : PySem.W.Frag} {F : Fm} {S : Hd} {Γ : Gm} {σ : St} {H : Hp} (h : En K F S Γ σ H) (vs : List Nat) : En K F S (wipeG Γ vs) (wipe σ vs) H :=
  h.ext (by rw [(wipeG_get Γ 0 vs).1, wipe_length]; exact h.len) vs (fun j hj => (wipeG_get Γ j vs).2.1 hj) (fun j hj => (wipe_get σ j vs).1 hj) fun j hj hl => (wipeG_get Γ j vs).2.2 hj (by rw [(wipeG_get Γ 0 vs).1] at hl; exact hl)
/-- out of the block: the block's slots are forgotten -/
theorem En.unwipe {K : PySem.W.Frag} {F : Fm} {S : Hd} {Γ : Gm} {σ σ2 : St} {H : Hp} {vs : List Nat} (h : En K F S Γ σ2 H) (hw : wipe σ2 vs = wipe σ vs) : En K F S (wipeG Γ vs) σ H := by
  have hl : σ2.length = σ.length := by rw [← wipe_length σ2 vs, hw, wipe_length]
  refine h.ext (by rw [(wipeG_get Γ 0 vs).1, h.len]; exact hl) vs (fun j hj => (wipeG_get Γ j vs).2.1 hj) (fun j hj => ?_) fun j hj hl => (wipeG_get Γ j vs).2.2 hj (by rw [(wipeG_get Γ 0 vs).1] at hl; exact hl)
  rw [← (wipe_get σ j vs).1 hj, ← hw, (wipe_get σ2 j vs).1 hj]
/-- the new list is no longer hidden -/
theorem En.unhide {K : PySem.W.Frag} {F : Fm} {S : Hd} {Γ : Gm} {σ : St} {H : Hp} {p : Addr} (h : En K F (fun b => S b ∨ b = p) Γ σ H) (h1 : ∀ b, F.S0 b → S b ∧ F.H0 b ≠ none) (h2 : ∀ b, F.T b → S b) (hn : ∀ (j : Nat) (s : Sl), Γ[j]? = some s → s.mut = true → σ[j]? ≠ some (some (.ref p))) : En K F S Γ σ H := by
  have e : Same (off (fun b => S b ∨ b = p) H) (off S H) := off_sub fun b z => .inl z
  refine ⟨h1, h2, fun b z => h.fr b (.inl z), fun b z => h.hid b (.inl z), h.base, h.len, fun j s q => ?_, h.inj⟩
  obtain ⟨o, a, b⟩ := h.slot j s q
  refine ⟨o, a, ?_⟩
  cases s with
  | no => trivial
  | dat d => exact ⟨b.choose, b.choose_spec.1, b.choose_spec.2.mono e⟩
  | own0 ds =>
    obtain ⟨x, vs, q1, q2, q3, q4, q5, q6⟩ := b
    refine ⟨x, vs, q1, q2.resolve_right ?_, q3, q4, q5, q6.mono e⟩
    rintro rfl
    exact hn j _ q rfl (by rw [a, q1])
  | twn n =>
    obtain ⟨x, vs, q1, q2, q3, q4, q5⟩ := b
    refine ⟨x, vs, q1, q2.resolve_right ?_, q3, q4, q5⟩
    rintro rfl
    exact hn j _ q rfl (by rw [a, q1])
  | scr => exact ⟨b.choose, b.choose_spec.1, b.choose_spec.2.mono e⟩
section
variable {X : Cx} {W : WX}
/-- the slots of the block hold nothing ahead -/
def Wiped (Γ : Gm) (vs : List Nat) : Prop := ∀ (i : Nat) (s : Sl), i ∈ vs → Γ[i]? = some s → s = Sl.no
theorem wiped_wipe (Γ : Gm) (vs : List Nat) : Wiped (wipeG Γ vs) vs := fun i s hi q => by
  have hl : i < Γ.length := by
    have z := (List.getElem?_eq_some_iff.mp q).1
    rw [(wipeG_get Γ 0 vs).1] at z
    exact z
  rw [(wipeG_get Γ i vs).2.2 hi hl] at q
  exact (Option.some.inj q).symm
/-- what a turn of the block asks, at the level of readings -/
def OkSt (K : PySem.W.Frag) (g : TG) (tt : TT) (te : TE) (vs : List Nat) (st : LStep) : Prop := ∀ (F : Fm) (S : Hd) (Γ : Gm) (σ : St) (H : Hp) (x : V) (d : PyData) (k : Option PyData → Gm → Prop) (R : V → Hp → Prop) (R0 : Hp → Prop), En K F S Γ (wipe σ vs) H → Wiped Γ vs → Da K (off S H) x d → st d Γ k →
  (∀ e Γ' y H', k (some e) Γ' → Wiped Γ' vs → Mv S σ Γ Γ' H H' → En K F S Γ' σ H' → Da K (off S H') y e → R y H') → (∀ Γ' H', k none Γ' → Wiped Γ' vs → Mv S σ Γ Γ' H H' → En K F S Γ' σ H' → R0 H') →
  g x (wipe σ vs) H fun σ2 H2 => wipe σ2 vs = wipe σ vs ∧ tt σ2 H2 fun b H3 => if b = true then te σ2 H3 R else R0 H3
theorem mv_blk {S : Hd} {σ σ2 : St} {Γ Γa Γc : Gm} {H H' : Hp} {vs : List Nat} (h : Mv S σ2 Γa Γc H H') (wd : Wiped Γ vs) (f : ∀ j, j ∉ vs → σ2[j]? = (wipe σ vs)[j]? ∧ Γa[j]? = Γ[j]?) (hd : ∀ (j : Nat), j ∈ vs → ∀ n, Γa[j]? ≠ some (Sl.twn n)) : Mv S σ Γ (wipeG Γc vs) H H' := by
  have no : ∀ (i : Nat) (s : Sl), (wipeG Γc vs)[i]? = some s → s ≠ Sl.no → i ∉ vs ∧ Γc[i]? = some s := fun i s q ns => by
    have hi : i ∉ vs := fun hi => ns (wiped_wipe Γc vs i s hi q)
    rw [(wipeG_get Γc i vs).2.1 hi] at q
    exact ⟨hi, q⟩
  refine ⟨h.le, fun b o q => ?_, fun i l q => ?_, fun i l q => ?_, fun i n q => ?_⟩
  · rcases h.al b o q with z | ⟨i, n, g, e⟩
    · exact .inl z
    · have hi : i ∉ vs := fun hi => hd i hi n g
      obtain ⟨f1, f2⟩ := f i hi
      rw [f2] at g
      rw [f1, (wipe_get σ i vs).1 hi] at e
      exact .inr ⟨i, n, g, e⟩
  · have hi : i ∉ vs := fun hi => by
      have z := wd i _ hi q
      cases z
    rw [(wipeG_get Γc i vs).2.1 hi]
    exact h.ow i l (by rw [(f i hi).2]; exact q)
  · obtain ⟨hi, q⟩ := no i _ q (by intro z; cases z)
    have q2 := h.wo i l q
    rw [(f i hi).2] at q2
    exact q2
  · obtain ⟨hi, q⟩ := no i _ q (by intro z; cases z)
    obtain ⟨m, q2⟩ := h.tw i n q
    rw [(f i hi).2] at q2
    exact ⟨m, q2⟩
theorem wipe_twice {σ σ2 : St} {vs : List Nat} (hl : σ2.length = (wipe σ vs).length) (f : ∀ j, j ∉ vs → σ2[j]? = (wipe σ vs)[j]?) : wipe σ2 vs = wipe σ vs :=
  wipe_ext (by rw [hl, wipe_length]) fun j hj => by rw [f j hj, (wipe_get σ j vs).1 hj]
theorem okst_if {K : PySem.W.Frag} {g : TG} {gd : DG} {t : DB} {w : DE} {vs : List Nat} (hg : OkG K g gd vs) : OkSt K g (tB K W0 t) (tD K W0 w) vs (stIf gd t w vs) := fun F S Γ σ H x d k R R0 en wd hv hs h1 h0 =>
  hg F S Γ (wipe σ vs) H x d _ _ en hv hs fun Γa σ2 q e2 f2 t2 l2 => by
    have ht : ∀ (j : Nat), j ∈ vs → ∀ n, Γa[j]? ≠ some (Sl.twn n) := fun j hj n z => by
      have y := wd j _ hj (t2 j n z)
      cases y
    have ew := wipe_twice l2 fun j hj => (f2 j hj).1
    refine ⟨ew, F, S, Γa, _, F0, e2, q, fun b Γb H3 qb mb eb => ?_, fun _ _ _ z => z.elim⟩
    cases b with
    | true => exact ⟨F, S, Γb, _, F0, eb, qb, fun e Γc y H4 qc mc ec hy => h1 e _ y H4 qc (wiped_wipe _ _) (mv_blk (mb.trans mc) wd f2 ht) (ec.unwipe ew) hy, fun _ _ _ z => z.elim⟩
    | false => exact h0 _ H3 qb (wiped_wipe _ _) (mv_blk mb wd f2 ht) (eb.unwipe ew)
theorem okst_all {K : PySem.W.Frag} {g : TG} {gd : DG} {w : DE} {vs : List Nat} (hg : OkG K g gd vs) : OkSt K g tYes (tD K W0 w) vs (stAll gd w vs) := fun F S Γ σ H x d k R R0 en wd hv hs h1 h0 =>
  hg F S Γ (wipe σ vs) H x d _ _ en hv hs fun Γa σ2 q e2 f2 t2 l2 => by
    have ht : ∀ (j : Nat), j ∈ vs → ∀ n, Γa[j]? ≠ some (Sl.twn n) := fun j hj n z => by
      have y := wd j _ hj (t2 j n z)
      cases y
    have ew := wipe_twice l2 fun j hj => (f2 j hj).1
    refine ⟨ew, ?_⟩
    show if true = true then tD K W0 w σ2 H R else R0 H
    rw [if_pos rfl]
    exact ⟨F, S, Γa, _, F0, e2, q, fun e Γc y H4 qc mc ec hy => h1 e _ y H4 qc (wiped_wipe _ _) (mv_blk mc wd f2 ht) (ec.unwipe ew) hy, fun _ _ _ z => z.elim⟩
theorem Mv.updNew {S : Hd} {σ : St} {Γ Γ' : Gm} {H H' : Hp} {D : Addr} {o : HO} (m : Mv S σ Γ Γ' H H') (h : H D = none) : Mv S σ Γ Γ' H (upd H' D o) :=
  ⟨fun b u n hb => by rw [upd_ne (ne_of_none hb h)]; exact m.le b u n hb, fun b u hb => by rw [upd_ne (ne_of_none hb h)]; exact m.al b u hb, m.ow, m.wo, m.tw⟩
theorem off_in_upd {S : Hd} {H : Hp} {D : Addr} {o : HO} : Same (off (fun b => S b ∨ b = D) H) (off (fun b => S b ∨ b = D) (upd H D o)) := fun b u q => by
  obtain ⟨n, q⟩ := off_get q
  rw [off_in n, upd_ne (fun z => n (.inr z))]
  exact q
theorem lc_rd {K : PySem.W.Frag} {wi : DL} {g : TG} {tt : TT} {te : TE} {vs : List Nat} {st : LStep} (hst : OkSt K g tt te vs st) {σ : St} {H : Hp} {Q : VK} (h : tD K W (wLc wi st vs) σ H Q) : tLc (tI false K W wi) g tt te vs σ H Q := by
  obtain ⟨F, S, Γ, Qd, Ed, en, hw, kq, ke⟩ := h
  refine ⟨F, S, Γ, _, Ed, en, hw, fun ds Γ1 H1 J ⟨hz, hno, q⟩ m1 e1 wk D hD => ?_, ke⟩
  have h0 : F.H0 D = none := e1.fresh0 hD
  have nD : ∀ (j : Nat) (s : Sl), Γ1[j]? = some s → s.mut = true → σ[j]? ≠ some (some (.ref D)) := fun j s q m z => by
    obtain ⟨o, a, b⟩ := e1.slot j s q
    rw [z] at a
    cases a
    cases s with
    | own0 ds => obtain ⟨x, vs, q1, _, _, _, q5, _⟩ := b; cases q1; rw [hD] at q5; cases q5
    | twn n => obtain ⟨x, vs, q1, _, _, q5, _⟩ := b; cases q1; rw [hD] at q5; cases q5
    | _ => cases m
  have m0 : Mv S σ Γ1 (wipeG Γ1 vs) H1 H1 := ⟨.refl, fun _ _ h => .inl h, fun i l q => by rw [(wipeG_get Γ1 i vs).2.1 (noOwn_ok hno q)]; exact q, fun i l q => by
    by_cases hi : i ∈ vs
    · have z := wiped_wipe Γ1 vs i _ hi q
      cases z
    · rw [(wipeG_get Γ1 i vs).2.1 hi] at q
      exact q, fun i n q => by
    by_cases hi : i ∈ vs
    · have z := wiped_wipe Γ1 vs i _ hi q
      cases z
    · rw [(wipeG_get Γ1 i vs).2.1 hi] at q
      exact ⟨n, q⟩⟩
  have sub1 : ∀ H' : Hp, Le S H1 H' → Same (off S H1) (off (fun b => S b ∨ b = D) H') := fun H' l b o q => by
    obtain ⟨n, q⟩ := off_get q
    rw [off_in (fun z => z.elim n (ne_of_none q hD))]
    exact l b o n q
  refine ⟨fun i m H' => m = ds.length - i ∧ i ≤ ds.length ∧ ∃ Γi acc va, En K F (fun b => S b ∨ b = D) Γi σ H' ∧ Wiped Γi vs ∧ Mv S σ Γ1 Γi H1 H' ∧ H' D = some (.lst va) ∧ DaL K (off (fun b => S b ∨ b = D) H') va acc ∧ acc.length ≤ i ∧ lcW st (ds.drop i) acc Γi (fun acc Γ2 => Qd (.list acc) Γ2),
    ⟨ds.length, rfl, Nat.zero_le _, wipeG Γ1 vs, [], [], ?_, wiped_wipe _ _, ?_, upd_same, .nil, Nat.le_refl _, q⟩, ?_⟩
  · exact (e1.hide hD).ext (by rw [(wipeG_get Γ1 0 vs).1]; exact e1.len) vs (fun j hj => (wipeG_get Γ1 j vs).2.1 hj) (fun _ _ => rfl) fun j hj hl => (wipeG_get Γ1 j vs).2.2 hj (by rw [(wipeG_get Γ1 0 vs).1] at hl; exact hl)
  · exact m0.trans (.of (same_new hD))
  · rintro i m H' ⟨rfl, hi, Γi, acc, va, ei, wd, mi, hDi, hva, hal, hk⟩
    have nDi : ∀ (j : Nat) (s : Sl), Γi[j]? = some s → s.mut = true → σ[j]? ≠ some (some (.ref D)) := fun j s q m => by
      obtain ⟨s', q', m'⟩ := mi.mu q m
      exact nD j s' q' m'
    obtain ⟨wk1, wk2⟩ := wk F _ Γi σ H' (sub1 H' mi.le) (fun _ i l q => ⟨mi.ow i l q, rfl⟩) ei
    by_cases hlt : i < ds.length
    · right
      have hd : ds[i]? = some ds[i] := List.getElem?_eq_getElem hlt
      obtain ⟨go, yl⟩ := wk1 i _ hd
      refine ⟨go, fun H'' => ∃ Γi acc va, En K F (fun b => S b ∨ b = D) Γi σ H'' ∧ Wiped Γi vs ∧ Mv S σ Γ1 Γi H1 H'' ∧ H'' D = some (.lst va) ∧ DaL K (off (fun b => S b ∨ b = D) H'') va acc ∧ acc.length ≤ i + 1 ∧ lcW st (ds.drop (i + 1)) acc Γi (fun acc Γ2 => Qd (.list acc) Γ2), ?_, ?_⟩
      · rintro H'' ⟨Γj, acc', va', r⟩
        exact ⟨ds.length - (i + 1), by omega, rfl, hlt, Γj, acc', va', r⟩
      · intro x H3 y
        obtain ⟨rfl, hx⟩ := yl x H3 y
        have hk' : st ds[i] Γi fun o Γ' => lcW st (ds.drop (i + 1)) (acc ++ o.toList) Γ' (fun acc Γ2 => Qd (.list acc) Γ2) := by
          rw [List.drop_eq_getElem_cons hlt] at hk
          exact hk
        have ew : En K F (fun b => S b ∨ b = D) Γi (wipe σ vs) H3 := by
          refine ei.ext (by rw [wipe_length]; exact ei.len) vs (fun _ _ => rfl) (fun j hj => (wipe_get σ j vs).1 hj) fun j hj hl => ?_
          have g := List.getElem?_eq_getElem hl
          rw [g, wd j _ hj g]
        have keepD : ∀ {Γ' : Gm} {H4 : Hp}, Mv (fun b => S b ∨ b = D) σ Γi Γ' H3 H4 → H4 D = some (.lst va) := fun m4 => by
          rcases m4.al D _ hDi with z | ⟨i, n, g, e⟩
          · exact z
          · exact absurd e (nDi i _ g rfl)
        have mvS : ∀ {Γ' : Gm} {H4 : Hp}, Mv (fun b => S b ∨ b = D) σ Γi Γ' H3 H4 → Mv S σ Γi Γ' H3 H4 := fun m4 => ⟨fun b o n hb => by
            by_cases z : b = D
            · subst z
              rw [hDi] at hb
              cases hb
              exact keepD m4
            · exact m4.le b o (fun y => y.elim n z) hb, m4.al, m4.ow, m4.wo, m4.tw⟩
        refine hst F _ Γi σ H3 x ds[i] _ _ _ ew wd hx hk' (fun e Γ' y H4 hk4 wd4 m4 e4 hy => ?_) (fun Γ' H4 hk4 wd4 m4 e4 => ?_)
        · have hD4 := keepD m4
          refine ⟨va, hD4, ?_, ?_⟩
          · have q1 := hva.length
            omega
          · have nD4 : ∀ (j : Nat) (s : Sl), Γ'[j]? = some s → s.mut = true → σ[j]? ≠ some (some (.ref D)) := fun j s q m => by
              obtain ⟨s', q', m'⟩ := m4.mu q m
              exact nDi j s' q' m'
            refine ⟨Γ', acc ++ [e], va ++ [y], e4.free (.inr rfl) h0 nD4, wd4, (mi.trans (mvS m4)).updNew hD, upd_same, ?_, by rw [List.length_append]; show acc.length + 1 ≤ i + 1; omega, hk4⟩
            exact ((hva.mono m4.le.off).append (.cons hy .nil)).mono off_in_upd
        · exact ⟨Γ', acc, va, e4, wd4, mi.trans (mvS m4), keepD m4, hva.mono m4.le.off, by omega, by simpa using hk4⟩
    · left
      have e : i = ds.length := by omega
      subst e
      rw [List.drop_length] at hk
      refine ⟨wk2, kq (.list acc) Γi (.ref D) H' hk (m1.trans mi) (ei.unhide e1.sub e1.tin nDi) (.lst ?_ (hva.mono (off_sub fun b z => .inl z)))⟩
      rw [off_in (e1.hid.free hD)]
      exact hDi
theorem de_lc {elt tg iter : Expr} {ifs : List Expr} {scope : Scope} {own : List (Str × Nat)} {pos : Pos} {wi : DL} {g : TG} {gd : DG} {t : DB} {w : DE} (hc : X.calm = true) (hN : X.N.Nodup) (hi : PI X tg iter (tI false X.K W wi)) (ok : BlkOk X.N X.env.scope scope own) (hgd : OkG X.K g gd (own.map (·.2)))
    (hg : ∀ (s : Shared) (H : Hp) (C : Addr) (cl : List (Str × Addr)) (fp : List Addr), PG (X.blk s H scope (compEnvC scope cl C X.env) fp) tg g) (ht : ∀ (s : Shared) (H : Hp) (C : Addr) (cl : List (Str × Addr)) (fp : List Addr), PTs (X.blk s H scope (compEnvC scope cl C X.env) fp) ifs (tB X.K W0 t))
    (he : ∀ (s : Shared) (H : Hp) (C : Addr) (cl : List (Str × Addr)) (fp : List Addr), PE (X.blk s H scope (compEnvC scope cl C X.env) fp) elt (tD X.K W0 w)) (hs : ∀ x, foldedSetIterable iter X.env x = pure x := by intro _; rfl) :
    PE X (.ListComp elt [⟨tg, iter, ifs, 0⟩] scope pos) (tD X.K W (wLc wi (stIf gd t w (own.map (·.2))) (own.map (·.2)))) := peImp (pe_lc hc hN hi ok hg ht he hs) fun _ _ _ h => lc_rd (okst_if hgd) h
theorem de_lc0 {elt tg iter : Expr} {scope : Scope} {own : List (Str × Nat)} {pos : Pos} {wi : DL} {g : TG} {gd : DG} {w : DE} (hc : X.calm = true) (hN : X.N.Nodup) (hi : PI X tg iter (tI false X.K W wi)) (ok : BlkOk X.N X.env.scope scope own) (hgd : OkG X.K g gd (own.map (·.2)))
    (hg : ∀ (s : Shared) (H : Hp) (C : Addr) (cl : List (Str × Addr)) (fp : List Addr), PG (X.blk s H scope (compEnvC scope cl C X.env) fp) tg g)
    (he : ∀ (s : Shared) (H : Hp) (C : Addr) (cl : List (Str × Addr)) (fp : List Addr), PE (X.blk s H scope (compEnvC scope cl C X.env) fp) elt (tD X.K W0 w)) (hs : ∀ x, foldedSetIterable iter X.env x = pure x := by intro _; rfl) :
    PE X (.ListComp elt [⟨tg, iter, [], 0⟩] scope pos) (tD X.K W (wLc wi (stAll gd w (own.map (·.2))) (own.map (·.2)))) := peImp (pe_lc hc hN hi ok hg (fun _ _ _ _ _ => pts_nil) he hs) fun _ _ _ h => lc_rd (okst_all hgd) h
end
end Dt

/-! Dat3: readings over data: statements, defs. -/
namespace Dt
open PySem L2

inductive Out where
  | nx | rt (d : PyData) | bk | ct | ex (c : Str)
abbrev DS := Gm → (Out → Gm → Prop) → Prop
def fin (K : PySem.W.Frag) (W : WX) (D : Ends) (S : Hd) (σ : St) (H : Hp) : Out → Prop
  | .nx => D.nx σ H
  | .rt d => ∀ v, Da K (off S H) v d → D.rt v H
  | .bk => D.bk σ H
  | .ct => D.ct σ H
  | .ex c => W (.ref (He.ga K c)) none σ H
def tS (K : PySem.W.Frag) (W : WX) (w : DS) : TS := fun D σ H => ∃ (F : Fm) (S : Hd) (Γ : Gm) (Qd : Out → Gm → Prop), En K F S Γ σ H ∧ w Γ Qd ∧ ∀ o Γ' S' σ' H', Qd o Γ' → En K F S' Γ' σ' H' → fin K W D S' σ' H' o

def onNx (b : DS) (k : Out → Gm → Prop) : Out → Gm → Prop
  | .nx => fun Γ => b Γ k
  | o => k o
def wNx : DS := fun Γ k => k .nx Γ
def wSq (a b : DS) : DS := fun Γ k => a Γ (onNx b k)
def wEx (w : DE) : DS := fun Γ k => w Γ (fun _ Γ1 => k .nx Γ1) (fun c Γ1 => k (.ex c) Γ1)
def wAsg (w : DE) (g : DG) : DS := fun Γ k => w Γ (fun d Γ1 => g d Γ1 (fun Γ2 => k .nx Γ2)) (fun c Γ1 => k (.ex c) Γ1)
def wSet (i : Nat) (w : DE) : DS := fun Γ k => w Γ (fun d Γ1 => k .nx (Γ1.set i (.dat d))) (fun c Γ1 => k (.ex c) Γ1)
def wRet (w : DE) : DS := fun Γ k => w Γ (fun d Γ1 => k (.rt d) Γ1) (fun c Γ1 => k (.ex c) Γ1)
def wIfS (t : DB) (a b : DS) : DS := fun Γ k => t Γ (fun c Γ1 => if c = true then a Γ1 k else b Γ1 k) (fun c Γ1 => k (.ex c) Γ1)
def wRaise (c : Str) : DS := fun Γ k => k (.ex c) Γ
section
variable {X : Cx} {W : WX} {e a b c : Expr} {es : List Expr} {pos : Pos} {st : Stmt} {sts ss tt : List Stmt}
theorem dss_nil : PSs X [] (tS X.K W wNx) := pssImp pss_nil fun D σ H ⟨F, S, Γ, Qd, en, hw, k⟩ => k .nx Γ S σ H hw en
theorem ds_pass : PS X (.Pass pos) (tS X.K W wNx) := psImp ps_pass fun D σ H ⟨F, S, Γ, Qd, en, hw, k⟩ => k .nx Γ S σ H hw en
theorem dss_cons {wa wb : DS} (h1 : PS X st (tS X.K W wa)) (h2 : PSs X sts (tS X.K W wb)) : PSs X (st :: sts) (tS X.K W (wSq wa wb)) := pssImp (pss_cons h1 h2) fun D σ H ⟨F, S, Γ, Qd, en, hw, k⟩ => by
  refine ⟨F, S, Γ, _, en, hw, fun o Γ' S' σ' H' q en' => ?_⟩
  cases o with
  | nx => exact ⟨F, S', Γ', Qd, en', q, k⟩
  | rt d => exact k _ _ _ _ _ q en'
  | bk => exact k _ _ _ _ _ q en'
  | ct => exact k _ _ _ _ _ q en'
  | ex c => exact k _ _ _ _ _ q en'
theorem dss_one {wa : DS} (h1 : PS X st (tS X.K W wa)) : PSs X [st] (tS X.K W wa) := pss_one h1
theorem ds_expr {w : DE} (he : PE X e (tD X.K W w)) (hs : swapsWith e none pos.line X.env = pure false := by rfl) : PS X (.Expr e pos) (tS X.K W (wEx w)) := psImp (ps_expr he hs) fun D σ H ⟨F, S, Γ, Qd, en, hw, k⟩ =>
  ⟨F, S, Γ, _, _, en, hw, fun d Γ' v H' q m en' hv => k .nx Γ' S σ H' q en', fun c Γ' H' q en' => k (.ex c) Γ' S σ H' q en'⟩
theorem ds_asg {tg : Expr} {w : DE} {g : TG} {gd : DG} {vs : List Nat} (he : PE X e (tD X.K W w)) (hg : PG X tg g) (ho : OkG X.K g gd vs) (hs : swapsWithSole [tg] e pos.line X.env = pure false := by rfl) (hw : swappedStores [tg] e X.env = pure none := by rfl) (h1 : (assignEach [tg] X.env).map (·.2) = [assign tg X.env] := by rfl) : PS X (.Assign [tg] e pos) (tS X.K W (wAsg w gd)) :=
  psImp (ps_asg he hg hs hw h1) fun D σ H ⟨F, S, Γ, Qd, en, hw, k⟩ => ⟨F, S, Γ, _, _, en, hw, fun d Γ' v H' q m en' hv => ho F S Γ' σ H' v d _ _ en' hv q fun Γ2 σ2 q2 e2 _ _ _ => k .nx Γ2 S σ2 H' q2 e2, fun c Γ' H' q en' => k (.ex c) Γ' S σ H' q en'⟩
/-- x = e, by any rule of the form -/
theorem ds_setBy {i : Nat} {te : TE} {w : DE} (h : PS X st (tAsg te (gName i))) (hi : ∀ σ H Q, tD X.K W w σ H Q → te σ H Q) : PS X st (tS X.K W (wSet i w)) :=
  psImp h fun D σ H ⟨F, S, Γ, Qd, en, hw, k⟩ => hi _ _ _ ⟨F, S, Γ, _, _, en, hw, fun d Γ' v H' q m en' hv => k .nx _ S _ H' q (en'.set i hv), fun c Γ' H' q en' => k (.ex c) Γ' S σ H' q en'⟩
theorem ds_set {i : Nat} {x : Str} {w : DE} {pos' : Pos} (hN : X.N.Nodup) (hi : X.N[i]? = some x) (hx : Loc X.env.scope x) (he : PE X e (tD X.K W w)) (hs : swapsWith e (some (.Name x pos')) pos.line X.env = pure false := by rfl) (hf : X.fn x = true ∨ X.env.scope.names.lookup x = some .local := by first | exact .inl rfl | exact .inr rfl | assumption) :
    PS X (.Assign [.Name x pos'] e pos) (tS X.K W (wSet i w)) := ds_setBy (ps_set hN hi hx he hs hf) fun _ _ _ h => h
theorem ds_ret {w : DE} (he : PE X e (tD X.K W w)) : PS X (.Return (some e) pos) (tS X.K W (wRet w)) := psImp (ps_ret he) fun D σ H ⟨F, S, Γ, Qd, en, hw, k⟩ =>
  ⟨F, S, Γ, _, _, en, hw, fun d Γ' v H' q m en' hv => k (.rt d) Γ' S σ H' q en' v hv, fun c Γ' H' q en' => k (.ex c) Γ' S σ H' q en'⟩
theorem ds_if {t : DB} {wa wb : DS} (hc : PT X c (tB X.K W t)) (ha : PSs X ss (tS X.K W wa)) (hb : PSs X tt (tS X.K W wb)) : PS X (.If c ss tt pos) (tS X.K W (wIfS t wa wb)) := psImp (ps_if hc ha hb) fun D σ H ⟨F, S, Γ, Qd, en, hw, k⟩ =>
  ⟨F, S, Γ, _, _, en, hw, fun b Γ' H' q m en' => by
    cases b with
    | true => exact ⟨F, S, Γ', Qd, en', q, k⟩
    | false => exact ⟨F, S, Γ', Qd, en', q, k⟩, fun c Γ' H' q en' => k (.ex c) Γ' S σ H' q en'⟩
theorem ds_raise {C : Str} (hc : X.calm = true) (tk : Takes X W) (hm : PMk X e (fun _ H Q => Q (.ref (He.ga X.K C)) none H)) : PS X (.Raise (some e) none pos) (tS X.K W (wRaise C)) := psImp (ps_raise hc tk hm) fun D σ H ⟨F, S, Γ, Qd, en, hw, k⟩ => k (.ex C) Γ S σ H hw en
/-! ### lists of one's own -/
/-- a new list that nobody holds yet -/
def tF (K : PySem.W.Frag) (W : WX) (w : DL) : TE := fun σ H Q => ∃ (F : Fm) (S : Hd) (Γ : Gm) (Qd : List PyData → Gm → Prop) (Ed : Ke), En K F S Γ σ H ∧ w Γ Qd Ed ∧
  (∀ ds Γ' p vs H', Qd ds Γ' → En K F (fun b => S b ∨ b = p) Γ' σ H' → H' p = some (.lst vs) → DaL K (off (fun b => S b ∨ b = p) H') vs ds → F.H0 p = none → ¬ F.T p → (∀ (j : Nat) (s : Sl), Γ'[j]? = some s → s.mut = true → σ[j]? ≠ some (some (.ref p))) → Q (.ref p) H') ∧
  (∀ c Γ' H', Ed c Γ' → En K F S Γ' σ H' → W (.ref (He.ga K c)) none σ H')
theorem En.nomut {K : PySem.W.Frag} {F : Fm} {S : Hd} {Γ : Gm} {σ : St} {H : Hp} {p : Addr} (h : En K F S Γ σ H) (n : H p = none) : ∀ (j : Nat) (s : Sl), Γ[j]? = some s → s.mut = true → σ[j]? ≠ some (some (.ref p)) := fun j s q m z => by
  obtain ⟨o, a, b⟩ := h.slot j s q
  rw [z] at a
  cases a
  cases s with
  | own0 ds => obtain ⟨x, vs, q1, _, _, _, q5, _⟩ := b; cases q1; rw [n] at q5; cases q5
  | twn m => obtain ⟨x, vs, q1, _, _, q5, _⟩ := b; cases q1; rw [n] at q5; cases q5
  | _ => cases m
theorem same_hide {S : Hd} {H : Hp} {p : Addr} {o : HO} (n : H p = none) : Same (off S H) (off (fun b => S b ∨ b = p) (upd H p o)) := fun b u q => by
  obtain ⟨n1, q⟩ := off_get q
  have nb : b ≠ p := ne_of_none q n
  rw [off_in (fun z => z.elim n1 nb), upd_ne nb]
  exact q
def wLstF (ws : DL) : DL := fun Γ Q E => ws Γ (fun ds Γ1 => ds.length ≤ sizeLine ∧ Q ds Γ1) E
theorem df_lst {ws : DL} (h : PA X es (tL X.K W ws)) : PE X (.List es pos) (tF X.K W (wLstF ws)) := peImp (pe_lst h) fun σ H Q ⟨F, S, Γ, Qd, Ed, e, hw, k, ke⟩ => ⟨F, S, Γ, _, Ed, e, hw, fun ds Γ1 vs H1 ⟨hz, q⟩ m1 e1 hv => ⟨by rw [hv.length]; exact hz, fun p hp =>
  k ds Γ1 p vs _ q (e1.hide hp) upd_same (hv.mono (same_hide hp)) (e1.fresh0 hp) (fun z => e1.hid p (e1.tin p z) hp) (e1.nomut hp)⟩, ke⟩
def wSetO (i : Nat) (w : DL) : DS := fun Γ k => w Γ (fun ds Γ1 => k .nx (Γ1.set i (.own ds))) (fun c Γ1 => k (.ex c) Γ1)
theorem En.setOwn0 {K : PySem.W.Frag} {F : Fm} {S : Hd} {Γ : Gm} {σ : St} {H : Hp} {p : Addr} {u : HO} {d : PyData} (h : En K F S Γ σ H) (i : Nat) (hp : S p) (h0 : F.H0 p = none) (ht : ¬ F.T p) (hv : H p = some u) (hd : Cont K (off S H) u d)
    (hn : ∀ (j : Nat) (s : Sl), j ≠ i → Γ[j]? = some s → s.mut = true → σ[j]? ≠ some (some (.ref p))) : En K F S (Γ.set i (.own0 d)) (σ.set i (some (.ref p))) H := by
  refine ⟨h.sub, h.tin, h.fr, h.hid, h.base, by rw [List.length_set, List.length_set]; exact h.len, fun j t q => ?_, fun j k s1 s2 a hjk q1 q2 m1 m2 r1 => ?_⟩
  · rcases set_at q with ⟨rfl, hi, rfl⟩ | ⟨hne, q⟩
    · exact ⟨_, by rw [getset, if_pos rfl, if_pos (by rw [← h.len]; exact hi)], p, _, rfl, hp, h0, ht, hv, hd⟩
    · obtain ⟨o', a, b⟩ := h.slot j t q
      exact ⟨o', by rw [getset, if_neg hne]; exact a, b⟩
  · rcases set_at q1 with ⟨rfl, hi, rfl⟩ | ⟨hne, q1⟩
    · rw [getset, if_pos rfl, if_pos (by rw [← h.len]; exact hi)] at r1
      cases r1
      rcases set_at q2 with ⟨e, _, _⟩ | ⟨hne2, q2⟩
      · exact absurd e hjk
      · rw [getset, if_neg hne2]
        exact hn k s2 (Ne.symm hne2) q2 m2
    · rw [getset, if_neg hne] at r1
      rcases set_at q2 with ⟨rfl, hi, rfl⟩ | ⟨hne2, q2⟩
      · rw [getset, if_pos rfl, if_pos (by rw [← h.len]; exact hi)]
        intro z
        cases z
        exact hn j s1 (Ne.symm hne) q1 m1 r1
      · rw [getset, if_neg hne2]
        exact h.inj j k s1 s2 a hjk q1 q2 m1 m2 r1
theorem En.setOwn {K : PySem.W.Frag} {F : Fm} {S : Hd} {Γ : Gm} {σ : St} {H : Hp} {p : Addr} {vs : List V} {ds : List PyData} (h : En K F S Γ σ H) (i : Nat) (hp : S p) (h0 : F.H0 p = none) (ht : ¬ F.T p) (hv : H p = some (.lst vs)) (hd : DaL K (off S H) vs ds)
    (hn : ∀ (j : Nat) (s : Sl), j ≠ i → Γ[j]? = some s → s.mut = true → σ[j]? ≠ some (some (.ref p))) : En K F S (Γ.set i (.own ds)) (σ.set i (some (.ref p))) H := h.setOwn0 i hp h0 ht hv ⟨vs, rfl, hd⟩ hn
theorem ds_setOBy {i : Nat} {te : TE} {w : DL} (h : PS X st (tAsg te (gName i))) (hi : ∀ σ H Q, tF X.K W w σ H Q → te σ H Q) : PS X st (tS X.K W (wSetO i w)) :=
  psImp h fun D σ H ⟨F, S, Γ, Qd, en, hw, k⟩ => hi _ _ _ ⟨F, S, Γ, _, _, en, hw, fun ds Γ' p vs H' q en' hp hd h0 ht hn => k .nx _ _ _ H' q (en'.setOwn i (.inr rfl) h0 ht hp hd fun j s _ => hn j s), fun c Γ' H' q en' => k (.ex c) Γ' S σ H' q en'⟩
theorem ds_setO {i : Nat} {x : Str} {w : DL} {pos' : Pos} (hN : X.N.Nodup) (hi : X.N[i]? = some x) (hx : Loc X.env.scope x) (he : PE X e (tF X.K W w)) (hs : swapsWith e (some (.Name x pos')) pos.line X.env = pure false := by rfl) (hf : X.fn x = true ∨ X.env.scope.names.lookup x = some .local := by first | exact .inl rfl | exact .inr rfl | assumption) :
    PS X (.Assign [.Name x pos'] e pos) (tS X.K W (wSetO i w)) := ds_setOBy (ps_set hN hi hx he hs hf) fun _ _ _ h => h
/-- the slot's list changes -/
theorem En.updOwn0 {K : PySem.W.Frag} {F : Fm} {S : Hd} {Γ : Gm} {σ : St} {H : Hp} {i : Nat} {p : Addr} {u : HO} {d0 d : PyData} (h : En K F S Γ σ H) (hi : Γ[i]? = some (.own0 d0)) (hs : σ[i]? = some (some (.ref p))) (hd : Cont K (off S H) u d) : En K F S (Γ.set i (.own0 d)) σ (upd H p u) := by
  obtain ⟨o, q1, p', vs0, e0, sp, h0, ht, hp, _⟩ := h.slot i _ hi
  rw [hs] at q1
  cases q1
  cases e0
  have hf := (h.forget i).free (o := u) sp h0 fun j s q m z => by
    rcases set_at q with ⟨rfl, _, rfl⟩ | ⟨hne, q⟩
    · cases m
    · exact h.inj i j _ _ _ hne hi q rfl m hs z
  have e : Same (off S H) (off S (upd H p u)) := fun b u q => by
    obtain ⟨n1, q⟩ := off_get q
    have nb : b ≠ p := fun z => n1 (by rw [z]; exact sp)
    rw [off_in n1, upd_ne nb]
    exact q
  have hil : i < σ.length := (List.getElem?_eq_some_iff.mp hs).1
  have r := hf.setOwn0 i sp h0 ht upd_same (hd.mono e) fun j s hj q m z => by
    rw [getset, if_neg (Ne.symm hj)] at q
    exact h.inj i j _ _ _ (Ne.symm hj) hi q rfl m hs z
  have e1 : (Γ.set i Sl.no).set i (.own0 d) = Γ.set i (.own0 d) := by rw [List.set_set]
  have e2 : σ.set i (some (.ref p)) = σ := by
    apply List.ext_getElem?
    intro j
    rw [getset]
    by_cases e : i = j
    · subst e; rw [if_pos rfl, if_pos hil, hs]
    · rw [if_neg e]
  rw [e1, e2] at r
  exact r
theorem En.updOwn {K : PySem.W.Frag} {F : Fm} {S : Hd} {Γ : Gm} {σ : St} {H : Hp} {i : Nat} {p : Addr} {vs : List V} {ds ds' : List PyData} (h : En K F S Γ σ H) (hi : Γ[i]? = some (.own ds)) (hs : σ[i]? = some (some (.ref p))) (hd : DaL K (off S H) vs ds') : En K F S (Γ.set i (.own ds')) σ (upd H p (.lst vs)) := h.updOwn0 hi hs ⟨vs, rfl, hd⟩
def wApp (i : Nat) (w : DE) : DS := fun Γ k => (∃ ds, Γ[i]? = some (Sl.own ds)) ∧ w Γ (fun d Γ1 => ∃ ds, Γ1[i]? = some (Sl.own ds) ∧ ds.length < sizeLine ∧ k .nx (Γ1.set i (.own (ds ++ [d])))) (fun c Γ1 => k (.ex c) Γ1)
theorem ds_app {i : Nat} {x : Str} {w : DE} {p1 p2 p3 : Pos} (hx : PE X (.Name x p1) (tVar i)) (he : PE X e (tD X.K W w)) (h : PS X (.Expr (.Call (.Attribute (.Name x p1) "append" p2) [e] [] p3) pos) (tDrop (tBM X.K "list" rAppend (tVar i) (tCons (tD X.K W w) tNil)))) :
    PS X (.Expr (.Call (.Attribute (.Name x p1) "append" p2) [e] [] p3) pos) (tS X.K W (wApp i w)) := psImp h fun D σ H ⟨F, S, Γ, Qd, en, ⟨⟨ds0, g0⟩, hw⟩, k⟩ => by
  obtain ⟨o, q1, p, _, rfl, sp, h0, ht, hp, vs0, rfl, hd0⟩ := en.slot i _ g0
  refine ⟨_, q1, .inl ⟨rfl, _, .of hp⟩, F, S, Γ, _, _, en, hw, fun d Γ1 v H1 ⟨ds, g1, hl, q⟩ m e1 hv => ?_, fun c Γ' H' q en' => k (.ex c) Γ' S σ H' q en'⟩
  obtain ⟨o, q2, p', _, e2, _, _, _, hp1, vs1, rfl, hd1⟩ := e1.slot i _ g1
  rw [q1] at q2
  cases q2
  cases e2
  refine ⟨p, vs1, v, rfl, rfl, hp1, by rw [hd1.length]; exact hl, ?_⟩
  exact k .nx _ S σ _ q (e1.updOwn g1 q1 (hd1.append (.cons hv .nil)))
def wExt (i : Nat) (w : DE) : DS := fun Γ k => (∃ ds, Γ[i]? = some (Sl.own ds)) ∧ w Γ (fun d Γ1 => ∃ ds es, d = .list es ∧ Γ1[i]? = some (Sl.own ds) ∧ ds.length + es.length ≤ sizeLine ∧ k .nx (Γ1.set i (.own (ds ++ es)))) (fun c Γ1 => k (.ex c) Γ1)
theorem ds_ext {i : Nat} {x : Str} {w : DE} {p1 p2 p3 : Pos} (hx : PE X (.Name x p1) (tVar i)) (he : PE X e (tD X.K W w)) (h : PS X (.Expr (.Call (.Attribute (.Name x p1) "extend" p2) [e] [] p3) pos) (tDrop (tBM X.K "list" rExtend (tVar i) (tCons (tD X.K W w) tNil)))) :
    PS X (.Expr (.Call (.Attribute (.Name x p1) "extend" p2) [e] [] p3) pos) (tS X.K W (wExt i w)) := psImp h fun D σ H ⟨F, S, Γ, Qd, en, ⟨⟨ds0, g0⟩, hw⟩, k⟩ => by
  obtain ⟨o, q1, p, _, rfl, sp, h0, ht, hp, vs0, rfl, hd0⟩ := en.slot i _ g0
  refine ⟨_, q1, .inl ⟨rfl, _, .of hp⟩, F, S, Γ, _, _, en, hw, fun d Γ1 v H1 ⟨ds, es, ed, g1, hl, q⟩ m e1 hv => ?_, fun c Γ' H' q en' => k (.ex c) Γ' S σ H' q en'⟩
  obtain ⟨o, q2, p', _, e2, _, _, _, hp1, vs1, rfl, hd1⟩ := e1.slot i _ g1
  rw [q1] at q2
  cases q2
  cases e2
  subst ed
  cases hv with
  | lst hb hz =>
    refine ⟨p, _, vs1, _, rfl, rfl, hp1, off_same _ _ hb, by rw [hd1.length, hz.length]; exact hl, ?_⟩
    exact k .nx _ S σ _ q (e1.updOwn g1 q1 (hd1.append hz))
/-- a list of one's own is given out: data from now on -/
theorem En.release {K : PySem.W.Frag} {F : Fm} {S : Hd} {Γ : Gm} {σ : St} {H : Hp} {i : Nat} {d : PyData} (h : En K F S Γ σ H) (hi : Γ[i]? = some (.own0 d)) : ∃ S', En K F S' (Γ.set i (.dat d)) σ H := by
  obtain ⟨o, q1, p, vs, rfl, sp, h0, ht, hp, hd⟩ := h.slot i _ hi
  have hil : i < Γ.length := (List.getElem?_eq_some_iff.mp hi).1
  have e : Same (off S H) (off (fun b => S b ∧ b ≠ p) H) := off_sub fun b z => z.1
  refine ⟨fun b => S b ∧ b ≠ p, fun b z => ⟨⟨(h.sub b z).1, fun q => (h.sub b z).2 (by rw [q]; exact h0)⟩, (h.sub b z).2⟩, fun b z => ⟨h.tin b z, fun q => ht (q ▸ z)⟩, fun b z => h.fr b z.1, fun b z => h.hid b z.1, h.base, by rw [List.length_set]; exact h.len, fun j s q => ?_, fun j k s1 s2 a hjk g1 g2 m1 m2 r1 => ?_⟩
  · rcases set_at q with ⟨rfl, _, rfl⟩ | ⟨hne, q⟩
    · refine ⟨_, q1, .ref p, rfl, ?_⟩
      have hp' : off (fun b => S b ∧ b ≠ p) H p = some vs := by rw [off_in (fun z => z.2 rfl)]; exact hp
      cases d with
      | list ds => obtain ⟨vs, rfl, hd⟩ := hd; exact .lst hp' (hd.mono e)
      | dict ps => obtain ⟨vs, rfl, hd⟩ := hd; exact .dic hp' (hd.mono e)
      | _ => exact hd.elim
    · obtain ⟨o', a, b⟩ := h.slot j s q
      refine ⟨o', a, ?_⟩
      cases s with
      | no => trivial
      | dat d => exact ⟨b.choose, b.choose_spec.1, b.choose_spec.2.mono e⟩
      | own0 l =>
        obtain ⟨x, us, z1, z2, z3, z4, z5, z6⟩ := b
        refine ⟨x, us, z1, ⟨z2, ?_⟩, z3, z4, z5, z6.mono e⟩
        rintro rfl
        exact h.inj i j _ _ _ hne hi q rfl rfl q1 (by rw [a, z1])
      | twn n =>
        obtain ⟨x, us, z1, z2, z3, z4, z5⟩ := b
        refine ⟨x, us, z1, ⟨z2, ?_⟩, z3, z4, z5⟩
        rintro rfl
        exact h.inj i j _ _ _ hne hi q rfl rfl q1 (by rw [a, z1])
      | scr => exact ⟨b.choose, b.choose_spec.1, b.choose_spec.2.mono e⟩
  · rcases set_at g1 with ⟨rfl, _, rfl⟩ | ⟨hne, g1⟩
    · cases m1
    · rcases set_at g2 with ⟨rfl, _, rfl⟩ | ⟨hne2, g2⟩
      · cases m2
      · exact h.inj j k s1 s2 a hjk g1 g2 m1 m2 r1
/-! ### given out -/
def wRel (i : Nat) (w : DS) : DS := fun Γ k => ∃ d, Γ[i]? = some (Sl.own0 d) ∧ w (Γ.set i (.dat d)) k
theorem ds_rel (i : Nat) {w : DS} (h : PS X st (tS X.K W w)) : PS X st (tS X.K W (wRel i w)) := psImp h fun D σ H ⟨F, S, Γ, Qd, en, ⟨ds, g, hw⟩, k⟩ => by
  obtain ⟨S', e'⟩ := en.release g
  exact ⟨F, S', _, Qd, e', hw, k⟩
theorem dss_rel (i : Nat) {w : DS} (h : PSs X sts (tS X.K W w)) : PSs X sts (tS X.K W (wRel i w)) := pssImp h fun D σ H ⟨F, S, Γ, Qd, en, ⟨ds, g, hw⟩, k⟩ => by
  obtain ⟨S', e'⟩ := en.release g
  exact ⟨F, S', _, Qd, e', hw, k⟩
/-! ### for -/
def forK (next : DS) (k : Out → Gm → Prop) : Out → Gm → Prop
  | .nx => fun Γ => next Γ k
  | .ct => fun Γ => next Γ k
  | .bk => fun Γ => k .nx Γ
  | .rt d => fun Γ => k (.rt d) Γ
  | .ex c => fun Γ => k (.ex c) Γ
def forW (gd : DG) (body : DS) : List PyData → DS
  | [] => fun Γ k => k .nx Γ
  | d :: ds => fun Γ k => gd d Γ fun Γa => body Γa (forK (forW gd body ds) k)
def wFor (wi : DL) (gd : DG) (body : DS) : DS := fun Γ k => wi Γ (fun ds Γ1 => forW gd body ds Γ1 k) (fun c Γ1 => k (.ex c) Γ1)
open Classical in
noncomputable def Fm.over (F : Fm) (S : Hd) (H : Hp) : Fm := ⟨fun b => if F.H0 b = none then off S H b else F.H0 b, F.S0, F.T⟩
theorem over_some {F : Fm} {S : Hd} {H : Hp} {b : Addr} {o : HO} (h : F.H0 b = some o) : (F.over S H).H0 b = some o := by
  show (if F.H0 b = none then off S H b else F.H0 b) = some o
  rw [if_neg (by rw [h]; intro z; cases z)]
  exact h
theorem over_none {F : Fm} {S : Hd} {H : Hp} {b : Addr} (h : F.H0 b = none) : (F.over S H).H0 b = off S H b := by
  show (if F.H0 b = none then off S H b else F.H0 b) = off S H b
  rw [if_pos h]
theorem over_null {F : Fm} {S : Hd} {H : Hp} {b : Addr} (h : (F.over S H).H0 b = none) : F.H0 b = none := by
  cases q : F.H0 b with
  | none => rfl
  | some o => rw [over_some q] at h; cases h
theorem En.over {K : PySem.W.Frag} {F : Fm} {S : Hd} {Γ : Gm} {σ : St} {H : Hp} (h : En K F S Γ σ H) : En K (F.over S H) S Γ σ H := by
  have g : ∀ a, S a → F.H0 a = none → (F.over S H).H0 a = none := fun a s z => by rw [over_none z, off_out s]
  refine ⟨fun b z => ⟨(h.sub b z).1, fun q => (h.sub b z).2 (over_null q)⟩, h.tin, fun b z => ?_, h.hid, fun b o nt q => ?_, h.len, fun j s q => ?_, h.inj⟩
  · rcases h.fr b z with q | q | q
    · exact .inl q
    · exact .inr (.inl q)
    · exact .inr (.inr (g b z q))
  · cases r : F.H0 b with
    | none => rw [over_none r] at q; exact off_same _ _ q
    | some u => rw [over_some r] at q; cases q; exact h.base b _ nt r
  · obtain ⟨o, a, b⟩ := h.slot j s q
    refine ⟨o, a, ?_⟩
    cases s with
    | no => trivial
    | dat d => exact b
    | own0 ds => obtain ⟨x, vs, z1, z2, z3, z4, z5⟩ := b; exact ⟨x, vs, z1, z2, g x z2 z3, z4, z5⟩
    | twn n => obtain ⟨x, vs, z1, z2, z3, z5⟩ := b; exact ⟨x, vs, z1, z2, z3.imp id (fun y => ⟨g x z2 y.1, y.2⟩), z5⟩
    | scr => exact b
theorem En.unover {K : PySem.W.Frag} {F : Fm} {S S' : Hd} {Γ : Gm} {σ : St} {H H' : Hp} (h : En K (F.over S H) S' Γ σ H') (h0 : ∀ b, F.S0 b → F.H0 b ≠ none) : En K F S' Γ σ H' := by
  refine ⟨fun b z => ⟨(h.sub b z).1, h0 b z⟩, h.tin, fun b z => ?_, h.hid, fun b o nt q => h.base b o nt (over_some q), h.len, fun j s q => ?_, h.inj⟩
  · rcases h.fr b z with q | q | q
    · exact .inl q
    · exact .inr (.inl q)
    · exact .inr (.inr (over_null q))
  · obtain ⟨o, a, b⟩ := h.slot j s q
    refine ⟨o, a, ?_⟩
    cases s with
    | no => trivial
    | dat d => exact b
    | own0 ds => obtain ⟨x, vs, z1, z2, z3, z4, z5⟩ := b; exact ⟨x, vs, z1, z2, over_null z3, z4, z5⟩
    | twn n => obtain ⟨x, vs, z1, z2, z3, z5⟩ := b; exact ⟨x, vs, z1, z2, z3.imp id (fun y => ⟨over_null y.1, y.2⟩), z5⟩
    | scr => exact b
/-- what was data ahead of a loop is data within -/
theorem over_stays {K : PySem.W.Frag} {F : Fm} {S S' : Hd} {Γ Γ' : Gm} {σ σ' : St} {H H' : Hp} (h : En K F S Γ σ H) (h' : En K (F.over S H) S' Γ' σ' H') : Same (off S H) (off S' H') := fun b o q => by
  obtain ⟨n, q⟩ := off_get q
  have nt : ¬ F.T b := fun z => n (h.tin b z)
  have e : (F.over S H).H0 b = some o := by
    cases r : F.H0 b with
    | none => rw [over_none r, off_in n]; exact q
    | some u =>
      have z := h.base b u nt r
      rw [q] at z
      cases z
      exact over_some r
  have n' : ¬ S' b := fun z => by
    rcases h'.fr b z with y | y | y
    · exact n (h.sub b y).1
    · exact nt y
    · rw [e] at y; cases y
  rw [off_in n']
  exact h'.base b o nt e
theorem ds_for {tg iter : Expr} {body : List Stmt} {wi : DL} {g : TG} {gd : DG} {vs : List Nat} {wb : DS} (hp : PassesOwn (model X.prog X.w) X.A X.env X.xe) (hc : X.calm = true) (hi : PI X tg iter (tI true X.K W wi)) (hg : PG X tg g) (ho : OkG X.K g gd vs) (hb : PSs X body (tS X.K W wb))
    (hs : ∀ x, foldedSetIterable iter X.env x = pure x := by intro _; rfl) : PS X (.For tg iter body [] pos) (tS X.K W (wFor wi gd wb)) := psImp (ps_for hp hc hi hg hb hs) fun D σ H ⟨F, S, Γ, Qd, en, hw, k⟩ => by
  refine ⟨F, S, Γ, _, _, en, hw, fun ds Γ1 H1 J q m1 e1 wk => ?_, fun c Γ' H' q en' => k (.ex c) Γ' S σ H' q en'⟩
  have h0 : ∀ b, F.S0 b → F.H0 b ≠ none := fun b z => (en.sub b z).2
  refine ⟨fun i m σ' H' => m = ds.length - i ∧ i ≤ ds.length ∧ ∃ S' Γi, En X.K (F.over S H1) S' Γi σ' H' ∧ forW gd wb (ds.drop i) Γi Qd, ⟨ds.length, rfl, Nat.zero_le _, S, Γ1, e1.over, q⟩, ?_⟩
  rintro i m σ' H' ⟨rfl, hi, S', Γi, ei, hk⟩
  obtain ⟨wk1, wk2⟩ := wk _ S' Γi σ' H' (over_stays e1 ei) (fun z => by cases z) ei
  by_cases hlt : i < ds.length
  · right
    have hd : ds[i]? = some ds[i] := List.getElem?_eq_getElem hlt
    obtain ⟨go, yl⟩ := wk1 i _ hd
    refine ⟨go, fun σ'' H'' => ∃ S'' Γj, En X.K (F.over S H1) S'' Γj σ'' H'' ∧ forW gd wb (ds.drop (i + 1)) Γj Qd, ?_, ?_⟩
    · rintro σ'' H'' ⟨S'', Γj, r⟩
      exact ⟨ds.length - (i + 1), by omega, rfl, hlt, S'', Γj, r⟩
    · intro x H3 y
      obtain ⟨rfl, hx⟩ := yl x H3 y
      rw [List.drop_eq_getElem_cons hlt] at hk
      refine ho _ S' Γi σ' H3 x ds[i] _ _ ei hx hk fun Γa σa qa ea _ _ _ => ⟨F.over S H1, S', Γa, _, ea, qa, fun o Γ' S'' σ'' H'' q' e' => ?_⟩
      cases o with
      | nx => exact ⟨S'', Γ', e', q'⟩
      | ct => exact ⟨S'', Γ', e', q'⟩
      | bk => exact k .nx Γ' S'' σ'' H'' q' (e'.unover h0)
      | rt d => exact k (.rt d) Γ' S'' σ'' H'' q' (e'.unover h0)
      | ex c => exact k (.ex c) Γ' S'' σ'' H'' q' (e'.unover h0)
  · left
    have e : i = ds.length := by omega
    subst e
    rw [List.drop_length] at hk
    exact ⟨wk2, k .nx Γi S' σ' H' hk (ei.unover h0)⟩
/-! ### while -/
def whK (I : Nat → Gm → Prop) (m : Nat) (k : Out → Gm → Prop) : Out → Gm → Prop
  | .nx => fun Γ => ∃ m', m' < m ∧ I m' Γ
  | .ct => fun Γ => ∃ m', m' < m ∧ I m' Γ
  | .bk => fun Γ => k .nx Γ
  | .rt d => fun Γ => k (.rt d) Γ
  | .ex c => fun Γ => k (.ex c) Γ
def wWhile (t : DB) (body : DS) : DS := fun Γ k => ∃ I : Nat → Gm → Prop, (∃ m, I m Γ) ∧ ∀ m Γ, I m Γ → t Γ (fun b Γ1 => if b = true then body Γ1 (whK I m k) else k .nx Γ1) (fun c Γ1 => k (.ex c) Γ1)
theorem ds_while {t : DB} {body : List Stmt} {wb : DS} (h : PS X (.While c body [] pos) (tWhile (tB X.K W t) (tS X.K W wb))) : PS X (.While c body [] pos) (tS X.K W (wWhile t wb)) := psImp h fun D σ H ⟨F, S, Γ, Qd, en, ⟨I, ⟨m0, i0⟩, hI⟩, k⟩ => by
  refine ⟨fun m σ' H' => ∃ S' Γ', En X.K F S' Γ' σ' H' ∧ I m Γ', ⟨m0, S, Γ, en, i0⟩, ?_⟩
  rintro m σ' H' ⟨S', Γ', e', hi⟩
  refine ⟨F, S', Γ', _, _, e', hI m Γ' hi, fun b Γ1 H1 q m1 e1 => ?_, fun c Γ1 H1 q e1 => k (.ex c) Γ1 S' σ' H1 q e1⟩
  cases b with
  | true =>
    refine ⟨fun σ'' H'' => ∃ m', m' < m ∧ ∃ S'' Γ'', En X.K F S'' Γ'' σ'' H'' ∧ I m' Γ'', fun σ'' H'' ⟨m', l, z⟩ => ⟨m', l, z⟩, F, S', Γ1, _, e1, q, fun o Γ2 S'' σ'' H'' q' e2 => ?_⟩
    cases o with
    | nx => obtain ⟨m', l, i'⟩ := q'; exact ⟨m', l, S'', Γ2, e2, i'⟩
    | ct => obtain ⟨m', l, i'⟩ := q'; exact ⟨m', l, S'', Γ2, e2, i'⟩
    | bk => exact k .nx Γ2 S'' σ'' H'' q' e2
    | rt d => exact k (.rt d) Γ2 S'' σ'' H'' q' e2
    | ex c => exact k (.ex c) Γ2 S'' σ'' H'' q' e2
  | false => exact k .nx Γ1 S' σ' H1 q e1
end
/-! ### a def -/
def startG (N : List Str) (ds : List PyData) : Gm := ds.map Sl.dat ++ List.replicate (N.length - ds.length) Sl.no
def endO (Q : PyData → Prop) (E : Str → Prop) : Out → Gm → Prop
  | .nx => fun _ => Q .none
  | .rt d => fun _ => Q d
  | .ex c => fun _ => E c
  | _ => fun _ => False
theorem DaL.slots {K : PySem.W.Frag} {F : Fm} {S : Hd} {H : Hp} {vs : List V} {ds : List PyData} (h : DaL K (off S H) vs ds) (N : List Str) {i : Nat} {s : Sl} (q : (startG N ds)[i]? = some s) : ∃ o, (L2.start N vs)[i]? = some o ∧ SlOk K F S H s o := by
  unfold startG at q
  unfold L2.start
  have hl := h.length
  by_cases hi : i < ds.length
  · rw [List.getElem?_append_left (by rw [List.length_map]; exact hi), List.getElem?_map, List.getElem?_eq_getElem hi] at q
    cases q
    obtain ⟨v, h1, h2⟩ := h.get (List.getElem?_eq_getElem hi)
    refine ⟨some v, ?_, v, rfl, h2⟩
    rw [List.getElem?_append_left (by rw [List.length_map]; omega), List.getElem?_map, h1]
    rfl
  · rw [List.getElem?_append_right (by rw [List.length_map]; omega), List.getElem?_replicate] at q
    split at q
    · rename_i hlt
      cases q
      refine ⟨none, ?_, trivial⟩
      rw [List.getElem?_append_right (by rw [List.length_map]; omega), List.getElem?_replicate, if_pos (by rw [List.length_map] at hlt ⊢; rw [hl]; exact hlt)]
    · cases q
theorem startG_mut (N : List Str) (ds : List PyData) {i : Nat} {s : Sl} (q : (startG N ds)[i]? = some s) : s.mut = false := by
  unfold startG at q
  by_cases hi : i < ds.length
  · rw [List.getElem?_append_left (by rw [List.length_map]; exact hi), List.getElem?_map, List.getElem?_eq_getElem hi] at q
    cases q
    rfl
  · rw [List.getElem?_append_right (by rw [List.length_map]; omega), List.getElem?_replicate] at q
    split at q
    · cases q; rfl
    · cases q
theorem en_start {K : PySem.W.Frag} {S : Hd} {H : Hp} {vs : List V} {ds : List PyData} (hS : Hid S H) (h : DaL K (off S H) vs ds) (N : List Str) : En K ⟨H, S, fun _ => False⟩ S (startG N ds) (L2.start N vs) H := by
  refine ⟨fun b z => ⟨z, hS b z⟩, fun b z => z.elim, fun b z => .inl z, hS, fun b o _ q => q, ?_, fun i s q => h.slots N q, fun i j s t a _ q1 _ m1 => ?_⟩
  · unfold startG L2.start
    rw [List.length_append, List.length_append, List.length_map, List.length_map, List.length_replicate, List.length_replicate, h.length]
  · rw [startG_mut N ds q1] at m1
    cases m1
section
variable {P : Program} {w : World} {K : PySem.W.Frag} {mg : Str → Option Value} {base : Heap} {x qual : Str} {params : Arguments} {body : List Stmt} {scope : Scope} {f : Addr} {fd : FuncData}
abbrev Wd (E : XK) : WX := fun cls d _ H => E cls d H
/-- the context of a def's body -/
abbrev bX (P : Program) (w : World) (K : PySem.W.Frag) (mg : Str → Option Value) (base : Heap) (N : List Str) (qual : Str) (scope : Scope) (f : Addr) (cdv : Value) (A : Around) (outer : List Env) (s : Shared) (H : Hp) (E : XK) : Cx := cxOf (L2.CX P w) P w K mg base N qual scope f cdv A outer s H E
theorem bTakes {N : List Str} {cdv : Value} {A : Around} {outer : List Env} {s : Shared} {H : Hp} {E : XK} : Takes (bX P w K mg base N qual scope f cdv A outer s H E) (Wd E) := takes_of rfl rfl rfl rfl
theorem bPasses {N : List Str} {cdv : Value} {A : Around} {outer : List Env} {s : Shared} {H : Hp} {E : XK} : PassesOwn (model P w) (bX P w K mg base N qual scope f cdv A outer s H E).A (bX P w K mg base N qual scope f cdv A outer s H E).env (bX P w K mg base N qual scope f cdv A outer s H E).xe :=
  passes_of (X := bX P w K mg base N qual scope f cdv A outer s H E) rfl
theorem fn_ok {N ps : List Str} {k : Nat} {sp : DSp} (F : FunD K x qual params body scope [] [] f fd) (Sc : FnScope N ps scope) (len : ∀ ds Q E, sp ds Q E → ds.length = ps.length) (wb : DS)
    (hb : ∀ (cdv : Value) (A : Around) (outer : List Env) (s : Shared) (H : Hp) (E : XK), Room k (A.deeper (PyProof.Rows.envOfC qual scope s.heap.objs.size f cdv)) → PSs (bX P w K mg base N qual scope f cdv A outer s H E) body (tS K (Wd E) wb))
    (hd : ∀ ds Q E, sp ds Q E → wb (startG N ds) (endO Q E)) : FnOk P w K mg base (L2.CX P w) (k + 1) f fd ps (spD K sp) := by
  refine F.ok Sc (fun vs H Q E ⟨S, ds, Qd, Ed, hS, hv, h, _⟩ => by rw [hv.length]; exact len ds Qd Ed h) fun cdv A outer s H vs Q E hr h => ⟨_, hb cdv A outer s H E hr, ?_⟩
  obtain ⟨S, ds, Qd, Ed, hS, hv, h, kq, ke⟩ := h
  refine ⟨⟨H, S, fun _ => False⟩, S, startG N ds, _, en_start hS hv N, hd ds Qd Ed h, fun o Γ' S' σ' H' q e' => ?_⟩
  have sm : Same H H' := fun b u z => e'.base b u (fun y => y) z
  have so : ∀ {v : V} {d : PyData}, Da K (off S' H') v d → Da K (off S H') v d := fun z => z.mono (off_sub fun b y => (e'.sub b y).1)
  cases o with
  | nx => exact kq .none .non H' q sm .non
  | rt d => exact fun v hv' => kq d v H' q sm (so hv')
  | ex c => exact ke c H' q sm
  | bk => exact q.elim
  | ct => exact q.elim
end
end Dt

/-! Dat4: what operators and built-ins do with data. -/
namespace L2
open PySem PySem.Spec PyProof.Rows
/-! ### tuple * 1, tuple * 0 -/
theorem tuple_mul1 (l : Addr) (items : Array Value) (n : Nat) (sl : Array (Option Value)) (dd : Option Addr) (u : Tok) :
    Meets (Builtin.«tuple.__mul__» ⟨[.ref l, .int 1 u], []⟩) (fun _ R s => s.heap.get? l = some { cls := .type "tuple", dict := dd, data := .seq items n, slots := sl } ∧
      R (.ok (.ret (Value.ref l))) s) :=
  .of_wp fun prog w A R s h => by
    obtain ⟨hp, g, d, tk, os⟩ := s
    obtain ⟨hl, h⟩ := h
    have f1 := AutoSeq1.idx_int
    have c1 : (items.isEmpty || (1 : Int) == 1) = true := by simp
    wp_walk using wpAny_loadPart' hl
    repeat (first
      | (refine wpAny_ite_false (decide_eq_false (by decide)) ?_; wp_walk using wpAny_loadPart' hl)
      | (refine wpAny_ite_true (decide_eq_true c1) ?_; wp_walk using wpAny_loadPart' hl))
    all_goals first | exact ⟨_, rfl, h⟩ | skip
theorem tuple_mul0 (l : Addr) (items : Array Value) (n : Nat) (sl : Array (Option Value)) (dd : Option Addr) (u : Tok) (hi : items.isEmpty = false) :
    Meets (Builtin.«tuple.__mul__» ⟨[.ref l, .int 0 u], []⟩) (fun _ R s => s.heap.get? l = some { cls := .type "tuple", dict := dd, data := .seq items n, slots := sl } ∧
      R (.ok (.ret (Value.ref s.heap.objs.size))) { s with heap := s.heap.push { cls := Value.type "tuple", data := Data.seq #[] }, toks := s.toks }) :=
  .of_wp fun prog w A R s h => by
    obtain ⟨hp, g, d, tk, os⟩ := s
    obtain ⟨hl, h⟩ := h
    have f1 := AutoSeq1.idx_int
    have c1 : (items.isEmpty || (0 : Int) == 1) = false := by rw [hi]; rfl
    have c2 : (decide ((0 : Int) ≤ 0) || items.isEmpty) = true := by simp
    have c5 : ¬ ((#[] : Array Value).size > sizeLine) := by simp
    wp_walk using wpAny_loadPart' hl
    repeat (first
      | (refine wpAny_ite_false (decide_eq_false (by rw [c1]; exact Bool.false_ne_true)) ?_; wp_walk using wpAny_loadPart' hl)
      | (refine wpAny_ite_true (decide_eq_true c2) ?_; wp_walk using wpAny_loadPart' hl)
      | (refine wpAny_ite_false (decide_eq_false c5) ?_; wp_walk using wpAny_loadPart' hl)
      | (refine wpAny_ite_false (decide_eq_false (by decide)) ?_; wp_walk using wpAny_loadPart' hl))
    all_goals first | exact ⟨_, rfl, h⟩ | skip
/-- t * k, k from 0 on -/
def rRepA (K : PySem.W.Frag) : R2 := fun x y H Q => ∃ l k xs, x = .ref l ∧ y = .int k ∧ SqT K H l xs ∧ xs ≠ [] ∧ 0 ≤ k ∧ k ≤ 1000 ∧ xs.length ≤ 1000 ∧ (k = 1 → Q (.ref l) H) ∧ (k ≠ 1 → ∀ p, H p = none → Q (.ref p) (upd H p (.tup (List.replicate k.toNat xs).flatten)))
section
variable {X : Cx}
theorem op_repA : OpR X (binaryOp .Mult) (rRepA X.K) := by
  intro pins s σ H x y v u Q I rx ry h
  obtain ⟨l, k, xs, rfl, rfl, hT, hne, h1, h2, hz, q1, q2⟩ := h
  by_cases hk : 2 ≤ k
  · exact op_repT pins s σ H _ _ v u Q I rx ry ⟨l, k, xs, rfl, rfl, hT, hne, hk, h2, hz, q2 (by omega)⟩
  cases rx
  obtain ⟨t, rfl⟩ := ry
  obtain ⟨its, r, ⟨⟨cls, dd, data, sl⟩, ho, hc, n, hd⟩, hs⟩ := I.tuple hT
  simp only at hc hd
  subst hc hd
  have hle : its.length = xs.length := r.length.symm
  have hn : its ≠ [] := fun e => hne (by
    rw [e] at hle
    exact List.eq_nil_of_length_eq_zero hle.symm)
  have hi : its.toArray.isEmpty = false := by
    cases its with
    | nil => exact absurd rfl hn
    | cons a b => rfl
  by_cases hk1 : k = 1
  · subst hk1
    refine wpAny_binaryOp_repeat_ref (T := "tuple") (U := "int") (by decide) ⟨_, ho, rfl⟩ (fun s' => typeIs_int s' 1 t) noFill_tuple_mul F.fills_int_mul F.slot_int_rmul repeat_tuple F.slot_int_index.lookup
      (call_meets F.slot_int_rmul (typeIs_int s 1 t) F.entry_int_rmul (F.args_int_rmul_2 _ _) (int_rmul_tuple 1 t l its.toArray n dd sl)
        ⟨ho, rfl, ⟨_, ho, rfl⟩, call_meets F.slot_tuple_mul ⟨_, ho, rfl⟩ F.entry_tuple_mul (F.args_tuple_mul_2 _ _) (tuple_mul1 l its.toArray n sl dd t) ⟨ho, ?_⟩⟩)
    exact ⟨.ref l, H, I, rfl, q1 rfl⟩
  · have hk0 : k = 0 := by omega
    subst hk0
    refine wpAny_binaryOp_repeat_ref (T := "tuple") (U := "int") (by decide) ⟨_, ho, rfl⟩ (fun s' => typeIs_int s' 0 t) noFill_tuple_mul F.fills_int_mul F.slot_int_rmul repeat_tuple F.slot_int_index.lookup
      (call_meets F.slot_int_rmul (typeIs_int s 0 t) F.entry_int_rmul (F.args_int_rmul_2 _ _) (int_rmul_tuple 0 t l its.toArray n dd sl)
        ⟨ho, rfl, ⟨_, ho, rfl⟩, call_meets F.slot_tuple_mul ⟨_, ho, rfl⟩ F.entry_tuple_mul (F.args_tuple_mul_2 _ _) (tuple_mul0 l its.toArray n sl dd t hi) ⟨ho, ?_⟩⟩)
    refine ⟨.ref s.heap.objs.size, _, I.laid (t' := s.toks) (o := .tup []) (fun b ob q => Heap.get?_push_of_some _ q) (Nat.le_refl _) ?_, rfl, q2 (by decide) _ (I.hok.fresh (Nat.le_refl _))⟩
    exact ⟨Nat.zero_le _, [], .nil, IsTup.new _ _⟩
end
end L2
namespace Dt
open PySem L2
section
variable {X : Cx} {K : PySem.W.Frag}
/-! ### ints -/
def IntOp (g : Int → Int → PyData) (C : Int → Int → Prop) : PyData → PyData → PyData → Prop
  | .int i, .int j, d => C i j ∧ d = g i j
  | _, _, _ => False
def IntOp0 (g : Int → Int → PyData) : PyData → PyData → PyData → Prop
  | .int i, .int j, d => d = g i j
  | _, _, _ => False
def vI : PyData → V
  | .int i => .int i
  | .bool b => .bl b
  | _ => .non
theorem okr_i0 {g : Int → Int → PyData} {gv : Int → Int → V} (hg : ∀ i j H, Da K H (gv i j) (g i j)) : OkR K (rI0 gv) (IntOp0 g) := fun S H x y dx dy d Q hS ho hx hy k => by
  cases dx with
  | int i =>
    cases dy with
    | int j =>
      cases ho
      exact ⟨i, j, hx.int, hy.int, k _ H (.refl H) (hg _ _ _)⟩
    | _ => exact ho.elim
  | _ => exact ho.elim
theorem okr_i {g : Int → Int → PyData} {gv : Int → Int → V} {C C' : Int → Int → Prop} (hC : ∀ i j, C i j → C' i j) (hg : ∀ i j H, Da K H (gv i j) (g i j)) : OkR K (rI C' gv) (IntOp g C) := fun S H x y dx dy d Q hS ho hx hy k => by
  cases dx with
  | int i =>
    cases dy with
    | int j =>
      obtain ⟨hc, rfl⟩ := ho
      exact ⟨i, j, hx.int, hy.int, hC _ _ hc, k _ H (.refl H) (hg _ _ _)⟩
    | _ => exact ho.elim
  | _ => exact ho.elim
abbrev SubD := IntOp0 fun i j => .int (i - j)
abbrev LtD := IntOp0 fun i j => .bool (decide (i < j))
abbrev LeD := IntOp0 fun i j => .bool (decide (i ≤ j))
abbrev GtD := IntOp0 fun i j => .bool (decide (j < i))
abbrev GeD := IntOp0 fun i j => .bool (decide (j ≤ i))
abbrev ModD := IntOp (fun i j => .int (i % j)) fun _ j => 0 < j
abbrev FdivD := IntOp (fun i j => .int (i / j)) fun _ j => 0 < j ∧ j < 1073741824
abbrev PowD := IntOp (fun i j => .int (i ^ j.toNat)) CPow
theorem ok_sub : OkR K (rI0 fun i j => .int (i - j)) SubD := okr_i0 fun _ _ _ => .int _
theorem ok_lt : OkR K (rI0 fun i j => .bl (decide (i < j))) LtD := okr_i0 fun _ _ _ => .bl _
theorem ok_le : OkR K (rI0 fun i j => .bl (decide (i ≤ j))) LeD := okr_i0 fun _ _ _ => .bl _
theorem ok_gt : OkR K (rI0 fun i j => .bl (decide (j < i))) GtD := okr_i0 fun _ _ _ => .bl _
theorem ok_ge : OkR K (rI0 fun i j => .bl (decide (j ≤ i))) GeD := okr_i0 fun _ _ _ => .bl _
theorem ok_mod : OkR K (rI (fun _ j => 0 < j) fun i j => .int (i % j)) ModD := okr_i (fun _ _ h => h) fun _ _ _ => .int _
theorem ok_fdiv : OkR K (rI CDiv fun i j => .int (i / j)) FdivD := okr_i (fun _ _ h => h) fun _ _ _ => .int _
theorem ok_pow : OkR K (rI CPow fun i j => .int (i ^ j.toNat)) PowD := okr_i (fun _ _ h => h) fun _ _ _ => .int _
/-! ### + -/
def AddD : PyData → PyData → PyData → Prop
  | .int i, .int j, d => d = .int (i + j)
  | .list xs, .list ys, d => d = .list (xs ++ ys) ∧ xs.length + ys.length ≤ sizeLine
  | .tuple xs, .tuple ys, d => d = .tuple (xs ++ ys) ∧ xs.length + ys.length ≤ sizeLine
  | .str x, .str y, d => d = .str (x ++ y) ∧ x.length + y.length ≤ sizeLine
  | _, _, _ => False
def rAdd4 (K : PySem.W.Frag) : R2 := fun x y H Q => (rI0 fun i j => .int (i + j)) x y H Q ∨ (rCat x y H Q ∨ (rCatA K x y H Q ∨ ∃ i j, x = .str i ∧ y = .str j ∧ i.length + j.length ≤ sizeLine ∧ Q (.str (i ++ j)) H))
theorem op_add4 : OpR X (binaryOp .Add) (rAdd4 X.K) := op_add.or (op_cat.or (op_catA.or op_add_str))
theorem ok_add : OkR K (rAdd4 K) AddD := fun S H x y dx dy d Q hS ho hx hy k => by
  cases dx with
  | int i =>
    cases dy with
    | int j => cases ho; exact .inl ⟨i, j, hx.int, hy.int, k _ H (.refl H) (.int _)⟩
    | _ => exact ho.elim
  | list xs =>
    cases dy with
    | list ys =>
      obtain ⟨rfl, hz⟩ := ho
      obtain ⟨a, vs, rfl, h1, h2⟩ := hx.list
      obtain ⟨b, ws, rfl, h3, h4⟩ := hy.list
      exact .inr (.inl ⟨a, b, vs, ws, rfl, rfl, h1, h3, by rw [h2.length, h4.length]; exact hz, fun p hp => k _ _ (same_new hp) (.newL hS hp (h2.append h4))⟩)
    | _ => exact ho.elim
  | tuple xs =>
    cases dy with
    | tuple ys =>
      obtain ⟨rfl, hz⟩ := ho
      obtain ⟨a, vs, rfl, h1, h2⟩ := hx.tuple
      obtain ⟨b, ws, rfl, h3, h4⟩ := hy.tuple
      have cx : ∀ z, Dr K S H (.ref z) (.tuple xs) → Da K (off S H) (.ref z) (.tuple xs) := fun z q => by
        rcases q with q | ⟨_, _, _, _, e⟩
        · exact q
        · exact e.elim
      have cy : ∀ z, Dr K S H (.ref z) (.tuple ys) → Da K (off S H) (.ref z) (.tuple ys) := fun z q => by
        rcases q with q | ⟨_, _, _, _, e⟩
        · exact q
        · exact e.elim
      refine .inr (.inr (.inl ⟨a, b, vs, ws, rfl, rfl, h1, h3, by rw [h2.length, h4.length]; exact hz, fun e => ?_, fun _ e => ?_, fun _ _ p hp => k _ _ (same_new hp) (.newT hS hp (h2.append h4))⟩))
      · subst e
        cases h2
        exact k _ H (.refl H) (cy _ hy)
      · subst e
        cases h4
        rw [List.append_nil] at k
        exact k _ H (.refl H) (cx _ hx)
    | _ => exact ho.elim
  | str i =>
    cases dy with
    | str j =>
      obtain ⟨rfl, hz⟩ := ho
      exact .inr (.inr (.inr ⟨i, j, hx.str, hy.str, hz, k _ H (.refl H) (.str _)⟩))
    | _ => exact ho.elim
  | _ => cases dy <;> exact ho.elim
/-! ### * -/
def MulD : PyData → PyData → PyData → Prop
  | .int i, .int j, d => d = .int (i * j) ∧ CMul i j
  | .list xs, .int k, d => d = .list (List.replicate k.toNat xs).flatten ∧ -(2 ^ 63) ≤ k ∧ k < 2 ^ 63 ∧ xs.length * k.toNat ≤ sizeLine
  | .tuple xs, .int k, d => d = .tuple (List.replicate k.toNat xs).flatten ∧ xs ≠ [] ∧ 0 ≤ k ∧ k ≤ 1000 ∧ xs.length ≤ 1000
  | _, _, _ => False
def rMul3 (K : PySem.W.Frag) : R2 := fun x y H Q => (rI CMul fun i j => .int (i * j)) x y H Q ∨ (rRep x y H Q ∨ rRepA K x y H Q)
theorem op_mul3 : OpR X (binaryOp .Mult) (rMul3 X.K) := op_mul.or (op_rep.or op_repA)
theorem DaL.rep {H : Hp} {vs : List V} {ds : List PyData} (h : DaL K H vs ds) : ∀ k : Nat, DaL K H (List.replicate k vs).flatten (List.replicate k ds).flatten
  | 0 => .nil
  | k + 1 => by
    rw [List.replicate_succ, List.replicate_succ, List.flatten_cons, List.flatten_cons]
    exact h.append (DaL.rep h k)
theorem ok_mul : OkR K (rMul3 K) MulD := fun S H x y dx dy d Q hS ho hx hy k => by
  cases dx with
  | int i =>
    cases dy with
    | int j =>
      obtain ⟨rfl, hc⟩ := ho
      exact .inl ⟨i, j, hx.int, hy.int, hc, k _ H (.refl H) (.int _)⟩
    | _ => exact ho.elim
  | list xs =>
    cases dy with
    | int j =>
      obtain ⟨rfl, h1, h2, hz⟩ := ho
      obtain ⟨a, vs, rfl, h3, h4⟩ := hx.list
      exact .inr (.inl ⟨a, j, vs, rfl, hy.int, h3, h1, h2, by rw [h4.length]; exact hz, fun p hp => k _ _ (same_new hp) (.newL hS hp (h4.rep _))⟩)
    | _ => exact ho.elim
  | tuple xs =>
    cases dy with
    | int j =>
      obtain ⟨rfl, hne, h1, h2, hz⟩ := ho
      have cx : ∀ z, Dr K S H (.ref z) (.tuple xs) → Da K (off S H) (.ref z) (.tuple xs) := fun z q => by
        rcases q with q | ⟨_, _, _, _, e⟩
        · exact q
        · exact e.elim
      obtain ⟨a, vs, rfl, h3, h4⟩ := hx.tuple
      refine .inr (.inr ⟨a, j, vs, rfl, hy.int, h3, ?_, h1, h2, by rw [h4.length]; exact hz, fun e => ?_, fun _ p hp => k _ _ (same_new hp) (.newT hS hp (h4.rep _))⟩)
      · intro e
        subst e
        cases h4
        exact hne rfl
      · subst e
        have e1 : (List.replicate (1 : Int).toNat xs).flatten = xs := by simp
        rw [e1] at k
        exact k _ H (.refl H) (cx _ hx)
    | _ => exact ho.elim
  | _ => cases dy <;> exact ho.elim
/-! ### ==, != -/
def EqD (x y d : PyData) : Prop := d = .bool (PyData.eqv x y) ∧ SeqAt.shaped x = true ∧ SeqAt.shaped y = true
def NeD (x y d : PyData) : Prop := d = .bool (!PyData.eqv x y) ∧ SeqAt.shaped x = true ∧ SeqAt.shaped y = true
theorem ok_eq : OkR K (rEqD K) EqD := fun S H x y dx dy d Q hS ⟨e, hx1, hy1⟩ hx hy k => by
  subst e
  exact ⟨dx, dy, hx.dp (SeqAt.canLay_of_shaped hx1), hy.dp (SeqAt.canLay_of_shaped hy1), hx1, hy1, k _ H (.refl H) (.bl _)⟩
theorem ok_ne : OkR K (rNeD K) NeD := fun S H x y dx dy d Q hS ⟨e, hx1, hy1⟩ hx hy k => by
  subst e
  exact ⟨dx, dy, hx.dp (SeqAt.canLay_of_shaped hx1), hy.dp (SeqAt.canLay_of_shaped hy1), hx1, hy1, k _ H (.refl H) (.bl _)⟩
/-! ### is None -/
def isNone : PyData → Bool
  | .none => true
  | _ => false
def IsND (x y d : PyData) : Prop := y = .none ∧ d = .bool (isNone x)
def NotND (x y d : PyData) : Prop := y = .none ∧ d = .bool (!isNone x)
theorem none_iff {S : Hd} {H : Hp} {v : V} {d : PyData} (h : Dr K S H v d) : decide (v = .non) = isNone d := by
  rcases h with h | ⟨a, u, rfl, _, h2⟩
  · cases h <;> rfl
  · cases d <;> first | rfl | exact h2.elim
theorem ok_isN : OkR K (fun x y H Q => y = .non ∧ Q (.bl (decide (x = .non))) H) IsND := fun S H x y dx dy d Q hS ⟨e, e2⟩ hx hy k => by
  subst e e2
  exact ⟨hy.none, by rw [none_iff hx]; exact k _ H (.refl H) (.bl _)⟩
theorem ok_notN : OkR K (fun x y H Q => y = .non ∧ Q (.bl (!decide (x = .non))) H) NotND := fun S H x y dx dy d Q hS ⟨e, e2⟩ hx hy k => by
  subst e e2
  exact ⟨hy.none, by rw [none_iff hx]; exact k _ H (.refl H) (.bl _)⟩
/-! ### in -/
def flatD : PyData → Bool
  | .none => true
  | .bool _ => true
  | .int _ => true
  | .str _ => true
  | _ => false
def inD (x : PyData) (ds : List PyData) : Bool := ds.any fun z => PyData.eqv z x
def InD (neg : Bool) : PyData → PyData → PyData → Prop := fun x y d => match y with
  | .list ds => d = .bool (neg ^^ inD x ds) ∧ SeqAt.shaped x = true ∧ SeqAt.shaped (.list ds) = true
  | .tuple ds => d = .bool (neg ^^ inD x ds) ∧ flatD x = true ∧ ds.all flatD = true
  | _ => False
theorem flat_of {H : Hp} {v : V} {d : PyData} (h : Da K H v d) (f : flatD d = true) : flatV v = true := by
  cases h <;> first | rfl | cases f
theorem flats_of {H : Hp} : ∀ {vs : List V} {ds : List PyData}, DaL K H vs ds → ds.all flatD = true → vs.all flatV = true
  | _, _, .nil, _ => rfl
  | _, _, .cons h t, f => by
    rw [List.all_cons, Bool.and_eq_true] at f ⊢
    exact ⟨flat_of h f.1, flats_of t f.2⟩
theorem eqv_of {H : Hp} {v u : V} {d e : PyData} (h : Da K H v d) (h' : Da K H u e) (f : flatD d = true) (f' : flatD e = true) : eqV v u = PyData.eqv d e := by
  cases h <;> cases h' <;> first | (unfold PyData.eqv; rfl) | cases f | cases f'
theorem inV_of {H : Hp} {v : V} {d : PyData} (h : Da K H v d) (f : flatD d = true) : ∀ {vs : List V} {ds : List PyData}, DaL K H vs ds → ds.all flatD = true → inV v vs = inD d ds
  | _, _, .nil, _ => rfl
  | _, _, .cons h1 t, f1 => by
    rw [List.all_cons, Bool.and_eq_true] at f1
    unfold inV inD
    rw [List.any_cons, List.any_cons, eqv_of h1 h f1.1 f]
    exact congrArg _ (inV_of h f t f1.2)
def rIn2 (K : PySem.W.Frag) : R2 := fun x y H Q => rInD K x y H Q ∨ rIn K false x y H Q
def rNotIn2 (K : PySem.W.Frag) : R2 := fun x y H Q => rNotInD K x y H Q ∨ rIn K true x y H Q
theorem op_in2 (hu : X.A.units + 65 < cLine) : OpR X (compareOp .In) (rIn2 X.K) := (op_inD hu).or op_in_seq
theorem op_notIn2 (hu : X.A.units + 65 < cLine) : OpR X (compareOp .NotIn) (rNotIn2 X.K) := (op_notInD hu).or op_notIn_seq
theorem Dr.flat {S : Hd} {H : Hp} {v : V} {d : PyData} (h : Dr K S H v d) (f : flatD d = true) : Da K (off S H) v d := by
  rcases h with h | ⟨a, u, rfl, _, h2⟩
  · exact h
  · cases d <;> first | exact h2.elim | cases f
theorem ok_in : OkR K (rIn2 K) (InD false) := fun S H x y dx dy d Q hS ho hx hy k => by
  cases dy with
  | list ds =>
    obtain ⟨rfl, h1, h2⟩ := ho
    rw [Bool.false_xor] at k
    exact .inl ⟨dx, ds, hx.dp (SeqAt.canLay_of_shaped h1), hy.dp (SeqAt.canLay_of_shaped h2), h1, h2, k _ H (.refl H) (.bl _)⟩
  | tuple ds =>
    obtain ⟨rfl, h1, h2⟩ := ho
    obtain ⟨a, vs, rfl, h3, h4⟩ := hy.tuple
    have hx' := hx.flat h1
    rw [Bool.false_xor, ← inV_of hx' h1 h4 h2] at k
    exact .inr ⟨a, vs, rfl, .inr h3, flat_of hx' h1, flats_of h4 h2, k _ H (.refl H) (.bl _)⟩
  | _ => exact ho.elim
theorem ok_notIn : OkR K (rNotIn2 K) (InD true) := fun S H x y dx dy d Q hS ho hx hy k => by
  cases dy with
  | list ds =>
    obtain ⟨rfl, h1, h2⟩ := ho
    rw [Bool.true_xor] at k
    exact .inl ⟨dx, ds, hx.dp (SeqAt.canLay_of_shaped h1), hy.dp (SeqAt.canLay_of_shaped h2), h1, h2, k _ H (.refl H) (.bl _)⟩
  | tuple ds =>
    obtain ⟨rfl, h1, h2⟩ := ho
    obtain ⟨a, vs, rfl, h3, h4⟩ := hy.tuple
    have hx' := hx.flat h1
    rw [Bool.true_xor, ← inV_of hx' h1 h4 h2] at k
    exact .inr ⟨a, vs, rfl, .inr h3, flat_of hx' h1, flats_of h4 h2, k _ H (.refl H) (.bl _)⟩
  | _ => exact ho.elim
/-! ### x[i] -/
def IxD : PyData → PyData → PyData → Prop
  | .list ds, .int i, d => atI ds i = some d
  | .tuple ds, .int i, d => atI ds i = some d
  | .str z, .int i, d => z.length ≤ sizeLine ∧ ∃ c, atI z.cps.toList i = some c ∧ d = .str ⟨#[c]⟩
  | _, _, _ => False
theorem DaL.atI {H : Hp} {vs : List V} {ds : List PyData} {i : Int} {d : PyData} (h : DaL K H vs ds) (e : atI ds i = some d) : ∃ v, L2.atI vs i = some v ∧ Da K H v d := by
  unfold L2.atI at e ⊢
  rw [h.length]
  cases q : ixN ds.length i with
  | none => rw [q] at e; cases e
  | some j =>
    rw [q] at e
    exact h.get e
theorem ok_ix : OkR K (rIx K) IxD := fun S H x y dx dy d Q hS ho hx hy k => by
  cases dy with
  | int i =>
    cases dx with
    | list ds =>
      obtain ⟨a, vs, rfl, h1, h2⟩ := hx.list
      obtain ⟨v, h3, h4⟩ := h2.atI ho
      exact .inl ⟨a, vs, i, v, rfl, hy.int, .of h1, h3, k _ H (.refl H) h4⟩
    | tuple ds =>
      obtain ⟨a, vs, rfl, h1, h2⟩ := hx.tuple
      obtain ⟨v, h3, h4⟩ := h2.atI ho
      exact .inr (.inl ⟨a, vs, i, v, rfl, hy.int, h1, h3, k _ H (.refl H) h4⟩)
    | str z =>
      obtain ⟨hz, c, hc, rfl⟩ := ho
      exact .inr (.inr ⟨z, i, c, hx.str, hy.int, hz, hc, k _ H (.refl H) (.str _)⟩)
    | _ => exact ho.elim
  | _ => cases dx <;> exact ho.elim
/-! ### -x -/
def NegD : PyData → PyData → Prop
  | .int i, d => d = .int (-i)
  | _, _ => False
theorem ok_neg : OkU K (rU fun i => .int (-i)) NegD := fun S H x dx d Q hS ho hx k => by
  cases dx with
  | int i => cases ho; exact ⟨i, hx.int, k _ H (.refl H) (.int _)⟩
  | _ => exact ho.elim
/-! ### slices -/
def cutD (ds : List PyData) (lo hi : Option Int) : List PyData := (ds.drop (HT.sIx ds.length 0 lo)).take (HT.sIx ds.length ds.length hi - HT.sIx ds.length 0 lo)
theorem DaL.cut {H : Hp} {vs : List V} {ds : List PyData} (h : DaL K H vs ds) (lo hi : Option Int) : DaL K H (cutV vs lo hi) (cutD ds lo hi) := by
  unfold cutV cutD
  rw [h.length]
  exact (h.drop _).take _
end
end Dt

/-! Dat5: slices, built-ins. -/
namespace Dt
open PySem L2
section
variable {X : Cx} {K : PySem.W.Frag} {W : WX} {e a b : Expr} {es : List Expr} {pos p p2 : Pos}
theorem Dr.da {S : Hd} {H : Hp} {v : V} {d : PyData} (h : Dr K S H v d) (f : ∀ ds, d ≠ .list ds) (f' : ∀ ds, d ≠ .dict ds) : Da K (off S H) v d := by
  rcases h with h | ⟨a, u, rfl, _, h2⟩
  · exact h
  · cases d with
    | list ds => exact absurd rfl (f ds)
    | dict ds => exact absurd rfl (f' ds)
    | _ => exact h2.elim
/-! ### slices -/
abbrev DO := Gm → (Option Int → Gm → Prop) → Ke → Prop
def tO (K : PySem.W.Frag) (W : WX) (w : DO) : TO := fun σ H Q => ∃ (F : Fm) (S : Hd) (Γ : Gm) (Qd : Option Int → Gm → Prop) (Ed : Ke), En K F S Γ σ H ∧ w Γ Qd Ed ∧
  (∀ o Γ' H', Qd o Γ' → Mv S σ Γ Γ' H H' → En K F S Γ' σ H' → Q o H') ∧ (∀ c Γ' H', Ed c Γ' → En K F S Γ' σ H' → W (.ref (He.ga K c)) none σ H')
def wNone : DO := fun Γ Q _ => Q none Γ
def wPart (w : DE) : DO := fun Γ Q E => w Γ (fun d Γ1 => ∃ i, d = .int i ∧ Q (some i) Γ1) E
theorem poImp {o : Option Expr} {t t' : TO} (h : PO X o t) (i : ∀ σ H Q, t' σ H Q → t σ H Q) : PO X o t' := ⟨fun pins s σ H Q I q => h.run pins s σ H Q I (i σ H Q q)⟩
theorem do_none : PO X none (tO X.K W wNone) := poImp po_none fun σ H Q ⟨F, S, Γ, Qd, Ed, en, hw, k, ke⟩ => k none Γ H hw .refl en
theorem do_some {w : DE} (h : PE X e (tD X.K W w)) : PO X (some e) (tO X.K W (wPart w)) := poImp (po_some h) fun σ H Q ⟨F, S, Γ, Qd, Ed, en, hw, k, ke⟩ => ⟨F, S, Γ, _, Ed, en, hw, fun d Γ1 v H1 ⟨i, ed, q⟩ m1 e1 hv => by
  subst ed
  cases hv
  exact ⟨i, rfl, k (some i) Γ1 H1 q m1 e1⟩, ke⟩
def SlD : PyData → Option Int → Option Int → PyData → Prop
  | .list ds, lo, hi, d => d = .list (cutD ds lo hi)
  | .tuple ds, lo, hi, d => d = .tuple (cutD ds lo hi)
  | .str z, lo, hi, d => z.length ≤ sizeLine ∧ d = .str (cutS z lo hi)
  | _, _, _, _ => False
def rSl3 (K : PySem.W.Frag) : V → Option Int → Option Int → Hp → VK → Prop := fun x lo hi H Q => rSlL K x lo hi H Q ∨ (rSlA K x lo hi H Q ∨ rSlS x lo hi H Q)
theorem sl_3 : SlR X (rSl3 X.K) := sl_list.or (sl_tupA.or sl_str)
theorem cut_whole {ds : List PyData} {lo hi : Option Int} (h : HT.sIx ds.length 0 lo = 0 ∧ HT.sIx ds.length ds.length hi = ds.length) : cutD ds lo hi = ds := by
  unfold cutD
  rw [h.1, h.2, List.drop_zero, Nat.sub_zero, List.take_length]
def wSl (w : DE) (wl wh : DO) : DE := fun Γ Q E => w Γ (fun x Γ1 => wl Γ1 (fun lo Γ2 => wh Γ2 (fun hi Γ3 => ∃ d, SlD x lo hi d ∧ Q d Γ3) E) E) E
theorem de_sl {lo hi : Option Expr} {w : DE} {wl wh : DO} (he : PE X e (tR X.K W w)) (hl : PO X lo (tO X.K W wl)) (hh : PO X hi (tO X.K W wh)) : PE X (.Subscript e (.Slice lo hi none p2) pos) (tD X.K W (wSl w wl wh)) := by
  refine peImp (pe_slice sl_3 he hl hh) fun σ H Q ⟨F, S, Γ, Qd, Ed, en, hw, k, ke⟩ => ⟨F, S, Γ, _, Ed, en, hw, fun x Γ1 v H1 q1 m1 e1 r1 => ⟨F, S, Γ1, _, Ed, e1, q1, fun lo Γ2 H2 q2 m2 e2 => ⟨F, S, Γ2, _, Ed, e2, q2, fun hi Γ3 H3 ⟨d, sd, q⟩ m3 e3 => ?_, ke⟩, ke⟩, ke⟩
  have r3 := (r1.mv (m2.trans m3)).dr e3
  have mm := (m1.trans m2).trans m3
  cases x with
  | list ds =>
    cases sd
    obtain ⟨a, vs, rfl, h1, h2⟩ := r3.list
    exact .inl ⟨a, vs, rfl, .of h1, fun p hp => k _ Γ3 _ _ q (mm.trans (.of (same_new hp))) (e3.same (same_new hp)) (.newL e3.hid hp (h2.cut lo hi))⟩
  | tuple ds =>
    cases sd
    have r4 := r3.da (fun _ z => by cases z) (fun _ z => by cases z)
    obtain ⟨a, vs, rfl, h1, h2⟩ := r3.tuple
    refine .inr (.inl ⟨a, vs, rfl, h1, fun hw => ?_, fun _ p hp => k _ Γ3 _ _ q (mm.trans (.of (same_new hp))) (e3.same (same_new hp)) (.newT e3.hid hp (h2.cut lo hi))⟩)
    rw [h2.length] at hw
    refine k _ Γ3 _ H3 q mm e3 ?_
    rw [cut_whole hw]
    exact r4
  | str z =>
    obtain ⟨hz, rfl⟩ := sd
    exact .inr (.inr ⟨z, r3.str, hz, k _ Γ3 _ H3 q mm e3 (.str _)⟩)
  | _ => exact sd.elim
/-! ### len, all, any, tuple, list, int -/
def LenD : PyData → Nat → Prop
  | .list ds, n => n = ds.length
  | .tuple ds, n => n = ds.length
  | .str z, n => z.length ≤ sizeLine ∧ n = z.length
  | _, _ => False
def LenC (dx : List PyData) (d : PyData) : Prop := ∃ x n, dx = [x] ∧ LenD x n ∧ d = .int n
theorem ok_len : OkC K (fun xs H Q => ∃ x n, xs = [x] ∧ LenV K x H n ∧ Q (.int n) H) LenC := fun S H xs dx d Q hS ho hx k => by
  obtain ⟨x, n, rfl, hl, rfl⟩ := ho
  obtain ⟨v, rfl, hv⟩ := hx.one
  refine ⟨v, n, rfl, ?_, k _ H (.refl H) (.int _)⟩
  cases x with
  | list ds =>
    cases hl
    obtain ⟨a, vs, rfl, h1, h2⟩ := hv.list
    exact .inl ⟨vs, .of h1, h2.length.symm⟩
  | tuple ds =>
    cases hl
    obtain ⟨a, vs, rfl, h1, h2⟩ := hv.tuple
    exact .inr ⟨vs, h1, h2.length.symm⟩
  | str z =>
    rw [hv.str]
    exact hl
  | _ => exact hl.elim
def AllC (dx : List PyData) (d : PyData) : Prop := ∃ bs : List Bool, dx = [.list (bs.map .bool)] ∧ d = .bool (bs.all id)
def AnyC (dx : List PyData) (d : PyData) : Prop := ∃ bs : List Bool, dx = [.list (bs.map .bool)] ∧ d = .bool (bs.any id)
theorem ok_all : OkC K (rAll K) AllC := fun S H xs dx d Q hS ho hx k => by
  obtain ⟨bs, rfl, rfl⟩ := ho
  obtain ⟨v, rfl, hv⟩ := hx.one
  obtain ⟨a, vs, rfl, h1, h2⟩ := hv.list
  rw [h2.bools] at h1
  exact ⟨a, bs, rfl, .of h1, k _ H (.refl H) (.bl _)⟩
theorem ok_any : OkC K (rAny K) AnyC := fun S H xs dx d Q hS ho hx k => by
  obtain ⟨bs, rfl, rfl⟩ := ho
  obtain ⟨v, rfl, hv⟩ := hx.one
  obtain ⟨a, vs, rfl, h1, h2⟩ := hv.list
  rw [h2.bools] at h1
  exact ⟨a, bs, rfl, .of h1, k _ H (.refl H) (.bl _)⟩
def TupC (dx : List PyData) (d : PyData) : Prop := ∃ ds, (dx = [.list ds] ∨ dx = [.tuple ds]) ∧ d = .tuple ds
theorem ok_tuple : OkC K (fun xs H Q => ∃ p ys, xs = [.ref p] ∧ ((SqL K H p ys ∧ ∀ l, H l = none → Q (.ref l) (upd H l (.tup ys))) ∨ (SqT K H p ys ∧ Q (.ref p) H))) TupC := fun S H xs dx d Q hS ho hx k => by
  obtain ⟨ds, h | h, rfl⟩ := ho
  · subst h
    obtain ⟨v, rfl, hv⟩ := hx.one
    obtain ⟨a, vs, rfl, h1, h2⟩ := hv.list
    exact ⟨a, vs, rfl, .inl ⟨.of h1, fun l hl => k _ _ (same_new hl) (.newT hS hl h2)⟩⟩
  · subst h
    obtain ⟨v, rfl, hv⟩ := hx.one
    have hv' := hv.da (fun _ z => by cases z) (fun _ z => by cases z)
    obtain ⟨a, vs, rfl, h1, h2⟩ := hv.tuple
    exact ⟨a, vs, rfl, .inr ⟨h1, k _ H (.refl H) hv'⟩⟩
def LstC (dx : List PyData) (d : PyData) : Prop := ∃ ds, (dx = [.list ds] ∨ dx = [.tuple ds]) ∧ d = .list ds
theorem ok_list : OkC K (fun xs H Q => ∃ p ys, xs = [.ref p] ∧ (SqL K H p ys ∨ SqT K H p ys) ∧ ∀ l, H l = none → Q (.ref l) (upd H l (.lst ys))) LstC := fun S H xs dx d Q hS ho hx k => by
  obtain ⟨ds, h | h, rfl⟩ := ho
  · subst h
    obtain ⟨v, rfl, hv⟩ := hx.one
    obtain ⟨a, vs, rfl, h1, h2⟩ := hv.list
    exact ⟨a, vs, rfl, .inl (.of h1), fun l hl => k _ _ (same_new hl) (.newL hS hl h2)⟩
  · subst h
    obtain ⟨v, rfl, hv⟩ := hx.one
    obtain ⟨a, vs, rfl, h1, h2⟩ := hv.tuple
    exact ⟨a, vs, rfl, .inr h1, fun l hl => k _ _ (same_new hl) (.newL hS hl h2)⟩
def IntC (dx : List PyData) (d : PyData) : Prop := (∃ i, dx = [.int i] ∧ d = .int i) ∨ ∃ b, dx = [.bool b] ∧ d = .int (if b then 1 else 0)
theorem ok_int : OkC K (fun xs H Q => (∃ i, xs = [.int i] ∧ Q (.int i) H) ∨ ∃ k, xs = [.bl k] ∧ Q (.int (if k then 1 else 0)) H) IntC := fun S H xs dx d Q hS ho hx k => by
  rcases ho with ⟨i, rfl, rfl⟩ | ⟨b, rfl, rfl⟩
  · obtain ⟨v, rfl, hv⟩ := hx.one
    exact .inl ⟨i, by rw [hv.int], k _ H (.refl H) (.int _)⟩
  · obtain ⟨v, rfl, hv⟩ := hx.one
    exact .inr ⟨b, by rw [hv.bool], k _ H (.refl H) (.int _)⟩
/-! ### list(range(..)) -/
theorem rg_eq (i j : Int) (H : Hp) : DaL K H (rgV i j) (rngL i j) := by
  unfold rgV rngL
  generalize (j - i).toNat = n
  have h : ∀ l : List Nat, DaL K H (l.map fun (k : Nat) => V.int (i + (k : Int))) (l.map fun (k : Nat) => PyData.int (i + (k : Int))) := fun l => by
    induction l with
    | nil => exact .nil
    | cons x r ih => exact .cons (.int _) ih
  exact h _
def wLrg1 (w : DE) : DE := fun Γ Q E => w Γ (fun d Γ1 => ∃ j, d = .int j ∧ 0 ≤ j ∧ j ≤ 16777216 ∧ Q (.list (rngL 0 j)) Γ1) E
theorem de_lrg1 {w : DE} {p' pos' : Pos} (hc : X.calm = true) (hg : Gl X "list") (hm : X.mg "list" = none) (hg' : Gl X "range") (hm' : X.mg "range" = none) (ha : PE X a (tD X.K W w)) (na : starEach [a] X.env = (false, eval a X.env) :: starEach [] X.env := by rfl)
    (nb : starEach [Expr.Call (.Name "range" p') [a] [] pos'] X.env = (false, eval (Expr.Call (.Name "range" p') [a] [] pos') X.env) :: starEach [] X.env := by rfl) :
    PE X (.Call (.Name "list" p) [.Call (.Name "range" p') [a] [] pos'] [] pos) (tD X.K W (wLrg1 w)) := peImp (pe_listRg hc hg hm (prg_1 hg' hm' ha na) nb) fun σ H Q ⟨F, S, Γ, Qd, Ed, en, hw, k, ke⟩ => ⟨F, S, Γ, _, Ed, en, hw, fun d Γ1 v H1 ⟨j, ed, h1, h2, q⟩ m1 e1 hv => by
  subst ed
  cases hv
  refine ⟨j, rfl, .of_le (by decide) h2 (by decide) h1, fun q' hq => k _ Γ1 _ _ q (m1.trans (.of (same_new hq))) (e1.same (same_new hq)) (.newL e1.hid hq (rg_eq 0 j _))⟩, ke⟩
/-! ### isinstance -/
def tyD : PyData → String
  | .none => "NoneType"
  | .bool _ => "bool"
  | .int _ => "int"
  | .str _ => "str"
  | .list _ => "list"
  | .tuple _ => "tuple"
  | .dict _ => "dict"
/-- an exception as data -/
def isX : PyData → Bool
  | .dict ((.none, _) :: _) => true
  | _ => false
theorem tyx_of {S : Hd} {H : Hp} {v : V} {d : PyData} (h : Dr K S H v d) (hx : isX d = false) : TyX K H v (.type (tyD d)) := by
  rcases h with h | ⟨a, u, rfl, h1, h2⟩
  · cases h with
    | non => exact .base .non
    | bl b => exact .base (.bl b)
    | int i => exact .base (.int i)
    | str x => exact .base (.str x)
    | lst h _ => exact .base (.lst (off_same _ _ h))
    | tup h _ =>
      rcases h with (h | ⟨o, h⟩) | ⟨o, its, n, h1, h2, _⟩
      · exact .base (.tup (off_same _ _ h))
      · exact .fTuple (off_same _ _ h)
      · exact .kTuple h1 h2
    | dic h _ => exact .base (.dK (off_same _ _ h))
    | exc _ _ => cases hx
  · cases d with
    | list ds => obtain ⟨vs, rfl, _⟩ := h2; exact .base (.lst h1)
    | dict ps => obtain ⟨vs, rfl, _⟩ := h2; exact .base (.dK h1)
    | _ => exact h2.elim
theorem exc_of {S : Hd} {H : Hp} {v : V} {d : PyData} (h : Dr K S H v d) (hx : isX d = true) : ∃ a c, v = .ref a ∧ d = excD c ∧ H a = some (ExK K c a) ∧ XcK K c := by
  rcases h with h | ⟨a, u, rfl, h1, h2⟩
  · cases h with
    | exc h1 h2 => exact ⟨_, _, rfl, rfl, off_same _ _ h1, h2⟩
    | dic h1 h2 =>
      cases h2 with
      | nil => cases hx
      | @cons k _ _ _ _ _ _ => cases k <;> cases hx
    | _ => cases hx
  · cases d with
    | dict ps =>
      obtain ⟨vs, rfl, h2⟩ := h2
      cases h2 with
      | nil => cases hx
      | @cons k _ _ _ _ _ _ => cases k <;> cases hx
    | _ => cases hx
/-- isinstance of an exception that is held -/
def rIsK (K : PySem.W.Frag) : List V → Hp → VK → Prop := fun xs H Q => ∃ (a : Addr) (cl : Str) (c : V) (cv : Value) (b : Bool), xs = [.ref a, c] ∧ H a = some (ExK K cl a) ∧ ExcC K (He.ga K cl) ∧ (∀ u, RelV c u → u = cv) ∧ PySem.W.kitOne K (.ref (He.ga K cl)) cv = some b ∧ Q (.bl b) H
theorem call_isK : CallR X (.builtin "isinstance") (rIsK X.K) := by
  intro pins s σ H xs us Q I r h
  obtain ⟨a, cl, c, cv, b, rfl, ha, C, hcv, e, q⟩ := h
  cases r with
  | cons rx rr =>
    cases rr with
    | cons rt rr =>
      cases rr
      cases rx
      have ec := hcv _ rt
      subst ec
      obtain ⟨⟨oe, vs, hget, hz, hv⟩, _, _⟩ := I.hok a _ ha
      have J : PySem.W.InstAt s.heap a oe (He.ga X.K cl) none := by
        obtain ⟨oc, od, oda, osl⟩ := oe
        obtain ⟨h1, h2⟩ := hz
        dsimp only at h1 h2 hv
        subst h1 h2 hv
        exact ⟨hget, rfl, rfl, trivial⟩
      exact PySem.W.kia_one (PySem.W.handS_kitx_exc C.hg C.hk C.hs C.hd C.ha C.hn C.ht C.hm) I.kIn J e (fun z => nomatch z) fun tk => ⟨.bl b, H, I.kept (t' := tk) fun _ _ z => z, rfl, q⟩
def wIsi (f : PyData → Bool) (w : DE) : DE := fun Γ Q E => w Γ (fun d Γ1 => Q (.bool (f d)) Γ1) E
theorem de_isi {T : String} {f : PyData → Bool} {w : DE} {x : Str} {pt : Pos} (hf : ∀ d, isX d = false → kitB (tyD d) T = some (f d)) (hfx : ∀ c, f (excD c) = false) (hTm : T ∈ ["int", "bool", "tuple", "list", "str", "dict"]) (hg : Gl X "isinstance") (hm : X.mg "isinstance" = none) (ha : PE X a (tR X.K W w)) (hT : PE X (.Name x pt) (tC (.ty T)))
    (h1 : starEach [a, Expr.Name x pt] X.env = (false, eval a X.env) :: starEach [Expr.Name x pt] X.env := by rfl) (h2 : starEach [Expr.Name x pt] X.env = (false, eval (Expr.Name x pt) X.env) :: starEach [] X.env := by rfl)
    (hpl : (backTo pos (starEach [Expr.Name x pt] X.env)).any (·.1) = false := by rfl) :
    PE X (.Call (.Name "isinstance" p) [a, .Name x pt] [] pos) (tD X.K W (wIsi f w)) :=
  peImp (pe_callB (call_isi.or call_isK) hg hm (by decide +kernel) (pa_cons ha (pa_cons hT pa_nil h2) h1) (by decide) (by decide) h1 hpl) fun σ H Q ⟨F, S, Γ, Qd, Ed, en, hw, k, ke⟩ => ⟨F, S, Γ, _, Ed, en, hw, fun d Γ1 v H1 q m1 e1 hv => by
    cases hx : isX d with
    | false => exact .inl ⟨v, .ty T, _, _, f d, rfl, .ty T, tyx_of (hv.dr e1) hx, kit_ty (hf d hx), k _ Γ1 _ H1 q m1 e1 (.bl _)⟩
    | true =>
      obtain ⟨a, c, rfl, rfl, h1, h2⟩ := exc_of (hv.dr e1) hx
      have q := k _ Γ1 _ H1 q m1 e1 (.bl _)
      rw [hfx c] at q
      exact .inr ⟨a, c, .ty T, .type T, false, rfl, h1, h2.ex, fun u hu => hu, h2.kit T hTm, q⟩, ke⟩
def isInt : PyData → Bool
  | .int _ => true
  | .bool _ => true
  | _ => false
def isBool : PyData → Bool
  | .bool _ => true
  | _ => false
def isTup : PyData → Bool
  | .tuple _ => true
  | _ => false
def isLst : PyData → Bool
  | .list _ => true
  | _ => false
def isStr : PyData → Bool
  | .str _ => true
  | _ => false
def isDct : PyData → Bool
  | .dict ((.none, _) :: _) => false
  | .dict _ => true
  | _ => false
theorem kit_int (d : PyData) (_ : isX d = false) : kitB (tyD d) "int" = some (isInt d) := by
  cases d with
  | none => exact (by decide +kernel : kitB "NoneType" "int" = some false)
  | bool _ => exact (by decide +kernel : kitB "bool" "int" = some true)
  | int _ => exact (by decide +kernel : kitB "int" "int" = some true)
  | str _ => exact (by decide +kernel : kitB "str" "int" = some false)
  | list _ => exact (by decide +kernel : kitB "list" "int" = some false)
  | tuple _ => exact (by decide +kernel : kitB "tuple" "int" = some false)
  | dict _ => exact (by decide +kernel : kitB "dict" "int" = some false)
theorem kit_bool (d : PyData) (_ : isX d = false) : kitB (tyD d) "bool" = some (isBool d) := by
  cases d with
  | none => exact (by decide +kernel : kitB "NoneType" "bool" = some false)
  | bool _ => exact (by decide +kernel : kitB "bool" "bool" = some true)
  | int _ => exact (by decide +kernel : kitB "int" "bool" = some false)
  | str _ => exact (by decide +kernel : kitB "str" "bool" = some false)
  | list _ => exact (by decide +kernel : kitB "list" "bool" = some false)
  | tuple _ => exact (by decide +kernel : kitB "tuple" "bool" = some false)
  | dict _ => exact (by decide +kernel : kitB "dict" "bool" = some false)
theorem kit_tup (d : PyData) (_ : isX d = false) : kitB (tyD d) "tuple" = some (isTup d) := by
  cases d with
  | none => exact (by decide +kernel : kitB "NoneType" "tuple" = some false)
  | bool _ => exact (by decide +kernel : kitB "bool" "tuple" = some false)
  | int _ => exact (by decide +kernel : kitB "int" "tuple" = some false)
  | str _ => exact (by decide +kernel : kitB "str" "tuple" = some false)
  | list _ => exact (by decide +kernel : kitB "list" "tuple" = some false)
  | tuple _ => exact (by decide +kernel : kitB "tuple" "tuple" = some true)
  | dict _ => exact (by decide +kernel : kitB "dict" "tuple" = some false)
theorem kit_lst (d : PyData) (_ : isX d = false) : kitB (tyD d) "list" = some (isLst d) := by
  cases d with
  | none => exact (by decide +kernel : kitB "NoneType" "list" = some false)
  | bool _ => exact (by decide +kernel : kitB "bool" "list" = some false)
  | int _ => exact (by decide +kernel : kitB "int" "list" = some false)
  | str _ => exact (by decide +kernel : kitB "str" "list" = some false)
  | list _ => exact (by decide +kernel : kitB "list" "list" = some true)
  | tuple _ => exact (by decide +kernel : kitB "tuple" "list" = some false)
  | dict _ => exact (by decide +kernel : kitB "dict" "list" = some false)
theorem kit_str (d : PyData) (_ : isX d = false) : kitB (tyD d) "str" = some (isStr d) := by
  cases d with
  | none => exact (by decide +kernel : kitB "NoneType" "str" = some false)
  | bool _ => exact (by decide +kernel : kitB "bool" "str" = some false)
  | int _ => exact (by decide +kernel : kitB "int" "str" = some false)
  | str _ => exact (by decide +kernel : kitB "str" "str" = some true)
  | list _ => exact (by decide +kernel : kitB "list" "str" = some false)
  | tuple _ => exact (by decide +kernel : kitB "tuple" "str" = some false)
  | dict _ => exact (by decide +kernel : kitB "dict" "str" = some false)
theorem kit_dct (d : PyData) (hx : isX d = false) : kitB (tyD d) "dict" = some (isDct d) := by
  cases d with
  | none => exact (by decide +kernel : kitB "NoneType" "dict" = some false)
  | bool _ => exact (by decide +kernel : kitB "bool" "dict" = some false)
  | int _ => exact (by decide +kernel : kitB "int" "dict" = some false)
  | str _ => exact (by decide +kernel : kitB "str" "dict" = some false)
  | list _ => exact (by decide +kernel : kitB "list" "dict" = some false)
  | tuple _ => exact (by decide +kernel : kitB "tuple" "dict" = some false)
  | dict ps =>
    have e : isDct (.dict ps) = true := by
      cases ps with
      | nil => rfl
      | cons p r =>
        obtain ⟨k, v⟩ := p
        cases k <;> first | rfl | cases hx
    rw [e]
    exact (by decide +kernel : kitB "dict" "dict" = some true)
end
end Dt

/-! Dat6: defs by name; loops and comprehensions, used. -/
namespace Dt
open PySem L2
/-- the module's def x keeps sp -/
def Fok (P : Program) (w : World) (K : PySem.W.Frag) (mg : Str → Option Value) (base : Heap) (x : Str) (k : Nat) (ps : List Str) (sp : Sp) : Prop :=
  ∃ fd, FnOk P w K mg base (L2.CX P w) k (He.ga K x) fd ps sp ∧ Binds K fd ps [] ∧ PySem.W.keepIn K (.ref (He.ga K x)) = true ∧ mg x = some (.ref (He.ga K x))
theorem hu65 {A : Around} {k : Nat} (hr : Room k A) : A.units + 65 < cLine := by have := hr.un; omega
section
variable {X : Cx} {W : WX} {e a b c : Expr} {es : List Expr} {pos p : Pos} {k : Nat} {ps : List Str} {x : Str}
theorem de_fok {j : Nat} {sp : DSp} {ws : DL} (h : Fok X.prog X.w X.K X.mg X.base x k ps (spD X.K sp)) (hr : Room j X.A) (hj : k ≤ j) (hg : Gl X x) (tk : Takes X W)
    (ha : PA X (e :: es) (tL X.K W ws)) (hdb : (x == ("__debug__" : Str)) = false := by decide) (he : starEach (e :: es) X.env = (false, eval e X.env) :: starEach es X.env := by rfl) (hpl : (backTo pos (starEach es X.env)).any (·.1) = false := by rfl) :
    PE X (.Call (.Name x p) (e :: es) [] pos) (tD X.K W (wFn sp ws)) := by
  obtain ⟨fd, F, hb, hk, hm⟩ := h
  exact de_fn F (hr.mono hj) hg hm hk hb tk ha hdb he hpl
theorem de_fokT {j : Nat} {sp : TSp} {ws : DL} {is it : Nat} {xs xt : Str} {p1 p2 : Pos} (h : Fok X.prog X.w X.K X.mg X.base x k ps (spT X.K sp)) (hr : Room j X.A) (hj : k ≤ j) (hg : Gl X x) (tk : Takes X W)
    (hs : PE X (.Name xs p1) (tVar is)) (ht : PE X (.Name xt p2) (tVar it)) (ha : PA X es (tL X.K W ws)) (hdb : (x == ("__debug__" : Str)) = false := by decide)
    (h1 : starEach (Expr.Name xs p1 :: Expr.Name xt p2 :: es) X.env = (false, eval (Expr.Name xs p1) X.env) :: starEach (Expr.Name xt p2 :: es) X.env := by rfl)
    (h2 : starEach (Expr.Name xt p2 :: es) X.env = (false, eval (Expr.Name xt p2) X.env) :: starEach es X.env := by rfl)
    (hpl : (backTo pos (starEach (Expr.Name xt p2 :: es) X.env)).any (·.1) = false := by rfl) :
    PE X (.Call (.Name x p) (.Name xs p1 :: .Name xt p2 :: es) [] pos) (tD X.K W (wFnT is it sp ws)) := by
  obtain ⟨fd, F, hb, hk, hm⟩ := h
  exact de_fnT F (hr.mono hj) hg hm hk hb tk hs ht ha hdb h1 h2 hpl
/-! ### the module's constants -/
theorem de_gi {i : Int} (h : ∃ t, X.mg x = some (.int i t)) (hg : Gl X x := by rfl) (hd : (x == ("__debug__" : Str)) = false := by decide) : PE X (.Name x pos) (tD X.K W (wC (.int i))) := by
  obtain ⟨t, h⟩ := h
  exact de_c (pe_glob (v := .int i) hg h ⟨t, rfl⟩ hd) fun _ => .int i
theorem de_gr {a : Addr} {d : PyData} (h : X.mg x = some (.ref a) ∧ ∀ H, Da X.K H (.ref a) d) (hg : Gl X x := by rfl) (hd : (x == ("__debug__" : Str)) = false := by decide) : PE X (.Name x pos) (tD X.K W (wC d)) :=
  de_c (pe_glob (v := .ref a) hg h.1 rfl hd) h.2
/-! ### raise -/
theorem ds_raiseX {m : Str} {j : Nat} {p' p2 pos2 : Pos} (hc : X.calm = true) (tk : Takes X W) (hx : PySem.W.excIn X.K (He.ga X.K x) He.veBase "ValueError.__new__" = true ∧ PySem.W.keepIn X.K (.ref (He.ga X.K x)) = true ∧ PySem.W.subIn X.K (.ref (He.ga X.K x)) (.type "BaseException") = some true ∧
    PySem.W.typeIn X.K (.ref (He.ga X.K x)) = some (.type "type")) (hm : X.mg x = some (.ref (He.ga X.K x))) (hg : Gl X x) (hdb : (x == ("__debug__" : Str)) = false := by decide) :
    PS X (.Raise (some (.Call (.Name x p') [.Constant (.str m) j p2] [] pos2)) none pos) (tS X.K W (wRaise x)) :=
  ds_raise hc tk (pmk_own PySem.F.excBase_ValueError hx.1 hm hx.2.1 (raises_own hx.2.2.1 hx.2.2.2) hg hdb)
end
theorem bt_len : bootBuiltins "len" = some (.builtin "len") := by decide +kernel
theorem bt_all : bootBuiltins "all" = some (.builtin "all") := by decide +kernel
theorem bt_any : bootBuiltins "any" = some (.builtin "any") := by decide +kernel
theorem bt_tuple : bootBuiltins "tuple" = some (.type "tuple") := by decide +kernel
theorem bt_list : bootBuiltins "list" = some (.type "list") := by decide +kernel
theorem bt_int : bootBuiltins "int" = some (.type "int") := by decide +kernel
theorem bt_bool : bootBuiltins "bool" = some (.type "bool") := by decide +kernel
theorem bt_str : bootBuiltins "str" = some (.type "str") := by decide +kernel
theorem bt_dict : bootBuiltins "dict" = some (.type "dict") := by decide +kernel
/-! ### comprehensions and loops over plain lists -/
section
variable {α : Type} {Γ : Gm}
theorem lc_all {st : LStep} (enc : α → PyData) (f : α → PyData) {k : List PyData → Gm → Prop} : ∀ (l : List α) (acc : List PyData), (∀ x ∈ l, ∀ k' : Option PyData → Gm → Prop, k' (some (f x)) Γ → st (enc x) Γ k') → k (acc ++ l.map f) Γ → lcW st (l.map enc) acc Γ k
  | [], acc, _, h => by rw [List.map_nil, List.append_nil] at h; exact h
  | x :: l, acc, hs, h => hs x List.mem_cons_self _ (lc_all enc f l (acc ++ [f x]) (fun y hy => hs y (List.mem_cons_of_mem _ hy)) (by rw [List.append_assoc]; exact h))
theorem lc_if {st : LStep} (enc : α → PyData) (q : α → Bool) (f : α → PyData) {k : List PyData → Gm → Prop} : ∀ (l : List α) (acc : List PyData), (∀ x ∈ l, ∀ k' : Option PyData → Gm → Prop, k' (if q x = true then some (f x) else none) Γ → st (enc x) Γ k') → k (acc ++ (l.filter q).map f) Γ → lcW st (l.map enc) acc Γ k
  | [], acc, _, h => by rw [List.filter_nil, List.map_nil, List.append_nil] at h; exact h
  | x :: l, acc, hs, h => by
    refine hs x List.mem_cons_self _ ?_
    by_cases e : q x = true
    · rw [if_pos e]
      refine lc_if enc q f l (acc ++ [f x]) (fun y hy => hs y (List.mem_cons_of_mem _ hy)) ?_
      rw [List.filter_cons_of_pos e, List.map_cons] at h
      rw [List.append_assoc]
      exact h
    · rw [if_neg e]
      show lcW st (l.map enc) (acc ++ []) Γ k
      rw [List.append_nil]
      refine lc_if enc q f l acc (fun y hy => hs y (List.mem_cons_of_mem _ hy)) ?_
      rw [List.filter_cons_of_neg e] at h
      exact h
theorem for_inv {gd : DG} {body : DS} (enc : α → PyData) {k : Out → Gm → Prop} (l : List α) (I : List α → Gm → Prop)
    (hs : ∀ pre x post Γ, l = pre ++ x :: post → I pre Γ → ∀ next : DS, (∀ Γ', I (pre ++ [x]) Γ' → next Γ' k) → gd (enc x) Γ (fun Γa => body Γa (forK next k))) (hd : ∀ Γ, I l Γ → k .nx Γ) (h0 : I [] Γ) : forW gd body (l.map enc) Γ k := by
  have key : ∀ (post pre : List α) (Γ : Gm), l = pre ++ post → I pre Γ → forW gd body (post.map enc) Γ k := by
    intro post
    induction post with
    | nil =>
      intro pre Γ e i
      rw [List.append_nil] at e
      subst e
      exact hd Γ i
    | cons x r ih =>
      intro pre Γ e i
      exact hs pre x r Γ e i _ fun Γ' i' => ih (pre ++ [x]) Γ' (by rw [List.append_assoc]; exact e) i'
  exact key l [] Γ rfl h0
end
theorem rngL_nat (n : Nat) : rngL 0 (n : Int) = (List.range n).map fun (i : Nat) => PyData.int (i : Int) := by
  unfold rngL
  rw [Int.sub_zero, Int.toNat_natCast]
  exact List.map_congr_left fun i _ => by rw [Int.zero_add]
end Dt
namespace Dt
open PySem L2
section
variable {P : Program} {w : World} {K : PySem.W.Frag} {mg : Str → Option Value} {base : Heap} {x : Str} {params : Arguments} {body : List Stmt} {scope : Scope}
abbrev DefAt (K : PySem.W.Frag) (x : Str) (st : Stmt) : Prop := ∃ fd, FunD K x x (defArgs st) (defBody st) (defScope st) [] [] (He.ga K x) fd
/-- how n plain parameters bind -/
abbrev BindsOk (x : Str) (st : Stmt) (ps : List Str) : Prop := ∀ (kV doc pm : Value) (an : Option Addr) (cdv ct : Value) (us : List Value), us.length = ps.length → bindArgs (PySem.W.fnOf x x (defArgs st) (defBody st) (defScope st) .none kV doc pm an cdv ct) ⟨us, []⟩ = pure (ps.zip us)
theorem fok_of {st : Stmt} {N ps : List Str} {k : Nat} {sp : DSp} (hD : DefAt K x st) (hm : mg x = some (.ref (He.ga K x))) (bd : BindsOk x st ps) (Sc : FnScope N ps (defScope st)) (len : ∀ ds Q E, sp ds Q E → ds.length = ps.length) (wb : DS)
    (hb : ∀ (cdv : Value) (A : Around) (outer : List Env) (s : Shared) (H : Hp) (E : XK), Room k (A.deeper (PyProof.Rows.envOfC x (defScope st) s.heap.objs.size (He.ga K x) cdv)) → PSs (bX P w K mg base N x (defScope st) (He.ga K x) cdv A outer s H E) (defBody st) (tS K (Wd E) wb))
    (hd : ∀ ds Q E, sp ds Q E → wb (startG N ds) (endO Q E)) : Fok P w K mg base x (k + 1) ps (spD K sp) := by
  obtain ⟨fd, F⟩ := hD
  exact ⟨fd, fn_ok F Sc len wb hb hd, F.bindsN bd, F.kp, hm⟩
end
end Dt

/-! Dat7: defs that draw; the law itself. -/
namespace Dt
open PySem L2
def startT (N : List Str) (n : Nat) (ds : List PyData) : Gm := Sl.scr :: Sl.twn n :: (ds.map Sl.dat ++ List.replicate (N.length - (ds.length + 2)) Sl.no)
def endT (Q : PyData → Nat → Prop) : Out → Gm → Prop
  | .nx => fun Γ => ∃ n, Γ[1]? = some (Sl.twn n) ∧ Q .none n
  | .rt d => fun Γ => ∃ n, Γ[1]? = some (Sl.twn n) ∧ Q d n
  | _ => fun _ => False
theorem startT_eq {N : List Str} {n : Nat} {ds : List PyData} {i : Nat} {s : Sl} (q : (startT N n ds)[i + 2]? = some s) : (ds.map Sl.dat ++ List.replicate (N.length - (ds.length + 2)) Sl.no)[i]? = some s := q
theorem en_startT {K : PySem.W.Frag} {S : Hd} {H : Hp} {vs : List V} {ds : List PyData} {v0 : V} {t : Addr} {us : List V} {n : Nat} (hS : Hid S H) (ht : S t) (hu : H t = some (.lst us)) (hl : us.length ≤ n) (h0 : Scr K (off S H) v0) (h : DaL K (off S H) vs ds) (N : List Str) :
    En K ⟨H, S, fun b => b = t⟩ S (startT N n ds) (L2.start N (v0 :: .ref t :: vs)) H := by
  have hlen := h.length
  have e2 : L2.start N (v0 :: .ref t :: vs) = some v0 :: some (.ref t) :: (vs.map some ++ List.replicate (N.length - (vs.length + 2)) none) := rfl
  refine ⟨fun b z => ⟨z, hS b z⟩, fun b z => by rw [show b = t from z]; exact ht, fun b z => .inl z, hS, fun b o _ q => q, ?_, fun i s q => ?_, fun i j s s' a hij q1 q2 m1 m2 r1 => ?_⟩
  · rw [e2]
    unfold startT
    simp only [List.length_cons, List.length_append, List.length_map, List.length_replicate]
    omega
  · rw [e2]
    match i, q with
    | 0, q => cases q; exact ⟨_, rfl, v0, rfl, h0⟩
    | 1, q => cases q; exact ⟨_, rfl, t, us, rfl, ht, .inl rfl, hu, hl⟩
    | i + 2, q =>
      have q := startT_eq q
      show ∃ o, (vs.map some ++ List.replicate (N.length - (vs.length + 2)) none)[i]? = some o ∧ _
      by_cases hi : i < ds.length
      · rw [List.getElem?_append_left (by rw [List.length_map]; exact hi), List.getElem?_map, List.getElem?_eq_getElem hi] at q
        cases q
        obtain ⟨v, h1, h2⟩ := h.get (List.getElem?_eq_getElem hi)
        refine ⟨some v, ?_, v, rfl, h2⟩
        rw [List.getElem?_append_left (by rw [List.length_map]; omega), List.getElem?_map, h1]
        rfl
      · rw [List.getElem?_append_right (by rw [List.length_map]; omega), List.getElem?_replicate] at q
        split at q
        · rename_i hlt
          cases q
          refine ⟨none, ?_, trivial⟩
          rw [List.getElem?_append_right (by rw [List.length_map]; omega), List.getElem?_replicate, if_pos (by rw [List.length_map] at hlt ⊢; omega)]
        · cases q
  · have g : ∀ (m : Nat) (s : Sl), (startT N n ds)[m]? = some s → s.mut = true → m = 1 := fun m s q ms => by
      match m, q with
      | 0, q => cases q; cases ms
      | 1, q => rfl
      | i + 2, q =>
        have q := startT_eq q
        by_cases hi : i < ds.length
        · rw [List.getElem?_append_left (by rw [List.length_map]; exact hi), List.getElem?_map, List.getElem?_eq_getElem hi] at q
          cases q
          cases ms
        · rw [List.getElem?_append_right (by rw [List.length_map]; omega), List.getElem?_replicate] at q
          split at q
          · cases q; cases ms
          · cases q
    exact absurd ((g i s q1 m1).trans (g j s' q2 m2).symm) hij
section
variable {P : Program} {w : World} {K : PySem.W.Frag} {mg : Str → Option Value} {base : Heap} {x : Str}
theorem fokT_of {st : Stmt} {N ps : List Str} {k : Nat} {sp : TSp} (hD : DefAt K x st) (hm : mg x = some (.ref (He.ga K x))) (bd : BindsOk x st ps) (Sc : FnScope N ps (defScope st)) (len : ∀ n ds Q, sp n ds Q → ds.length + 2 = ps.length) (wb : DS)
    (hb : ∀ (cdv : Value) (A : Around) (outer : List Env) (s : Shared) (H : Hp) (E : XK), Room k (A.deeper (PyProof.Rows.envOfC x (defScope st) s.heap.objs.size (He.ga K x) cdv)) → PSs (bX P w K mg base N x (defScope st) (He.ga K x) cdv A outer s H E) (defBody st) (tS K (Wd E) wb))
    (hd : ∀ n ds Q, sp n ds Q → wb (startT N n ds) (endT Q)) : Fok P w K mg base x (k + 1) ps (spT K sp) := by
  obtain ⟨fd, F⟩ := hD
  refine ⟨fd, F.ok Sc (fun vs H Q E ⟨S, t, us, n, v0, vs', ds, Qd, _, _, _, _, e, _, hv, h, _⟩ => ?_) fun cdv A outer s H vs Q E hr h => ⟨_, hb cdv A outer s H E hr, ?_⟩, F.bindsN bd, F.kp, hm⟩
  · rw [e]
    have := hv.length
    have := len n ds Qd h
    simp only [List.length_cons]
    omega
  · obtain ⟨S, t, us, n, v0, vs', ds, Qd, hS, ht, hu, hl, rfl, h0, hv, h, kq⟩ := h
    refine ⟨⟨H, S, fun b => b = t⟩, S, startT N n ds, _, en_startT hS ht hu hl h0 hv N, hd n ds Qd h, fun o Γ' S' σ' H' q e' => ?_⟩
    have fi : ∀ {d : PyData} {v : V}, (∃ n, Γ'[1]? = some (Sl.twn n) ∧ Qd d n) → Da K (off S' H') v d → Q v H' := fun {d v} z hv' => by
      obtain ⟨n', g, q⟩ := z
      obtain ⟨o, _, a, us', _, _, c, hu', hl'⟩ := e'.slot 1 _ g
      have ea : a = t := by
        rcases c with c | ⟨_, c⟩
        · exact c
        · exact absurd rfl (c t)
      subst ea
      exact kq d n' v H' us' q (fun b u nb hb => e'.base b u nb hb) hu' hl' (hv'.mono (off_sub fun b y => (e'.sub b y).1))
    cases o with
    | nx => exact fi q .non
    | rt d => exact fun v hv' => fi q hv'
    | ex c => exact q.elim
    | bk => exact q.elim
    | ct => exact q.elim
end
/-! ### x, y = a, b -/
section
variable {X : Cx} {W : WX} {e : Expr} {pos : Pos} {st : Stmt}
def wPar (i j : Nat) (ws : DL) : DS := fun Γ k => ws Γ (fun ds Γ1 => ∃ d e, ds = [d, e] ∧ k .nx ((Γ1.set i (.dat d)).set j (.dat e))) (fun c Γ1 => k (.ex c) Γ1)
theorem ds_par {i j : Nat} {ws : DL} (h : PS X st (tPar i j (tL X.K W ws))) : PS X st (tS X.K W (wPar i j ws)) := psImp h fun D σ H ⟨F, S, Γ, Qd, en, hw, k⟩ => ⟨F, S, Γ, _, _, en, hw, fun ds Γ' vs H' ⟨d, e, ed, q⟩ m en' hv => by
  subst ed
  obtain ⟨v, u, rfl, h1, h2⟩ := hv.two
  exact ⟨v, u, rfl, k .nx _ S _ H' q ((en'.set i h1).set j h2)⟩, fun c Γ' H' q en' => k (.ex c) Γ' S σ H' q en'⟩
end
/-! ### the law -/
def spLaw (K : PySem.W.Frag) : Sp := fun vs H Q _ => ∃ (a : Addr) (ns : List Int), vs = [.ref a] ∧ SqL K H a (ns.map V.int) ∧ ∀ H', Q (.bl true) H'
def endL : Out → Gm → Prop
  | .rt d => fun _ => d = .bool true
  | _ => fun _ => False
section
variable {P : Program} {w : World} {K : PySem.W.Frag} {mg : Str → Option Value} {base : Heap}
abbrev lX (P : Program) (w : World) (K : PySem.W.Frag) (mg : Str → Option Value) (base : Heap) (N : List Str) (scope : Scope) (f : Addr) (cdv : Value) (A : Around) (outer : List Env) (s : Shared) (H : Hp) (E : XK) : Cx := (cxOf CX0 P w K mg base N "law" scope f cdv A outer s H E).nox
theorem fn_law {st st0 : Stmt} {rest : List Stmt} {N : List Str} {k : Nat} {f : Addr} {fd : FuncData} (F : FunD K "law" "law" (defArgs st) (defBody st) (defScope st) [] [] f fd) (Sc : FnScope N ["script"] (defScope st)) (wb : DS) (eb : defBody st = st0 :: rest)
    (hσ : ∀ u v : V, (L2.start N [u]).set 1 (some v) = L2.start N [u, v])
    (h0 : ∀ (cdv : Value) (A : Around) (outer : List Env) (s : Shared) (H : Hp) (E : XK), PS (lX P w K mg base N (defScope st) f cdv A outer s H E) st0 (tAsg (tLst tNil) (gName 1)))
    (hb : ∀ (cdv : Value) (A : Around) (outer : List Env) (s : Shared) (H : Hp) (E : XK), Room k (A.deeper (PyProof.Rows.envOfC "law" (defScope st) s.heap.objs.size f cdv)) → PSs (lX P w K mg base N (defScope st) f cdv A outer s H E) rest (tS K W0 wb))
    (hd : wb (startT N 0 []) endL) : FnOk P w K mg base CX0 (k + 1) f fd ["script"] (spLaw K) := by
  refine F.ok Sc (fun vs H Q E ⟨a, ns, e, _⟩ => by rw [e]; rfl) fun cdv A outer s H vs Q E hr h => ⟨tSeq (tAsg (tLst tNil) (gName 1)) (tS K W0 wb), ?_, ?_⟩
  · rw [eb]
    exact PSs.nox (pss_cons (h0 cdv A outer s H E) (hb cdv A outer s H E hr))
  · obtain ⟨a, ns, rfl, hS, kq⟩ := h
    refine ⟨Nat.zero_le _, fun p hp => ?_⟩
    show tS K W0 wb _ ((L2.start N [.ref a]).set 1 (some (.ref p))) (upd H p (.lst []))
    rw [hσ]
    have hid : Hid (fun b => b = p) (upd H p (.lst [])) := fun b z q => by
      rw [show b = p from z, upd_same] at q
      cases q
    have sq : Scr K (off (fun b => b = p) (upd H p (.lst []))) (.ref a) := by
      refine ⟨a, ns, rfl, ?_⟩
      have mv : ∀ o, H a = some o → off (fun b => b = p) (upd H p (.lst [])) a = some o := fun o q => by
        have ne := ne_of_none q hp
        rw [off_in (S := fun b => b = p) ne, upd_ne ne]
        exact q
      rcases hS with (h | ⟨o, h⟩) | h
      · exact .inl (.inl (mv _ h))
      · exact .inl (.inr ⟨o, mv _ h⟩)
      · exact .inr h
    refine ⟨_, _, startT N 0 [], _, en_startT (us := []) hid rfl upd_same (Nat.le_refl _) sq .nil N, hd, fun o Γ' S' σ' H' q e' => ?_⟩
    cases o with
    | rt d =>
      intro v hv
      rw [show d = .bool true from q] at hv
      cases hv
      exact kq H'
    | nx => exact q.elim
    | ex c => exact q.elim
    | bk => exact q.elim
    | ct => exact q.elim
end
end Dt

/-! Dat8: dicts over data. -/
namespace Dt
open PySem L2
def keyEq : PyData → Key → Bool
  | .int i, .inl j => decide (i = j)
  | .str x, .inr y => decide (x = y)
  | _, _ => false
def dget : List (PyData × PyData) → Key → Option PyData
  | [], _ => none
  | (p, d) :: r, k => if keyEq p k = true then some d else dget r k
theorem keyEq_kd (a b : Key) : keyEq (kd a) b = decide (a = b) := by
  cases a with
  | inl i => cases b with
    | inl j => show decide (i = j) = _; by_cases h : i = j <;> simp [h]
    | inr y => rfl
  | inr x => cases b with
    | inl j => rfl
    | inr y => show decide (x = y) = _; by_cases h : x = y <;> simp [h]
theorem DaD.val {K : PySem.W.Frag} {H : Hp} (k : Key) : ∀ {kvs : List (Key × V)} {ps : List (PyData × PyData)}, DaD K H kvs ps → (∀ d, dget ps k = some d → ∃ v, valV kvs k = some v ∧ Da K H v d) ∧ (dget ps k = none → valV kvs k = none)
  | _, _, .nil => ⟨fun d h => (by cases h), fun _ => rfl⟩
  | _, _, .cons (k := k0) (v := v0) h t => by
    obtain ⟨i1, i2⟩ := DaD.val k t
    by_cases e : k0 = k
    · constructor
      · intro d hd
        unfold dget at hd
        rw [keyEq_kd, decide_eq_true e, if_pos rfl] at hd
        cases hd
        exact ⟨v0, valV_pos e, h⟩
      · intro hd
        unfold dget at hd
        rw [keyEq_kd, decide_eq_true e, if_pos rfl] at hd
        cases hd
    · constructor
      · intro d hd
        unfold dget at hd
        rw [keyEq_kd, decide_eq_false e, if_neg Bool.false_ne_true] at hd
        rw [valV_neg (p := (k0, v0)) e]
        exact i1 d hd
      · intro hd
        unfold dget at hd
        rw [keyEq_kd, decide_eq_false e, if_neg Bool.false_ne_true] at hd
        rw [valV_neg (p := (k0, v0)) e]
        exact i2 hd
theorem Dr.dict {K : PySem.W.Frag} {S : Hd} {H : Hp} {v : V} {ps : List (PyData × PyData)} (h : Dr K S H v (.dict ps)) (hx : isX (.dict ps) = false) : ∃ a kvs, v = .ref a ∧ H a = some (.dK kvs) ∧ DaD K (off S H) kvs ps := by
  rcases h with h | ⟨a, u, rfl, h1, kvs, rfl, h2⟩
  · cases h with
    | dic h1 h2 => exact ⟨_, _, rfl, off_same _ _ h1, h2⟩
    | exc _ _ => cases hx
  · exact ⟨a, kvs, rfl, h1, h2⟩
theorem key_v {K : PySem.W.Frag} {S : Hd} {H : Hp} {v : V} {k : Key} (h : Dr K S H v (kd k)) : v = kV k := by
  cases k with
  | inl i => exact h.int
  | inr x => exact h.str
section
variable {X : Cx} {W : WX} {e a b : Expr} {pos : Pos}
/-! ### d[k] -/
def wDGet (wd wk : DE) : DE := fun Γ Q E => wd Γ (fun x Γ1 => wk Γ1 (fun y Γ2 => ∃ ps k d, x = .dict ps ∧ y = kd k ∧ dget ps k = some d ∧ Q d Γ2) E) E
theorem de_dget {wd wk : DE} {j : Nat} (hr : Room j X.A) (ha : PE X a (tR X.K W wd)) (hb : PE X b (tR X.K W wk)) (hs : NoSl b) : PE X (.Subscript a b pos) (tD X.K W (wDGet wd wk)) :=
  peImp (pe_dget (hu_of hr) ha hb hs) fun σ H Q ⟨F, S, Γ, Qd, Ed, en, hw, k, ke⟩ => ⟨F, S, Γ, _, Ed, en, hw, fun x Γ1 v1 H1 hb m1 e1 r1 => ⟨F, S, Γ1, _, Ed, e1, hb, fun y Γ2 v2 H2 ⟨ps, kk, d, ex, ey, hd, q⟩ m2 e2 r2 => by
    subst ex ey
    have hx : isX (.dict ps) = false := by
      cases hx : isX (.dict ps) with
      | false => rfl
      | true =>
        obtain ⟨_, c, _, e, _⟩ := exc_of ((r1.mv m2).dr e2) hx
        cases e
        cases kk <;> cases hd
    obtain ⟨a, kvs, rfl, h1, h2⟩ := ((r1.mv m2).dr e2).dict hx
    rw [key_v (r2.dr e2)]
    obtain ⟨v, hv, hvd⟩ := (h2.val kk).1 d hd
    exact ⟨a, v, rfl, by rw [← hv]; exact .k h1, k d Γ2 v H2 q (m1.trans m2) e2 hvd⟩, ke⟩, ke⟩
/-! ### displays -/
abbrev DP := Gm → (List (PyData × PyData) → Gm → Prop) → Ke → Prop
def wPs : List (DE × DE) → DP
  | [] => fun Γ Q _ => Q [] Γ
  | (wk, wv) :: r => fun Γ Q E => wk Γ (fun x Γ1 => wv Γ1 (fun y Γ2 => wPs r Γ2 (fun ps Γ3 => Q ((x, y) :: ps) Γ3) E) E) E
def trsOf (K : PySem.W.Frag) (W : WX) : List (DE × DE) → List (TE × TE)
  | [] => []
  | (wk, wv) :: r => (tD K W wk, tD K W wv) :: trsOf K W r
inductive DaP (K : PySem.W.Frag) (H : Hp) : List (V × V) → List (PyData × PyData) → Prop
  | nil : DaP K H [] []
  | cons {v u : V} {vs : List (V × V)} {d e : PyData} {ds : List (PyData × PyData)} : Da K H v d → Da K H u e → DaP K H vs ds → DaP K H ((v, u) :: vs) ((d, e) :: ds)
theorem pairs_rd {K : PySem.W.Frag} {F : Fm} {S : Hd} {Ed : Ke} {σ : St} (ke : ∀ c Γ' H', Ed c Γ' → En K F S Γ' σ H' → W (.ref (He.ga K c)) none σ H') : ∀ (l : List (DE × DE)) {Γ : Gm} {H : Hp} {Qd : List (PyData × PyData) → Gm → Prop} {Q : List (V × V) → Hp → Prop}, En K F S Γ σ H → wPs l Γ Qd Ed →
    (∀ ps Γ' vs H', Qd ps Γ' → Mv S σ Γ Γ' H H' → En K F S Γ' σ H' → DaP K (off S H') vs ps → Q vs H') → tPairs (trsOf K W l) σ H Q
  | [], Γ, H, Qd, Q, en, hw, k => k [] Γ [] H hw .refl en .nil
  | (wk, wv) :: r, Γ, H, Qd, Q, en, hw, k => ⟨F, S, Γ, _, Ed, en, hw, fun x Γ1 v1 H1 hb m1 e1 r1 => ⟨F, S, Γ1, _, Ed, e1, hb, fun y Γ2 v2 H2 q m2 e2 r2 =>
      pairs_rd ke r e2 q fun ps Γ3 vs H3 q3 m3 e3 r3 => k _ Γ3 _ H3 q3 ((m1.trans m2).trans m3) e3 (.cons (r1.mono (m2.trans m3).le.off) (r2.mono m3.le.off) r3), ke⟩, ke⟩
theorem merge_nodup : ∀ (more kvs : List (Key × V)), (∀ p ∈ more, valV kvs p.1 = none) → (more.map (·.1)).Nodup → mergeK kvs more = kvs ++ more
  | [], kvs, _, _ => by show kvs = kvs ++ []; rw [List.append_nil]
  | p :: r, kvs, h, hn => by
    show mergeK (putK kvs p.1 p.2) r = kvs ++ p :: r
    rw [List.map_cons, List.nodup_cons] at hn
    rw [putK_new p.2 (h p List.mem_cons_self), merge_nodup r _ (fun q hq => ?_) hn.2, List.append_assoc]
    · rfl
    · rw [valV_snoc _ _ _ _ (h p List.mem_cons_self), if_neg (fun e => hn.1 (by rw [← e]; exact List.mem_map.mpr ⟨q, hq, rfl⟩))]
      exact h q (List.mem_cons_of_mem _ hq)
theorem daP_keys {K : PySem.W.Frag} {H : Hp} : ∀ {vs : List (V × V)} {ps : List (PyData × PyData)} {ks : List Key}, DaP K H vs ps → ps.map (·.1) = ks.map kd → ∃ kvs : List (Key × V), vs = kvs.map (fun kv => (kV kv.1, kv.2)) ∧ kvs.map (·.1) = ks ∧ DaD K H kvs ps
  | _, _, [], .nil, _ => ⟨[], rfl, rfl, .nil⟩
  | _, _, k :: ks, .cons hk hv t, e => by
    rw [List.map_cons, List.map_cons] at e
    obtain ⟨e1, e2⟩ := List.cons.inj e
    have e1 : _ = kd k := e1
    subst e1
    obtain ⟨kvs, q1, q2, q3⟩ := daP_keys t e2
    have hvk : _ = kV k := key_v (S := fun _ => False) (H := H) (K := K) (.inl (by
      have : off (fun _ => False) H = H := by funext b; exact off_in (fun z => z)
      rw [this]; exact hk))
    refine ⟨(k, _) :: kvs, ?_, by rw [List.map_cons, q2], .cons hv q3⟩
    rw [List.map_cons, q1, hvk]
def wDisp (l : List (DE × DE)) (ks : List Key) : DE := fun Γ Q _ => wPs l Γ (fun ps Γ1 => ps.map (·.1) = ks.map kd ∧ Q (.dict ps) Γ1) F0
theorem de_disp {keys : List (Option Expr)} {values : List Expr} {l : List (DE × DE)} {ks : List Key} (h : PE X (.Dict keys values pos) (tDisp (trsOf X.K W l))) (hn : ks.Nodup) (hl : ks.length ≤ 15) : PE X (.Dict keys values pos) (tD X.K W (wDisp l ks)) :=
  peImp h fun σ H Q ⟨F, S, Γ, Qd, Ed, en, hw, k, ke⟩ p hp => by
    have h0 := en.fresh0 hp
    have nD : ∀ (j : Nat) (s : Sl), Γ[j]? = some s → s.mut = true → σ[j]? ≠ some (some (.ref p)) := fun j s q m z => by
      obtain ⟨o, a, b⟩ := en.slot j s q
      rw [z] at a
      cases a
      cases s with
      | own0 ds => obtain ⟨x, vs, q1, _, _, _, q5, _⟩ := b; cases q1; rw [hp] at q5; cases q5
      | twn n => obtain ⟨x, vs, q1, _, _, q5, _⟩ := b; cases q1; rw [hp] at q5; cases q5
      | _ => cases m
    refine pairs_rd (S := fun b => S b ∨ b = p) (F := F) (Ed := F0) (fun _ _ _ z => z.elim) l (Qd := fun ps Γ1 => ps.map (·.1) = ks.map kd ∧ Qd (.dict ps) Γ1) (en.hide hp) hw fun ps Γ1 vs H2 ⟨hk, q⟩ m1 e1 hv => ?_
    have hp2 : H2 p = some (.dK []) := by
      rcases m1.al p _ upd_same with z | ⟨i, n, g, e⟩
      · exact z
      · exact absurd e (nD i _ g rfl)
    obtain ⟨kvs, q1, q2, q3⟩ := daP_keys hv hk
    have hlen : kvs.length = ks.length := by rw [← q2, List.length_map]
    refine ⟨hp2, kvs, q1, by omega, ?_⟩
    have hmg : mergeK [] kvs = kvs := by
      rw [merge_nodup kvs [] (fun _ _ => rfl) (by rw [q2]; exact hn)]
      rfl
    rw [hmg]
    have nD1 : ∀ (j : Nat) (s : Sl), Γ1[j]? = some s → s.mut = true → σ[j]? ≠ some (some (.ref p)) := fun j s q m => by
      obtain ⟨s', q', m'⟩ := m1.mu q m
      exact nD j s' q' m'
    have e2 : En X.K F S Γ1 σ (upd H2 p (.dK kvs)) := (e1.free (.inr rfl) h0 nD1).unhide en.sub en.tin nD1
    refine k (.dict ps) Γ1 (.ref p) _ q ?_ e2 (.dic (by rw [off_in (en.hid.free hp)]; exact upd_same) (q3.mono ((off_in_upd (D := p)).trans (off_sub fun b z => .inl z))))
    refine ⟨fun b u n hb => ?_, fun b u hb => ?_, m1.ow, m1.wo, m1.tw⟩
    · have nb := ne_of_none hb hp
      rw [upd_ne nb]
      exact m1.le b u (fun z => z.elim n nb) (by rw [upd_ne nb]; exact hb)
    · have nb := ne_of_none hb hp
      rw [upd_ne nb]
      exact m1.al b u (by rw [upd_ne nb]; exact hb)
end
end Dt

/-! Dat9: written dicts of the module. -/
namespace Dt
open PySem L2
structure GTab (K : PySem.W.Frag) (w : World) (mg : Str → Option Value) (x : Str) (T : List (Str × PyData)) : Prop where
  glo : mg x = some (.ref (He.ga K x))
  dict : ∃ es n, KDict K w (He.ga K x) es n
  val : ∀ q ∈ T, ∃ v u, PySem.W.nsIn K (He.ga K x) q.1 = some (some u) ∧ RelV v u ∧ ∀ H, Da K H v q.2
def strsAt (K : PySem.W.Frag) (p : Addr) (zs : List Str) : Bool := match K.lookup p with
  | some ⟨.type c, _, .seq its _, _⟩ => decide (c = "tuple") && (decide (its.size ≤ sizeLine) && He.relAll (zs.map V.str) its.toList)
  | _ => false
theorem strsAt_ok {K : PySem.W.Frag} {p : Addr} {zs : List Str} (h : strsAt K p zs = true) (H : Hp) : SqT K H p (zs.map V.str) := by
  unfold strsAt at h
  cases q : K.lookup p with
  | none =>
    rw [q] at h
    cases h
  | some o =>
    obtain ⟨oc, od, dt, osl⟩ := o
    rw [q] at h
    cases oc with
    | type c =>
      cases dt with
      | seq its n =>
        obtain ⟨h1, h2⟩ := He.ba (show (decide (c = "tuple") && (decide (its.size ≤ sizeLine) && He.relAll (zs.map V.str) its.toList)) = true from h)
        obtain ⟨h3, h4⟩ := He.ba h2
        exact .inr ⟨_, its, n, q, congrArg Value.type (of_decide_eq_true h1), rfl, of_decide_eq_true h3, He.relAll_ok h4⟩
      | _ => cases h
    | _ => cases dt <;> cases h
/-- the table's values: tuples of texts | texts -/
def tabTB (K : PySem.W.Frag) (a : Addr) (T : List (Str × List Str)) : Bool := T.all fun q => match PySem.W.nsIn K a q.1 with
  | some (some (.ref p)) => strsAt K p q.2
  | _ => false
def tabSB (K : PySem.W.Frag) (a : Addr) (T : List (Str × Str)) : Bool := T.all fun q => match PySem.W.nsIn K a q.1 with
  | some (some u) => He.relB (.str q.2) u
  | _ => false
theorem da_strs {K : PySem.W.Frag} {H : Hp} : ∀ zs : List Str, DaL K H (zs.map V.str) (zs.map PyData.str)
  | [] => .nil
  | z :: r => .cons (.str z) (da_strs r)
theorem tabTB_ok {K : PySem.W.Frag} {a : Addr} {T : List (Str × List Str)} (h : tabTB K a T = true) : ∀ q ∈ T.map fun q => (q.1, PyData.tuple (q.2.map PyData.str)), ∃ v u, PySem.W.nsIn K a q.1 = some (some u) ∧ RelV v u ∧ ∀ H, Da K H v q.2 := fun q hq => by
  obtain ⟨q0, h0, rfl⟩ := List.mem_map.mp hq
  have h2 := List.all_eq_true.mp h q0 h0
  show ∃ v u, PySem.W.nsIn K a q0.1 = some (some u) ∧ RelV v u ∧ ∀ H, Da K H v (.tuple (q0.2.map PyData.str))
  cases e : PySem.W.nsIn K a q0.1 with
  | none => rw [e] at h2; cases h2
  | some r =>
    rw [e] at h2
    cases r with
    | none => cases h2
    | some u =>
      cases u with
      | ref p => exact ⟨.ref p, _, rfl, rfl, fun H => .tup (strsAt_ok h2 H) (da_strs _)⟩
      | _ => cases h2
theorem tabSB_ok {K : PySem.W.Frag} {a : Addr} {T : List (Str × Str)} (h : tabSB K a T = true) : ∀ q ∈ T.map fun q => (q.1, PyData.str q.2), ∃ v u, PySem.W.nsIn K a q.1 = some (some u) ∧ RelV v u ∧ ∀ H, Da K H v q.2 := fun q hq => by
  obtain ⟨q0, h0, rfl⟩ := List.mem_map.mp hq
  have h2 := List.all_eq_true.mp h q0 h0
  show ∃ v u, PySem.W.nsIn K a q0.1 = some (some u) ∧ RelV v u ∧ ∀ H, Da K H v (.str q0.2)
  cases e : PySem.W.nsIn K a q0.1 with
  | none => rw [e] at h2; cases h2
  | some r =>
    rw [e] at h2
    cases r with
    | none => cases h2
    | some u => exact ⟨.str q0.2, u, rfl, He.relB_ok h2, fun H => .str _⟩
section
variable {X : Cx} {W : WX} {e f b : Expr} {pos p apos : Pos} {x : Str}
/-! ### T[k] -/
def wTab (T : List (Str × PyData)) (wb : DE) : DE := fun Γ Q E => wb Γ (fun y Γ1 => ∃ z d, y = .str z ∧ (z, d) ∈ T ∧ Q d Γ1) E
theorem GTab.kd {K : PySem.W.Frag} {w : World} {mg : Str → Option Value} {T : List (Str × PyData)} (h : GTab K w mg x T) {z : Str} {d : PyData} (hm : (z, d) ∈ T) : ∃ v, KDct K w (He.ga K x) z v ∧ ∀ H, Da K H v d := by
  obtain ⟨es, n, D⟩ := h.dict
  obtain ⟨v, u, h1, h2, h3⟩ := h.val _ hm
  exact ⟨v, ⟨es, n, u, D.at_, D.lit, h1, h2⟩, h3⟩
theorem de_tab {T : List (Str × PyData)} {wb : DE} (h : GTab X.K X.w X.mg x T) (hb : PE X b (tR X.K W wb)) (hs : PlainIx b) (hg : Gl X x := by rfl) (hd : (x == ("__debug__" : Str)) = false := by decide) : PE X (.Subscript (.Name x p) b pos) (tD X.K W (wTab T wb)) :=
  peImp (pe_ix ix_kdict (pe_glob (v := .ref (He.ga X.K x)) hg h.glo rfl hd) hb hs) fun σ H Q ⟨F, S, Γ, Qd, Ed, en, hw, k, ke⟩ =>
    ⟨F, S, Γ, _, Ed, en, hw, fun y Γ1 v1 H1 ⟨z, d, ey, hm, q⟩ m1 e1 r1 => by
      subst ey
      rw [(r1.dr e1).str]
      obtain ⟨v, hk, hv⟩ := h.kd hm
      exact ⟨_, z, v, rfl, rfl, hk, k d Γ1 v H1 q m1 e1 (hv _)⟩, ke⟩
/-! ### T.get(k, d) -/
theorem none_mapK {P : Program} {w : World} {K : PySem.W.Frag} {h : Heap} {a : Addr} {es : Array DictEntry} {n : Nat} (hK : K.In h) (D : KDict K w a es n) : ∃ g, h.MapOf (noneKind P w) a g ∧ g none = none := by
  refine ⟨fun k => findBy (noneKind P w).is es k, ⟨_, es, n, hK _ _ D.at_, ⟨rfl, rfl, rfl⟩, rfl, fun e he => ?_, fun k => rfl⟩, ?_⟩
  · obtain ⟨x, t, e1, e2⟩ := D.lit.all e (Array.mem_toList_iff.mpr he)
    refine ⟨some (.inr x), ?_, e2⟩
    rw [e1]
    exact PySem.strKind_is P w x t
  · have q : (es.find? fun e => nkIs none e.key) = none := by
      rw [Array.find?_eq_none]
      intro e he hq
      obtain ⟨x, t, e1, e2⟩ := D.lit.all e (Array.mem_toList_iff.mpr he)
      rw [e1] at hq
      exact nomatch (show false = true from hq)
    show (es.find? fun e => nkIs none e.key).map (·.val) = none
    rw [q] <;> rfl
def tKGet2 (K : PySem.W.Frag) (w : World) (a : Addr) (te tf : TE) : TE := fun σ H Q => te σ H fun y H1 => tf σ H1 fun z H2 => (∃ s v, y = .str s ∧ KDct K w a s v ∧ Q v H2) ∨ (y = .non ∧ Q z H2)
theorem pe_kget2 {o : Expr} {a : Addr} {es : Array DictEntry} {n : Nat} {te tf : TE} (D : KDict X.K X.w a es n) (ho : PE X o (tC (.ref a))) (he : PE X e te) (hf : PE X f tf) (m : M2 X o "get" apos e f pos) : PE X (.Call (.Attribute o "get" apos) [e, f] [] pos) (tKGet2 X.K X.w a te tf) := by
  refine ⟨fun pins s σ H Q I h => ?_⟩
  refine wpAny_Call_method m.base m.few m.line PySem.F.plainAttrs_dict PySem.F.slot_dict_get PySem.F.type_dict_get (thn (ho.run pins s σ H (fun v H' => v = .ref a ∧ H' = H) I ⟨rfl, rfl⟩) fun u s1 ⟨x, H1, I1, rx, ex, eH⟩ => ?_)
  subst ex eH
  obtain rfl : u = Value.ref a := rx
  refine ⟨kd_type D I1, fun b q => ?_, ?_⟩
  · cases q
    exact ⟨_, I1.kIn _ _ D.at_, rfl⟩
  rw [m.trees]
  refine Calls.callWith_builtin rfl (Calls.evalArgs_plain (Calls.spliced_cons (thn (he.run pins s1 σ H1 _ I1 h) fun iv s2 ⟨y, H2, I2, ry, q2⟩ =>
    Calls.spliced_cons (thn (hf.run pins s2 σ H2 _ I2 q2) fun fv s3 ⟨z, H3, I3, rz, q3⟩ => Calls.spliced_nil ?_))))
  rcases q3 with ⟨k, v, ey, ⟨es2, n2, u0, hl, hk, e0, ru⟩, q3⟩ | ⟨ey, q3⟩
  · subst ey
    obtain ⟨t, rfl⟩ := (show ∃ t, iv = Value.str k t from ry)
    refine call_meetsIn PySem.F.slot_dict_get (kd_type D I3) PySem.F.entry_dict_get (PySem.F.args_dict_get_3 _ _ _) (meets_dict_get_default (strKind X.prog X.w) a (strKind_is X.prog X.w k t) D.low fv) ⟨_, PySem.W.mapOf_K I3.kIn hl hk, v, H3, I3.tok _, ?_, q3⟩
    rw [PySem.W.find_K hl e0]
    exact ru
  · subst ey
    obtain rfl : iv = Value.none := ry
    obtain ⟨g, hm, hg⟩ := none_mapK (P := X.prog) I3.kIn D
    refine call_meetsIn PySem.F.slot_dict_get (kd_type D I3) PySem.F.entry_dict_get (PySem.F.args_dict_get_3 _ _ _) (meets_dict_get_default (noneKind X.prog X.w) a (k := none) rfl D.low fv) ⟨_, hm, z, H3, I3.tok _, ?_, q3⟩
    rw [hg]
    exact rz
def wTGet (T : List (Str × PyData)) (we wf : DE) : DE := fun Γ Q E => we Γ (fun y Γ1 => wf Γ1 (fun z Γ2 => (∃ s d, y = .str s ∧ (s, d) ∈ T ∧ Q d Γ2) ∨ (y = .none ∧ Q z Γ2)) E) E
theorem de_tget {T : List (Str × PyData)} {we wf : DE} (h : GTab X.K X.w X.mg x T) (he : PE X e (tD X.K W we)) (hf : PE X f (tD X.K W wf)) (m : M2 X (.Name x p) "get" apos e f pos) (hg : Gl X x := by rfl) (hd : (x == ("__debug__" : Str)) = false := by decide) :
    PE X (.Call (.Attribute (.Name x p) "get" apos) [e, f] [] pos) (tD X.K W (wTGet T we wf)) := by
  obtain ⟨es, n, D⟩ := h.dict
  refine peImp (pe_kget2 D (pe_glob (v := .ref (He.ga X.K x)) hg h.glo rfl hd) he hf m) fun σ H Q ⟨F, S, Γ, Qd, Ed, en, hw, k, ke⟩ =>
    ⟨F, S, Γ, _, Ed, en, hw, fun y Γ1 v1 H1 hb m1 e1 r1 => ⟨F, S, Γ1, _, Ed, e1, hb, fun z Γ2 v2 H2 q m2 e2 r2 => ?_, ke⟩, ke⟩
  rcases q with ⟨s, d, ey, hm, q⟩ | ⟨ey, q⟩
  · subst ey
    cases r1
    obtain ⟨v, hk, hv⟩ := h.kd hm
    exact .inl ⟨s, v, rfl, hk, k d Γ2 v H2 q (m1.trans m2) e2 (hv _)⟩
  · subst ey
    cases r1
    exact .inr ⟨rfl, k z Γ2 v2 H2 q (m1.trans m2) e2 r2⟩
/-! ### x = [.. for .. if ..] -/
theorem ds_lcIf {i : Nat} {y : Str} {py : Pos} {elt tg iter : Expr} {ifs : List Expr} {scope : Scope} {own : List (Str × Nat)} {spos : Pos} {wi : DL} {g : TG} {gd : DG} {t : DB} {w : DE} (hc : X.calm = true) (hN : X.N.Nodup) (hy : X.N[i]? = some y) (hyl : X.env.scope.names.lookup y = some .local)
    (hsw : swapsWith (.ListComp elt [⟨tg, iter, ifs, 0⟩] scope pos) (some (.Name y py)) spos.line X.env = pure true) (hi : PI X tg iter (tI false X.K W wi)) (ok : BlkOk X.N X.env.scope scope own) (hgd : OkG X.K g gd (own.map (·.2)))
    (hg : ∀ (s : Shared) (H : Hp) (C : Addr) (cl : List (Str × Addr)) (fp : List Addr), PG (X.blk s H scope (compEnvC scope cl C X.env) fp) tg g) (ht : ∀ (s : Shared) (H : Hp) (C : Addr) (cl : List (Str × Addr)) (fp : List Addr), PTs (X.blk s H scope (compEnvC scope cl C X.env) fp) ifs (tB X.K W0 t))
    (he : ∀ (s : Shared) (H : Hp) (C : Addr) (cl : List (Str × Addr)) (fp : List Addr), PE (X.blk s H scope (compEnvC scope cl C X.env) fp) elt (tD X.K W0 w)) (hs : ∀ x, foldedSetIterable iter X.env x = pure x := by intro _; rfl) :
    PS X (.Assign [.Name y py] (.ListComp elt [⟨tg, iter, ifs, 0⟩] scope pos) spos) (tS X.K W (wSet i (wLc wi (stIf gd t w (own.map (·.2))) (own.map (·.2))))) :=
  ds_setBy (ps_setLc hc hN hy hyl hsw hi ok hg ht he hs) fun _ _ _ h => lc_rd (okst_if hgd) h
theorem ds_lcAll {i : Nat} {y : Str} {py : Pos} {elt tg iter : Expr} {scope : Scope} {own : List (Str × Nat)} {spos : Pos} {wi : DL} {g : TG} {gd : DG} {w : DE} (hc : X.calm = true) (hN : X.N.Nodup) (hy : X.N[i]? = some y) (hyl : X.env.scope.names.lookup y = some .local)
    (hsw : swapsWith (.ListComp elt [⟨tg, iter, [], 0⟩] scope pos) (some (.Name y py)) spos.line X.env = pure true) (hi : PI X tg iter (tI false X.K W wi)) (ok : BlkOk X.N X.env.scope scope own) (hgd : OkG X.K g gd (own.map (·.2)))
    (hg : ∀ (s : Shared) (H : Hp) (C : Addr) (cl : List (Str × Addr)) (fp : List Addr), PG (X.blk s H scope (compEnvC scope cl C X.env) fp) tg g)
    (he : ∀ (s : Shared) (H : Hp) (C : Addr) (cl : List (Str × Addr)) (fp : List Addr), PE (X.blk s H scope (compEnvC scope cl C X.env) fp) elt (tD X.K W0 w)) (hs : ∀ x, foldedSetIterable iter X.env x = pure x := by intro _; rfl) :
    PS X (.Assign [.Name y py] (.ListComp elt [⟨tg, iter, [], 0⟩] scope pos) spos) (tS X.K W (wSet i (wLc wi (stAll gd w (own.map (·.2))) (own.map (·.2))))) :=
  ds_setBy (ps_setLc hc hN hy hyl hsw hi ok hg (fun _ _ _ _ _ => pts_nil) he hs) fun _ _ _ h => lc_rd (okst_all hgd) h
end
end Dt

/-! Dat10: try .. except C as e: x = e, the exception kept. -/
namespace L2
open PySem PySem.Spec PyProof.Rows
def ExC (cls : Value) (d : Option Addr) (a : Addr) : HO := .ext fun h => ∃ (oe : Obj) (vs : Array Value), h.get? a = some oe ∧ Zc cls d oe ∧ oe.data = .fields vs
section
variable {X : Cx} {pins : List (Addr × Obj)} {σ : St} {H : Hp} {s : Shared}
theorem Inv.track {a : Addr} {oe : Obj} {vs : Array Value} {cls : Value} {d : Option Addr} (I : Inv X pins σ H s) (ha : s.heap.get? a = some oe) (na : H a = none) (hz : Zc cls d oe) (hd : oe.data = .fields vs) (n0 : X.s_0.heap.get? a = none) (nL : a ≠ X.env.locals)
    (np : ∀ p ∈ X.pn ++ pins, p.1 ≠ a) : Inv X pins σ (upd H a (ExC cls d a)) s := by
  have nb : ∀ b o, X.s_0.heap.get? b = some o → b ≠ a := fun b o q z => by rw [z, n0] at q; cases q
  refine ⟨I.ok, I.os, I.bare, ⟨I.base.keep, I.base.slot, fun b o q n hx => ?_, I.base.there, fun b xs q => ?_, fun b o xs q => ?_, fun b ps q => ?_⟩, I.loc, I.cell, ?_, fun x c q => ?_, fun p hp => ?_, I.hok.laidN (fun _ _ q => q) na ⟨⟨oe, vs, ha, hz, hd⟩, ⟨oe, ha⟩, fun _ _ ⟨o, v, q, r⟩ k => ⟨o, v, k o q, r⟩⟩, I.len⟩
  · rw [upd_ne (nb b o q)]
    exact I.base.free b o q n hx
  · have z := I.base.tups b xs q
    rw [upd_ne (ne_of_none z na)]
    exact z
  · have z := I.base.frzs b o xs q
    rw [upd_ne (ne_of_none z na)]
    exact z
  · obtain ⟨m, z⟩ := I.base.tbls b ps q
    exact ⟨m, by rw [upd_ne (ne_of_none z na)]; exact z⟩
  · rw [upd_ne nL.symm]
    exact I.free
  · obtain ⟨v, o, ho, hv⟩ := I.cell x c q
    have nc : c ≠ a := fun z => by
      rw [z, ha] at ho
      cases ho
      rw [hd] at hv
      cases hv
    rw [upd_ne nc]
    exact I.freeC x c q
  · obtain ⟨h1, h2, h3⟩ := I.pin p hp
    exact ⟨h1, by rw [upd_ne (np p hp)]; exact h2, h3⟩
end
/-- the clause 'except c as (slot i)', whose suite ends next; the exception is kept -/
def wKeep (K : PySem.W.Frag) (c : Value) (i : Nat) (ts : Addr → TS) (D : Ends) : WX := fun cls d σ H => PySem.W.exmOne K cls c = some true ∧
  ∀ a, H a = none → ts a { nx := fun σ' H' => D.nx (σ'.set i none) (upd H' a (ExC cls d a)), rt := fun _ _ => False, bk := fun _ _ => False, ct := fun _ _ => False } (σ.set i (some (.ref a))) H
section
variable {X : Cx} {x n : Str} {c : Value} {i : Nat} {body suite : List Stmt} {b₀ : Stmt} {np pos pos' : Pos} {tb : WX → TS} {ts : Addr → TS}
theorem ps_try_keep (hs : X.stack = X.env :: X.outer) (hf : X.env.frame = some X.env.locals) (hx : X.ex = []) (hN : X.N.Nodup) (hi : X.N[i]? = some n) (hln : X.env.kindOf n = some .local) (hc : Names X x c)
    (hb : ∀ (W : WX) (pn : List (Addr × Obj)) (xe : Value → Shared → Prop), Takes (X.tr pn xe) W → PassesOwn (model X.prog X.w) X.A X.env xe → PSs (X.tr pn xe) body (tb W))
    (hsu : ∀ (a : Addr) (pn : List (Addr × Obj)), PSs (X.suite a pn) (b₀ :: suite) (ts a)) :
    PS X (.Try body [.ExceptHandler (some (.Name x np)) (some n) (b₀ :: suite) pos'] [] [] pos) (fun D σ H => tb (wKeep X.K c i ts D) D σ H) := by
  refine ⟨fun pins s σ H D I h => ?_⟩
  have ok := I.ok
  refine wpAny_Try_except (wpAny_mono ((hb (wKeep X.K c i ts D) (X.pn ++ pins) (fun e s₁ => wpAny (model X.prog X.w) X.A (noteFrame e X.env) (fun _ s₂ => wpAny (model X.prog X.w) X.A (setFlight e none) (fun _ s₃ =>
    wpAny (model X.prog X.w) X.A (handleBy e X.env [.ExceptHandler (some (.Name x np)) (some n) (b₀ :: suite) pos']) (SP X pins D) X.xe s₃) X.xe s₂) X.xe s₁) (fun u s' xx => ?_) PassesOwn.looking).run [] s σ H D (I.toTry _) h) (fun f s1 hsp => ?_) (fun e s1 he => he))
  · -- caught
    obtain ⟨a, B, sI, pins', σ', H', cls, d, rfl, J', nb, up, sky, na, os, ag, hm, hyes⟩ := xx
    have J : Inv X pins σ' H' sI := J'.ofTry ok
    rw [show (X.tr (X.pn ++ pins) _).stack = X.env :: X.outer from hs] at sky
    rw [show frs (X.tr (X.pn ++ pins) _).stack = frs (X.env :: X.outer) by rw [← hs]] at nb
    refine Sky.land Zc.steady (by rw [ok.frames, hs]) hf sky fun h3 fl3 up3 => ?_
    have J3 : Inv X pins σ' H' { s' with heap := h3 } := J.landed (by rw [hs]; exact nb) fl3.1 (up.trans up3) os ag
    obtain ⟨oe3, vs3, he3, hz3, hd3⟩ := fl3.there
    have nfr : a ∉ frs (X.env :: X.outer) := fun hm => by
      obtain ⟨_, o', e', hnf⟩ := Heap.FunFrames.mem fl3.2.2.1 hm
      rw [he3] at e'
      cases e'
      exact hnf _ hd3
    have nI : sI.heap.get? a = none := by
      cases q : sI.heap.get? a with
      | none => rfl
      | some o =>
        have z := nb a o q nfr
        rw [fl3.2.1] at z
        cases z
    have n0 : X.s_0.heap.get? a = none := by
      cases q : X.s_0.heap.get? a with
      | none => rfl
      | some o =>
        obtain ⟨o', z⟩ := J.base.there a o q (by rw [hx]; exact fun z => nomatch z)
        rw [nI] at z
        cases z
    have nL : a ≠ X.env.locals := fun z => nfr (List.mem_filterMap.mpr ⟨X.env, List.mem_cons_self, by rw [hf, z]⟩)
    have nF : a ∉ X.fs := fun hm => by
      obtain ⟨e, he, q⟩ := List.mem_filterMap.mp hm
      exact nfr (List.mem_filterMap.mpr ⟨e, List.mem_cons_of_mem _ he, q⟩)
    have npin : ∀ p ∈ X.pn ++ pins, p.1 ≠ a := fun p hp z => by
      have q := (J.pin p hp).1
      rw [z, nI] at q
      cases q
    have S3 := J3.suite he3 hd3 na nL nF
    refine wpAny_handleBy_cons (codeAny_handlers_test ?_) (by intro q; cases q)
    have LT : PySem.W.Looks (model X.prog X.w) h3 (typeOf (.ref a)) cls := fun A Q E s k q => wpAny_typeOf_ref (k _ _ he3) (by rw [hz3.1]; exact q)
    have LM := PySem.W.exm_one (M := model X.prog X.w) J3.kIn LT hm
    have test : ∀ {Q : Value → Shared → Prop} {E : Value → Shared → Prop}, Q c { s' with heap := h3 } → wpAny (model X.prog X.w) (X.A.mark (some (.ref a))) (eval (.Name x np) X.env) Q E { s' with heap := h3 } := fun {Q E} q => by
      obtain ⟨hg, hdbg, hm | ⟨hm, hv, hnn⟩⟩ := hc
      · exact ld_glob (X := X.suite a ((a, oe3) :: (X.pn ++ pins))) S3 hg hm q hdbg
      · exact ld_blt (X := X.suite a ((a, oe3) :: (X.pn ++ pins))) S3 hg hm hv q hnn hdbg
    refine test (LM.here (codeAny_handlers_suite_as ?_))
    refine HandSPX.lands_againZ fl3 fun h4 fl4 up4 => ?_
    have J4 : Inv X pins σ' H' { s' with heap := h4 } := J.landed (by rw [hs]; exact nb) fl4.1 ((up.trans up3).trans up4) os ag
    obtain ⟨oe4, vs4, he4, hz4, hd4⟩ := fl4.there
    refine store_ok (X := X.suite a ((a, oe4) :: (X.pn ++ pins))) (v := .ref a) (J4.suite he4 hd4 na nL nF) hN hi (.inl hln) rfl (fun s5 S5 => ?_) (.inr hln)
    refine wpAny_mono ((hsu a ((a, oe4) :: (X.pn ++ pins))).run [] s5 _ H' _ S5 (hyes a na)) (fun f s6 hsp => ?_) (fun _ _ z => False.elim z)
    cases f with
    | next =>
      obtain ⟨σ6, H6, S6, q6⟩ := hsp
      refine gone_ok (X := X.suite a ((a, oe4) :: (X.pn ++ pins))) S6 hN hi hln fun s7 S7 => ⟨_, _, ?_, q6⟩
      obtain ⟨g7, n7, _⟩ := S7.pin (a, oe4) (List.mem_append_left _ List.mem_cons_self)
      exact (S7.unsuite ok).track g7 n7 hz4 hd4 n0 nL npin
    | brk =>
      obtain ⟨σ6, H6, S6, q6⟩ := hsp
      exact q6.elim
    | cont =>
      obtain ⟨σ6, H6, S6, q6⟩ := hsp
      exact q6.elim
    | ret u =>
      obtain ⟨v6, σ6, H6, S6, r6, q6⟩ := hsp
      exact q6.elim
  · cases f with
    | next =>
      obtain ⟨σ', H', J', q⟩ := hsp
      exact wpAny_execs_nil ⟨σ', H', J'.ofTry ok, q⟩
    | brk =>
      obtain ⟨σ', H', J', q⟩ := hsp
      exact ⟨σ', H', J'.ofTry ok, q⟩
    | cont =>
      obtain ⟨σ', H', J', q⟩ := hsp
      exact ⟨σ', H', J'.ofTry ok, q⟩
    | ret u =>
      obtain ⟨v, σ', H', J', r, q⟩ := hsp
      exact ⟨v, σ', H', J'.ofTry ok, r, q⟩
end
end L2

/-! Dat11: try over data; isinstance of own exceptions; .index, .count. -/
namespace Dt
open PySem L2
/-! ### the own exception classes -/
structure XF (K : PySem.W.Frag) (cs : List Str) : Prop where
  xc : ∀ c ∈ cs, XcK K c
  sg : ∀ c ∈ cs, PySem.W.exmOne K (.ref (He.ga K c)) (.ref (He.ga K "SignError")) = some true
  kit : ∀ c ∈ cs, ∀ d ∈ cs, PySem.W.kitOne K (.ref (He.ga K c)) (.ref (He.ga K d)) = some (decide (c = d))
  ve : ∀ c ∈ cs, PySem.W.kitOne K (.ref (He.ga K c)) (.type "ValueError") = some true
def xcB (K : PySem.W.Frag) (c : Str) : Bool :=
  He.eqO (PySem.W.findIn K (.ref (He.ga K c)) "__getattribute__") (some (some (.builtin "BaseException.__getattribute__"))) &&
  (He.eqO (PySem.W.findIn K (.ref (He.ga K c)) "__getattr__") (some none) &&
  (decide (PySem.W.subIn K (.ref (He.ga K c)) (.type "BaseException") = some true) &&
  (PySem.W.hasDictIn K (He.ga K c) &&
  (He.eqO (PySem.W.findIn K (.ref (He.ga K c)) "__class__") (some (some (.builtin "object.__class__"))) &&
  (He.eqO (PySem.W.specialIn K (.builtin "object.__class__") "__get__") (some (some (.builtin "getset_descriptor.__get__"))) &&
  (decide (PySem.W.takesIn K (.builtin "object.__class__") = some true) &&
  (decide (PySem.W.mroIn K (He.ga K c) (.type "object") = some true) &&
  ["int", "bool", "tuple", "list", "str", "dict"].all fun T => decide (PySem.W.kitOne K (.ref (He.ga K c)) (.type T) = some false))))))))
theorem xcB_ok {K : PySem.W.Frag} {c : Str} (h : xcB K c = true) : XcK K c := by
  obtain ⟨h1, h⟩ := He.ba h
  obtain ⟨h2, h⟩ := He.ba h
  obtain ⟨h3, h⟩ := He.ba h
  obtain ⟨h4, h⟩ := He.ba h
  obtain ⟨h5, h⟩ := He.ba h
  obtain ⟨h6, h⟩ := He.ba h
  obtain ⟨h7, h⟩ := He.ba h
  obtain ⟨h8, h9⟩ := He.ba h
  exact ⟨⟨He.eqO_ok h1, He.eqO_ok h2, of_decide_eq_true h3, h4, He.eqO_ok h5, He.eqO_ok h6, of_decide_eq_true h7, of_decide_eq_true h8⟩, fun T hT => of_decide_eq_true (List.all_eq_true.mp h9 T hT)⟩
def xfB (K : PySem.W.Frag) (cs : List Str) : Bool := cs.all fun c => xcB K c && (decide (PySem.W.exmOne K (.ref (He.ga K c)) (.ref (He.ga K "SignError")) = some true) && (decide (PySem.W.kitOne K (.ref (He.ga K c)) (.type "ValueError") = some true) &&
  cs.all fun d => decide (PySem.W.kitOne K (.ref (He.ga K c)) (.ref (He.ga K d)) = some (decide (c = d)))))
theorem xfB_ok {K : PySem.W.Frag} {cs : List Str} (h : xfB K cs = true) : XF K cs := by
  have g := fun c hc => He.ba (List.all_eq_true.mp h c hc)
  exact ⟨fun c hc => xcB_ok (g c hc).1, fun c hc => of_decide_eq_true (He.ba (g c hc).2).1, fun c hc d hd => of_decide_eq_true (List.all_eq_true.mp (He.ba (He.ba (g c hc).2).2).2 d hd), fun c hc => of_decide_eq_true (He.ba (He.ba (g c hc).2).2).1⟩
section
variable {X : Cx} {W : WX} {e a b : Expr} {pos p apos : Pos} {x : Str}
/-! ### try -/
def wTry (cs : List Str) (i j : Nat) (wb : DS) : DS := fun Γ k => wb Γ fun o Γ1 => match o with
  | .ex c => c ∈ cs ∧ i < Γ1.length ∧ k .nx (((Γ1.set i (.dat (excD c))).set j (.dat (excD c))).set i .no)
  | o => k o Γ1
theorem ds_try {n y : Str} {i j : Nat} {body : List Stmt} {np p1 p2 p3 pos' : Pos} {cs : List Str} {wb : DS} (hx : XF X.K cs) (hs : X.stack = X.env :: X.outer) (hf : X.env.frame = some X.env.locals) (hex : X.ex = []) (hN : X.N.Nodup) (hi : X.N[i]? = some n) (hln : X.env.kindOf n = some .local)
    (hm : X.mg "SignError" = some (.ref (He.ga X.K "SignError"))) (hg : Gl X "SignError")
    (hb : ∀ (W : WX) (pn : List (Addr × Obj)) (xe : Value → Shared → Prop), Takes (X.tr pn xe) W → PassesOwn (model X.prog X.w) X.A X.env xe → PSs (X.tr pn xe) body (tS X.K W wb))
    (hsu : ∀ (a : Addr) (pn : List (Addr × Obj)), PS (X.suite a pn) (.Assign [.Name y p1] (.Name n p2) p3) (tAsg (tVar i) (gName j))) :
    PS X (.Try body [.ExceptHandler (some (.Name "SignError" np)) (some n) [.Assign [.Name y p1] (.Name n p2) p3] pos'] [] [] pos) (tS X.K W (wTry cs i j wb)) :=
  psImp (ps_try_keep (c := .ref (He.ga X.K "SignError")) (tb := fun W => tS X.K W wb) (ts := fun _ => tAsg (tVar i) (gName j)) hs hf hex hN hi hln ⟨hg, by decide +kernel, .inl hm⟩ hb (fun a pn => pss_one (hsu a pn))) fun D σ H ⟨F, S, Γ, Qd, en, hw, k⟩ =>
    ⟨F, S, Γ, _, en, hw, fun o Γ1 S1 σ1 H1 q e1 => by
      cases o with
      | ex c =>
        obtain ⟨hc, hi1, q⟩ := q
        refine ⟨hx.sg c hc, fun a na => ?_⟩
        have hl : σ1.length = Γ1.length := e1.len.symm
        have e2 : En X.K F S1 Γ1 σ1 (upd H1 a (ExC (.ref (He.ga X.K c)) none a)) := e1.same (same_new na)
        have hv : Da X.K (off S1 (upd H1 a (ExC (.ref (He.ga X.K c)) none a))) (.ref a) (excD c) := .exc (by rw [off_in (e1.hid.free na)]; exact upd_same) (hx.xc c hc)
        have e3 := ((e2.set i hv).set j hv).drop i
        exact ⟨.ref a, by rw [List.getElem?_set_self (by rw [hl]; exact hi1)], k .nx _ S1 _ _ q e3⟩
      | nx => exact k _ _ _ _ _ q e1
      | rt d => exact k (.rt d) _ _ _ _ q e1
      | bk => exact k _ _ _ _ _ q e1
      | ct => exact k _ _ _ _ _ q e1⟩
/-! ### isinstance of what was caught -/
def wIsx (cs : List Str) (f : Str → Bool) (w : DE) : DE := fun Γ Q E => w Γ (fun d Γ1 => ∃ c, d = excD c ∧ c ∈ cs ∧ Q (.bool (f c)) Γ1) E
theorem de_isx {cs : List Str} {w : DE} {pt : Pos} {C : Str} (hx : XF X.K cs) (hC : C ∈ cs) (hg : Gl X "isinstance") (hm : X.mg "isinstance" = none) (ha : PE X a (tR X.K W w)) (hgC : Gl X C) (hmC : X.mg C = some (.ref (He.ga X.K C))) (hd : (C == ("__debug__" : Str)) = false := by decide)
    (h1 : starEach [a, Expr.Name C pt] X.env = (false, eval a X.env) :: starEach [Expr.Name C pt] X.env := by rfl) (h2 : starEach [Expr.Name C pt] X.env = (false, eval (Expr.Name C pt) X.env) :: starEach [] X.env := by rfl)
    (hpl : (backTo pos (starEach [Expr.Name C pt] X.env)).any (·.1) = false := by rfl) :
    PE X (.Call (.Name "isinstance" p) [a, .Name C pt] [] pos) (tD X.K W (wIsx cs (fun c => decide (c = C)) w)) :=
  peImp (pe_callB call_isK hg hm (by decide +kernel) (pa_cons ha (pa_cons (pe_glob (v := .ref (He.ga X.K C)) hgC hmC rfl hd) pa_nil h2) h1) (by decide) (by decide) h1 hpl) fun σ H Q ⟨F, S, Γ, Qd, Ed, en, hw, k, ke⟩ => ⟨F, S, Γ, _, Ed, en, hw, fun d Γ1 v H1 ⟨c, ed, hc, q⟩ m1 e1 hv => by
    subst ed
    obtain ⟨a, c', rfl, e, h1, h2⟩ := exc_of (hv.dr e1) rfl
    cases e
    exact ⟨a, c, .ref (He.ga X.K C), .ref (He.ga X.K C), _, rfl, h1, h2.ex, fun u hu => hu, hx.kit c hc C hC, k _ Γ1 _ H1 q m1 e1 (.bl _)⟩, ke⟩
theorem de_isv {cs : List Str} {w : DE} {pt : Pos} (hx : XF X.K cs) (hg : Gl X "isinstance") (hm : X.mg "isinstance" = none) (ha : PE X a (tR X.K W w)) (hT : PE X (.Name "ValueError" pt) (tC (.ty "ValueError")))
    (h1 : starEach [a, Expr.Name "ValueError" pt] X.env = (false, eval a X.env) :: starEach [Expr.Name "ValueError" pt] X.env := by rfl) (h2 : starEach [Expr.Name "ValueError" pt] X.env = (false, eval (Expr.Name "ValueError" pt) X.env) :: starEach [] X.env := by rfl)
    (hpl : (backTo pos (starEach [Expr.Name "ValueError" pt] X.env)).any (·.1) = false := by rfl) :
    PE X (.Call (.Name "isinstance" p) [a, .Name "ValueError" pt] [] pos) (tD X.K W (wIsx cs (fun _ => true) w)) :=
  peImp (pe_callB call_isK hg hm (by decide +kernel) (pa_cons ha (pa_cons hT pa_nil h2) h1) (by decide) (by decide) h1 hpl) fun σ H Q ⟨F, S, Γ, Qd, Ed, en, hw, k, ke⟩ => ⟨F, S, Γ, _, Ed, en, hw, fun d Γ1 v H1 ⟨c, ed, hc, q⟩ m1 e1 hv => by
    subst ed
    obtain ⟨a, c', rfl, e, h1, h2⟩ := exc_of (hv.dr e1) rfl
    cases e
    exact ⟨a, c, .ty "ValueError", .type "ValueError", _, rfl, h1, h2.ex, fun u hu => hu, hx.ve c hc, k _ Γ1 _ H1 q m1 e1 (.bl _)⟩, ke⟩
/-! ### l.index(x), l.count(x) -/
def wLm (op : List PyData → PyData → PyData → Prop) (wo we : DE) : DE := fun Γ Q E => wo Γ (fun x Γ1 => ∃ ds, x = .list ds ∧ we Γ1 (fun y Γ2 => ∃ d, op ds y d ∧ Q d Γ2) E) E
def IdxL (ds : List PyData) (y d : PyData) : Prop := ∃ (j : Nat) (z : PyData), d = .int (j : Nat) ∧ SeqAt.shaped (.list ds) = true ∧ SeqAt.shaped y = true ∧ ds[j]? = some z ∧ PyData.eqv z y = true ∧ ∀ (m : Nat) (z' : PyData), m < j → ds[m]? = some z' → PyData.eqv z' y = false
def CntL (ds : List PyData) (y d : PyData) : Prop := d = .int ((ds.countP fun z => PyData.eqv z y : Nat) : Int) ∧ SeqAt.shaped (.list ds) = true ∧ SeqAt.shaped y = true
theorem mt_countD (hu : X.A.units + 65 < cLine) : MtR X "list.count" (fun x xs H Q => ∃ (a : Addr) (y : V) (d : PyData) (ds : List PyData), x = V.ref a ∧ xs = [y] ∧ Dp X.K H (V.ref a) (.list ds) ∧ Dp X.K H y d ∧ SeqAt.shaped (.list ds) = true ∧ SeqAt.shaped d = true ∧ Q (.int ((ds.countP fun z => PyData.eqv z d : Nat) : Int)) H) := by
  intro pins s σ H x xs v us Q I rx rxs h
  obtain ⟨a, y, d, ds, rfl, rfl, hl, hy, sl, sd, q⟩ := h
  cases rx
  cases rxs with
  | cons ry rt =>
    rename_i uy ut
    cases rt
    obtain ⟨bs, r1⟩ := Dp.reads I d y uy hy ry
    have hxs : PyData.canLayAll0 ds = true := SeqAt.canLay_of_shaped sl
    have hroom : X.A.units + 1 + min (PyData.depthAll ds) d.depth < cLine := PyProof.Rows.room_in_shaped sd hu
    cases hl with
    | lst hs ha =>
      obtain ⟨its, rv, ⟨⟨cls, dd, data, sls⟩, n, ho, hc, hdn, hdt⟩, hlen⟩ := I.list hs
      simp only at hc hdt
      subst hc hdt
      obtain ⟨as, h4⟩ := Dp.readsAll I ds _ its ha rv
      have hmap : its.map (SeqAt.readOf s.heap) = ds := SeqAt.readsAll_map ds its as hxs h4
      refine call_meets PySem.F.slot_list_count ⟨_, ho, rfl⟩ PySem.F.entry_list_count (PySem.F.args_list_count_2 _ _)
        (SeqAt.list_countAt a its.toArray n dd sls uy (fun u => PyData.eqv (SeqAt.readOf s.heap u) d)) ⟨ho, SeqAt.items_eqAt (vs := its.toArray) (show ReadsAll s.heap its.toArray.toList ds as from h4) r1 hxs (SeqAt.canLay_of_shaped sd) hroom, ?_⟩
      refine ⟨.int _, H, I.tok _, ⟨_, rfl⟩, ?_⟩
      have ec : its.toArray.toList.countP (fun u => PyData.eqv (SeqAt.readOf s.heap u) d) = ds.countP fun z => PyData.eqv z d := by
        rw [← hmap, List.countP_map]
        rfl
      rw [ec]
      exact q
theorem de_lidx {j : Nat} {wo we : DE} {o : Expr} (hr : Room j X.A) (ho : PE X o (tR X.K W wo)) (he : PE X e (tR X.K W we)) (h : PE X (.Call (.Attribute o "index" apos) [e] [] pos) (tBM X.K "list" (rIndexD X.K) (tR X.K W wo) (tCons (tR X.K W we) tNil))) :
    PE X (.Call (.Attribute o "index" apos) [e] [] pos) (tD X.K W (wLm IdxL wo we)) := peImp h fun σ H Q ⟨F, S, Γ, Qd, Ed, en, hw, k, ke⟩ => ⟨F, S, Γ, _, Ed, en, hw, fun x Γ1 v1 H1 ⟨ds, ex, hb⟩ m1 e1 r1 => by
    subst ex
    obtain ⟨a, vs, rfl, h1, h2⟩ := (r1.dr e1).list
    refine ⟨.inl ⟨rfl, vs, .of h1⟩, F, S, Γ1, _, Ed, e1, hb, fun y Γ2 v2 H2 ⟨d, ⟨jj, z, ed, s1, s2, hz, hq, hn⟩, q⟩ m2 e2 r2 => ?_, ke⟩
    subst ed
    exact ⟨a, v2, y, ds, jj, z, rfl, rfl, ((r1.mv m2).dr e2).dp (SeqAt.canLay_of_shaped s1), (r2.dr e2).dp (SeqAt.canLay_of_shaped s2), s1, s2, hz, hq, hn, k _ Γ2 _ H2 q (m1.trans m2) e2 (.int _)⟩, ke⟩
theorem de_lcnt {j : Nat} {wo we : DE} {o : Expr} (hr : Room j X.A) (ho : PE X o (tR X.K W wo)) (he : PE X e (tR X.K W we)) (h : PE X (.Call (.Attribute o "count" apos) [e] [] pos) (tBM X.K "list" (fun x xs H Q => ∃ (a : Addr) (y : V) (d : PyData) (ds : List PyData), x = V.ref a ∧ xs = [y] ∧ Dp X.K H (V.ref a) (.list ds) ∧ Dp X.K H y d ∧ SeqAt.shaped (.list ds) = true ∧ SeqAt.shaped d = true ∧ Q (.int ((ds.countP fun z => PyData.eqv z d : Nat) : Int)) H) (tR X.K W wo) (tCons (tR X.K W we) tNil))) :
    PE X (.Call (.Attribute o "count" apos) [e] [] pos) (tD X.K W (wLm CntL wo we)) := peImp h fun σ H Q ⟨F, S, Γ, Qd, Ed, en, hw, k, ke⟩ => ⟨F, S, Γ, _, Ed, en, hw, fun x Γ1 v1 H1 ⟨ds, ex, hb⟩ m1 e1 r1 => by
    subst ex
    obtain ⟨a, vs, rfl, h1, h2⟩ := (r1.dr e1).list
    refine ⟨.inl ⟨rfl, vs, .of h1⟩, F, S, Γ1, _, Ed, e1, hb, fun y Γ2 v2 H2 ⟨d, ⟨ed, s1, s2⟩, q⟩ m2 e2 r2 => ?_, ke⟩
    subst ed
    exact ⟨a, v2, y, ds, rfl, rfl, ((r1.mv m2).dr e2).dp (SeqAt.canLay_of_shaped s1), (r2.dr e2).dp (SeqAt.canLay_of_shaped s2), s1, s2, k _ Γ2 _ H2 q (m1.trans m2) e2 (.int _)⟩, ke⟩
/-! ### T.index(x), T a tuple of texts of the module -/
structure GTup (K : PySem.W.Frag) (mg : Str → Option Value) (x : Str) (ys : List Str) : Prop where
  glo : mg x = some (.ref (He.ga K x))
  obj : ∃ o, K.lookup (He.ga K x) = some o ∧ o.cls = .type "tuple" ∧ o.dict = none
  sq : ∀ H, SqT K H (He.ga K x) (ys.map V.str)
def tupN (K : PySem.W.Frag) (x : Str) (ys : List Str) : Bool := strsAt K (He.ga K x) ys && (match K.lookup (He.ga K x) with
  | some ⟨.type c, none, _, _⟩ => decide (c = "tuple")
  | _ => false)
theorem tupN_ok {K : PySem.W.Frag} {mg : Str → Option Value} {x : Str} {ys : List Str} (hm : mg x = some (.ref (He.ga K x))) (h : tupN K x ys = true) : GTup K mg x ys := by
  obtain ⟨h1, h2⟩ := He.ba h
  refine ⟨hm, ?_, strsAt_ok h1⟩
  cases q : K.lookup (He.ga K x) with
  | none => rw [q] at h2; cases h2
  | some o =>
    obtain ⟨oc, od, dt, osl⟩ := o
    rw [q] at h2
    cases oc with
    | type c =>
      cases od with
      | none => exact ⟨_, rfl, congrArg Value.type (of_decide_eq_true h2), rfl⟩
      | some _ => cases h2
    | _ => cases od <;> cases h2
def wGIdx (ys : List Str) (w : DE) : DE := fun Γ Q E => w Γ (fun y Γ1 => ∃ z j, y = .str z ∧ ys[j]? = some z ∧ (∀ m, m < j → ys[m]? ≠ some z) ∧ Q (.int (j : Nat)) Γ1) E
theorem de_gidx {ys : List Str} {w : DE} (hT : GTup X.K X.mg x ys) (he : PE X e (tR X.K W w)) (h : PE X (.Call (.Attribute (.Name x p) "index" apos) [e] [] pos) (tBM X.K "tuple" (fun x xs H Q => ∃ p, ∃ ys : List Str, ∃ z j, x = .ref p ∧ xs = [.str z] ∧ SqT X.K H p (ys.map V.str) ∧ ys[j]? = some z ∧ (∀ m, m < j → ys[m]? ≠ some z) ∧ Q (.int (j : Nat)) H) (tC (.ref (He.ga X.K x))) (tCons (tR X.K W w) tNil))) :
    PE X (.Call (.Attribute (.Name x p) "index" apos) [e] [] pos) (tD X.K W (wGIdx ys w)) := peImp h fun σ H Q ⟨F, S, Γ, Qd, Ed, en, hw, k, ke⟩ => ⟨.inr (.inl ⟨rfl, hT.obj⟩), F, S, Γ, _, Ed, en, hw, fun y Γ1 v H1 ⟨z, j, ey, hz, hn, q⟩ m1 e1 r1 => by
    subst ey
    rw [(r1.dr e1).str]
    exact ⟨_, ys, z, j, rfl, rfl, hT.sq H1, hz, hn, k _ Γ1 _ H1 q m1 e1 (.int _)⟩, ke⟩
end
end Dt

/-! Dat12: l[::-1]; a new list of one's own by +. -/
namespace Dt
open PySem L2
section
variable {X : Cx} {W : WX} {e a b : Expr} {pos p p1 p2 p3 : Pos}
def wRev (w : DE) : DE := fun Γ Q E => w Γ (fun x Γ1 => ∃ ds, x = .list ds ∧ Q (.list ds.reverse) Γ1) E
theorem DaL.rev {K : PySem.W.Frag} {H : Hp} : ∀ {vs : List V} {ds : List PyData}, DaL K H vs ds → DaL K H vs.reverse ds.reverse
  | _, _, .nil => .nil
  | _, _, .cons h t => by
    rw [List.reverse_cons, List.reverse_cons]
    exact (DaL.rev t).append (.cons h .nil)
theorem de_rev {k : Nat} {w : DE} (he : PE X e (tR X.K W w)) : PE X (.Subscript e (.Slice none none (some (.UnaryOp .USub (.Constant (.int 1) k p1) p2)) p3) pos) (tD X.K W (wRev w)) :=
  peImp (pe_revL he) fun σ H Q ⟨F, S, Γ, Qd, Ed, en, hw, k, ke⟩ => ⟨F, S, Γ, _, Ed, en, hw, fun x Γ1 v1 H1 ⟨ds, ex, q⟩ m1 e1 r1 => by
    subst ex
    obtain ⟨a, vs, rfl, h1, h2⟩ := (r1.dr e1).list
    exact ⟨a, vs, rfl, .of h1, fun p hp => k _ Γ1 _ _ q (m1.trans (.of (same_new hp))) (e1.same (same_new hp)) (.newL e1.hid hp (h2.rev))⟩, ke⟩
/-- a new list: a + b -/
def wCatF (wa wb : DE) : DL := fun Γ Q E => wa Γ (fun x Γ1 => wb Γ1 (fun y Γ2 => ∃ xs ys, x = .list xs ∧ y = .list ys ∧ xs.length + ys.length ≤ sizeLine ∧ Q (xs ++ ys) Γ2) E) E
theorem df_cat {wa wb : DE} (ha : PE X a (tR X.K W wa)) (hb : PE X b (tR X.K W wb)) : PE X (.BinOp a .Add b pos) (tF X.K W (wCatF wa wb)) :=
  peImp (pe_op op_cat ha hb) fun σ H Q ⟨F, S, Γ, Qd, Ed, en, hw, k, ke⟩ => ⟨F, S, Γ, _, Ed, en, hw, fun x Γ1 v1 H1 hb m1 e1 r1 => ⟨F, S, Γ1, _, Ed, e1, hb, fun y Γ2 v2 H2 ⟨xs, ys, ex, ey, hz, q⟩ m2 e2 r2 => by
    subst ex ey
    obtain ⟨a1, u1, rfl, h1, g1⟩ := ((r1.mv m2).dr e2).list
    obtain ⟨a2, u2, rfl, h2, g2⟩ := (r2.dr e2).list
    refine ⟨a1, a2, u1, u2, rfl, rfl, h1, h2, by rw [g1.length, g2.length]; exact hz, fun p hp => ?_⟩
    exact k _ Γ2 p _ _ q (e2.hide hp) upd_same ((g1.append g2).mono (same_hide hp)) (e2.fresh0 hp) (fun z => e2.hid p (e2.tin p z) hp) (e2.nomut hp), ke⟩, ke⟩
end
theorem bt_ValueError : bootBuiltins "ValueError" = some (.type "ValueError") := by decide +kernel
end Dt

/-! Dat13: sorted(set(l)) of a list of ints. -/
namespace Dt
open PySem L2 PyProof.Rows
section
variable {P : Program} {w : World} {A : Around} {E : Value → Shared → Prop} {s : Shared}
/-- the empty set, as it is made -/
abbrev set0 (w : World) : Obj := { cls := .type "set", dict := none, data := .set #[] 0 (.fresh 0 0 (!w.params.followText "set-order")) }
abbrev heap0 (w : World) (s : Shared) : Heap := s.heap.push (set0 w)
/-- what set.__init__ leaves -/
def Filled (w : World) (s : Shared) (ns : List Int) (r : Value) (s2 : Shared) : Prop := r = .none ∧ ∃ h' tk c, s2 = { s with heap := h', toks := tk } ∧ SetR w h' s.heap.objs.size (fun j => decide (j ∈ ns)) c ∧ c ≤ ns.length ∧ ∀ b o, s.heap.get? b = some o → h'.get? b = some o
theorem ints_at {items : Array Value} {ns : List Int} (hit : IntsAre items.toList ns) (hn : items.size = ns.length) (i : Nat) (v : Value) (hv : items[i]? = some v) : ∃ k t, ns[i]? = some k ∧ v = .int k t := by
  have hi : i < ns.length := hn ▸ (Array.getElem?_eq_some_iff.mp hv).1
  obtain ⟨t, e⟩ := IntsAre.int_at hit i v ((Array.getElem?_toList).trans hv)
  exact ⟨ns[i], t, List.getElem?_eq_getElem hi, by rw [e, List.getD_eq_getElem?_getD, List.getElem?_eq_getElem hi]; rfl⟩
theorem set_of_list {l : Addr} {items : Array Value} (ns : List Int) {Q : Value → Shared → Prop} (hh : A.handled = none) (hl : s.heap.IsList l items) (hit : IntsAre items.toList ns) (hb : ns.length + 1 < scanBound)
    (h : ∀ r s2, Filled w s ns r s2 → Q (.ref s.heap.objs.size) s2) : wpAny (model P w) A (call (.type "set") [.ref l]) Q E s := by
  have hn : items.size = ns.length := by have q := IntsAre.length hit; rwa [Array.length_toList] at q
  obtain ⟨_, _, g1⟩ := F.called_set.mro
  have g2 := F.called_set.made; have g3 := F.called_set.sub; have g4 := F.called_set.notType; have g5 := F.called_set.canCreate; have g6 := F.typeCall_set_1 (.ref l)
  refine wpAny_call (codeAny_of_tree (show wpAny _ _ (callAny (.type "set") _) _ _ _ from wpAny_pure ⟨Code.quiet_builtin _ (by decide +kernel), codeAny_builtin F.entry_type_call ?_⟩))
  rw [Around.under_plain (weight_type_call_type "set" [.ref l] []) rfl]
  repeat (any_goals (first | assumption | wp_step))
  refine codeAny_mono (code_set_led1 (.ref l) (E := E) (Q₁ := fun v t => v = .ref s.heap.objs.size ∧ t = { s with heap := heap0 w s }) ⟨rfl, rfl⟩) fun r t hr => ?_
  match r, hr with
  | .error _, z => exact z
  | .ok (.ret _), ⟨e1, e2⟩ =>
    subst e1 e2
    have o0 : (heap0 w s).get? s.heap.objs.size = some (set0 w) := Heap.get?_push_size _ rfl
    have ty : Shared.TypeIs { s with heap := heap0 w s } (.ref s.heap.objs.size) "set" := ⟨_, o0, rfl⟩
    have g7 := F.called_set.init.lookup; have g8 := F.called_set.init.bind (.ref s.heap.objs.size)
    repeat (any_goals (first | assumption | wp_step))
    refine codeAny_mono (codeAny_call_builtin (R := wants (Filled w s ns) E) F.called_set.init.plain F.entry_set_init (check_set_init_1 ty ?_)) fun r2 t2 hr2 => ?_
    · obtain ⟨ol, ho, hcl, nl, hdl⟩ := hl
      obtain ⟨oc, od, oda, osl⟩ := ol
      cases hcl; cases hdl
      have lt : l < s.heap.objs.size := Heap.lt_size ho
      have sz : (heap0 w s).objs.size = s.heap.objs.size + 1 := Heap.size_push ..
      have ho1 : (heap0 w s).get? l = some { cls := .type "list", dict := od, data := .seq items nl, slots := osl } := Heap.get?_push_of_some _ ho
      have hl1 : (heap0 w s).IsList l items := ⟨_, ho1, rfl, nl, rfl⟩
      have k1 := F.sub_list_set; have k2 := F.sub_list_frozenset; have k3 : (Value.type "list" == Value.type "dict") = false := by decide
      have ne1 : l ≠ (heap0 w s).objs.size := fun e => absurd (e.trans sz) (Nat.ne_of_lt (Nat.lt_succ_of_lt lt))
      have nin : s.heap.objs.size ∉ [(heap0 w s).objs.size, l] := by
        simp only [List.mem_cons, List.not_mem_nil, or_false, not_or]
        exact ⟨fun e => absurd (e.trans sz) (Nat.ne_of_lt (Nat.lt_succ_self _)), Nat.ne_of_gt lt⟩
      unfold Builtin.«set.__init__» noKeywords Builtin.Frozenset.updateFrom
      generalize hp : pyIter = pit
      wp_walk
      subst hp
      refine wpAny_pyIter_list hl1 (wpAny_bind (wpAny_runValue ?_))
      refine set_update_ints ((Walks.list (by simp [hh]) _ l ne1 items).toS) s.heap.objs.size nin ns hn hb (ints_at hit hn) (items.size - 0) 0 _ (by omega) (Nat.zero_le _)
        ⟨⟨_, Heap.get?_push_size _ rfl, rfl, rfl⟩, hl1.push _⟩ ⟨0, Nat.le_refl 0, setR_new_at (Heap.get?_push_of_some _ o0)⟩ fun t3 c hm hc hS => ?_
      obtain ⟨h3, x1, x2, tk3, x3⟩ := t3
      have e1 : x1 = s.gens := hm.gens
      have e2 : x2 = s.drawn := hm.drawn
      have e3 : x3 = s.os := hm.os
      subst e1 e2 e3
      refine wpAny_pure (show wpAny _ _ (ret Value.none) _ _ _ from wpAny_pure ⟨rfl, h3, tk3, c, rfl, hS, hn ▸ hc, fun b o e => ?_⟩)
      have lb : b < s.heap.objs.size := Heap.lt_size e
      refine hm.heap b o ?_ (Heap.get?_push_of_some _ (Heap.get?_push_of_some _ e))
      simp only [List.mem_cons, List.not_mem_nil, or_false, not_or]
      exact ⟨Nat.ne_of_lt lb, fun e => absurd (e.trans sz) (Nat.ne_of_lt (Nat.lt_succ_of_lt lb))⟩
    · match r2, hr2 with
      | .error _, z => exact z
      | .ok (.ret v), z =>
        have z1 := z.1
        subst z1
        repeat (any_goals (first | assumption | wp_step))
        exact h _ _ z
      | .ok .next, z => exact z.elim
      | .ok .brk, z => exact z.elim
      | .ok .cont, z => exact z.elim
  | .ok .next, z => exact z.elim
  | .ok .brk, z => exact z.elim
  | .ok .cont, z => exact z.elim
end
/-- set(l) of a list of ints -/
def rSetL (K : PySem.W.Frag) (w : World) : List V → Hp → VK → Prop := fun xs H Q => ∃ (l : Addr) (ns : List Int), xs = [.ref l] ∧ SqL K H l (ns.map V.int) ∧ ns.length ≤ 1000 ∧ ∀ p c, H p = none → c ≤ ns.length → Q (.ref p) (upd H p (SetO w p (fun j => decide (j ∈ ns)) c))
section
variable {X : Cx} {W : WX} {e : Expr} {p p2 pos pos2 : Pos}
theorem cr_setL (hc : X.calm = true) : CallR X (.type "set") (rSetL X.K X.w) := by
  intro pins s σ H xs us Q I r h
  obtain ⟨l, ns, rfl, hl, hn, q⟩ := h
  rw [Vals.ref1 r]
  obtain ⟨its, rv, pl, hz⟩ := I.list hl
  refine set_of_list ns (I.ok.hd hc) pl.isList (by simpa using ints_of_vals rv) (by unfold scanBound; omega) fun r2 s2 hF => ?_
  obtain ⟨_, h', tk, c, rfl, R, hcn, k⟩ := hF
  exact ⟨.ref _, _, I.laid (t' := tk) k (Nat.le_refl _) (setO_new R), rfl, q _ c (I.hok.fresh (Nat.le_refl _)) hcn⟩
/-! ### rising -/
def insU (x : Int) : List Int → List Int
  | [] => [x]
  | y :: r => if x < y then x :: y :: r else if x = y then y :: r else y :: insU x r
def usort (ns : List Int) : List Int := ns.foldr insU []
theorem mem_insU {x z : Int} : ∀ {l : List Int}, z ∈ insU x l ↔ z = x ∨ z ∈ l
  | [] => by simp [insU]
  | y :: r => by
    unfold insU
    by_cases a : x < y
    · simp [a]
    · by_cases b : x = y
      · subst b; simp [a]
      · simp only [a, b, if_false, List.mem_cons, mem_insU (l := r)]
        constructor
        · rintro (h | h | h) <;> simp [h]
        · rintro (h | h | h) <;> simp [h]
theorem insU_up {x : Int} : ∀ {l : List Int}, l.Pairwise (· < ·) → (insU x l).Pairwise (· < ·)
  | [], _ => List.pairwise_singleton _ _
  | y :: r, h => by
    obtain ⟨h1, h2⟩ := List.pairwise_cons.mp h
    unfold insU
    by_cases a : x < y
    · rw [if_pos a]
      refine List.pairwise_cons.mpr ⟨fun z hz => ?_, h⟩
      rcases List.mem_cons.mp hz with rfl | hz
      · exact a
      · exact Int.lt_trans a (h1 z hz)
    · rw [if_neg a]
      by_cases b : x = y
      · rw [if_pos b]; exact h
      · rw [if_neg b]
        refine List.pairwise_cons.mpr ⟨fun z hz => ?_, insU_up h2⟩
        rcases mem_insU.mp hz with rfl | hz
        · omega
        · exact h1 z hz
theorem usort_up (ns : List Int) : (usort ns).Pairwise (· < ·) := by
  induction ns with
  | nil => exact List.Pairwise.nil
  | cons x r ih => exact insU_up ih
theorem mem_usort {z : Int} (ns : List Int) : z ∈ usort ns ↔ z ∈ ns := by
  induction ns with
  | nil => exact Iff.rfl
  | cons x r ih =>
    show z ∈ insU x (usort r) ↔ _
    rw [mem_insU, ih, List.mem_cons]
theorem up_eq : ∀ {a b : List Int}, a.Pairwise (· < ·) → b.Pairwise (· < ·) → (∀ z, z ∈ a ↔ z ∈ b) → a = b
  | [], [], _, _, _ => rfl
  | [], y :: b, _, _, h => absurd ((h y).mpr List.mem_cons_self) List.not_mem_nil
  | x :: a, [], _, _, h => absurd ((h x).mp List.mem_cons_self) List.not_mem_nil
  | x :: a, y :: b, h1, h2, h => by
    obtain ⟨p1, q1⟩ := List.pairwise_cons.mp h1
    obtain ⟨p2, q2⟩ := List.pairwise_cons.mp h2
    have e : x = y := by
      have a1 := (h x).mp List.mem_cons_self
      have a2 := (h y).mpr List.mem_cons_self
      rcases List.mem_cons.mp a1 with a1 | a1
      · exact a1
      · rcases List.mem_cons.mp a2 with a2 | a2
        · exact a2.symm
        · have := p2 x a1
          have := p1 y a2
          omega
    subst e
    refine congrArg (x :: ·) (up_eq q1 q2 fun z => ?_)
    have hz := h z
    constructor
    · intro hz1
      rcases List.mem_cons.mp (hz.mp (List.mem_cons_of_mem _ hz1)) with e | e
      · have := p1 z hz1; omega
      · exact e
    · intro hz1
      rcases List.mem_cons.mp (hz.mpr (List.mem_cons_of_mem _ hz1)) with e | e
      · have := p2 z hz1; omega
      · exact e
/-- sorted(set(e)) -/
def wSrtSet (w : DE) : DE := fun Γ Q E => w Γ (fun d Γ1 => ∃ ns : List Int, d = .list (ns.map .int) ∧ ns.length < 64 ∧ Q (.list ((usort ns).map .int)) Γ1) E
theorem de_srtset {w : DE} (hc : X.calm = true) (hg : Gl X "sorted") (hm : X.mg "sorted" = none) (hg2 : Gl X "set") (hm2 : X.mg "set" = none) (he : PE X e (tR X.K W w))
    (he1 : starEach [e] X.env = (false, eval e X.env) :: starEach [] X.env := by rfl) (he2 : starEach [.Call (.Name "set" p2) [e] [] pos2] X.env = (false, eval (.Call (.Name "set" p2) [e] [] pos2) X.env) :: starEach [] X.env := by rfl) :
    PE X (.Call (.Name "sorted" p) [.Call (.Name "set" p2) [e] [] pos2] [] pos) (tD X.K W (wSrtSet w)) :=
  peImp (pe_callB (cr_sortedSet hc) hg hm (by decide +kernel) (pa_cons (pe_callTy (cr_setL hc) hg2 hm2 boot_set (pa_cons he pa_nil he1) (by decide) (by decide) he1 rfl) pa_nil he2) (by decide) (by decide) he2 rfl) fun σ H Q ⟨F, S, Γ, Qd, Ed, en, hw, k, ke⟩ => by
    refine ⟨F, S, Γ, _, Ed, en, hw, fun d Γ1 v1 H1 ⟨ns, ed, hn, q⟩ m1 e1 r1 => ?_, ke⟩
    subst ed
    obtain ⟨a, vs, rfl, h1, h2⟩ := (r1.dr e1).list
    have e0 := h2.ints
    subst e0
    refine ⟨a, ns, rfl, .of h1, by omega, fun p1 c hp1 hc1 => ?_⟩
    refine ⟨p1, _, c, rfl, upd_same, by omega, fun ms q1 hs hm hl hq => ?_⟩
    have em : ms = usort ns := up_eq hs (usort_up ns) fun z => by rw [hm, mem_usort, decide_eq_true_eq]
    subst em
    have s1 := same_new (o := SetO X.w p1 (fun j => decide (j ∈ ns)) c) hp1
    have e2 := e1.same s1
    have s2 := same_new (o := .lst ((usort ns).map V.int)) hq
    exact k _ Γ1 _ _ q ((m1.trans (.of s1)).trans (.of s2)) (e2.same s2) (.newL e2.hid hq (.of_ints _))
end
end Dt

/-! Dat14: sorted, min, max of lists of data that are alike. -/
namespace Dt
open PySem L2
/-! ### a list that stands beside its data -/
def Pd (K : PySem.W.Frag) (h : Hp) (p : V × PyData) : Prop := Da K h p.1 p.2
theorem DaL.zip {K : PySem.W.Frag} {h : Hp} : ∀ {vs : List V} {ds : List PyData}, DaL K h vs ds → ∀ p ∈ vs.zip ds, Pd K h p
  | _, _, .nil, p, hp => by cases hp
  | _, _, .cons a t, p, hp => by
    rcases List.mem_cons.mp hp with rfl | hp
    · exact a
    · exact t.zip p hp
theorem DaL.unzip {K : PySem.W.Frag} {h : Hp} : ∀ {l : List (V × PyData)}, (∀ p ∈ l, Pd K h p) → DaL K h (l.map (·.1)) (l.map (·.2))
  | [], _ => .nil
  | p :: l, q => .cons (q p List.mem_cons_self) (DaL.unzip fun x hx => q x (List.mem_cons_of_mem _ hx))
theorem zip_snd {K : PySem.W.Frag} {h : Hp} : ∀ {vs : List V} {ds : List PyData}, DaL K h vs ds → (vs.zip ds).map (·.2) = ds ∧ (vs.zip ds).map (·.1) = vs
  | _, _, .nil => ⟨rfl, rfl⟩
  | _, _, .cons _ t => by
    obtain ⟨a, b⟩ := zip_snd t
    exact ⟨by rw [List.zip_cons_cons, List.map_cons, a], by rw [List.zip_cons_cons, List.map_cons, b]⟩
theorem each_zip {R : Value → V × PyData → Prop} : ∀ {vs : List V} {ds : List PyData} {us : List Value}, Vals vs us → vs.length = ds.length → (∀ (i : Nat) (v : V) (d : PyData) (u : Value), vs[i]? = some v → ds[i]? = some d → us[i]? = some u → RelV v u → R u (v, d)) → PySem.W.EachIs R us (vs.zip ds)
  | _, [], _, .nil, _, _ => .nil
  | _, [], _, .cons _ _, hl, _ => by cases hl
  | _, _ :: _, _, .nil, hl, _ => by cases hl
  | _, d :: ds, _, .cons r t, hl, h => .cons (h 0 _ d _ rfl rfl rfl r) (each_zip t (Nat.succ.inj hl) fun i v d u a b c e => h (i + 1) v d u (by simpa using a) (by simpa using b) (by simpa using c) e)
theorem readsAll_ix {h : Heap} : ∀ {us : List Value} {ds : List PyData} {as : List Addr}, ReadsAll h us ds as → ∀ (i : Nat) (u : Value) (d : PyData), us[i]? = some u → ds[i]? = some d → ∃ bs, Reads h u d bs
  | _, _, _, .nil, i, u, d, a, _ => by cases a
  | _, _, _, .cons r t, 0, u, d, a, b => by cases a; cases b; exact ⟨_, r⟩
  | _, _, _, .cons r t, i + 1, u, d, a, b => readsAll_ix t i u d (by simpa using a) (by simpa using b)
theorem each_vals : ∀ {out : List Value} {bs : List (V × PyData)}, PySem.W.EachIs (fun u p => RelV p.1 u) out bs → Vals (bs.map (·.1)) out
  | _, _, .nil => .nil
  | _, _, .cons r t => .cons r (each_vals t)
section
variable {X : Cx} {K : PySem.W.Frag} {W : WX}
/-- sorted(l) -/
structure SrtOk (ds : List PyData) : Prop where
  al : PySem.W.AllAlike ds
  so : PySem.W.Sortable ds
  ln : ds.length ≤ sizeLine
  dp : ∀ d ∈ ds, d.depth ≤ 60
  lay : PyData.canLayAll0 ds = true
def rSortD (K : PySem.W.Frag) : List V → Hp → VK → Prop := fun xs H Q => ∃ (a : Addr) (vs : List V) (ds : List PyData), xs = [.ref a] ∧ SqL K H a vs ∧ DpAll K H vs ds ∧ vs.length = ds.length ∧ SrtOk ds ∧
  ∀ p, H p = none → Q (.ref p) (upd H p (.lst (((vs.zip ds).mergeSort (PySem.W.dataLe false (·.2))).map (·.1))))
theorem cr_sortD (hu : X.A.units + 65 < cLine) : CallR X (.builtin "sorted") (rSortD X.K) := by
  intro pins s σ H xs us Q I r h
  obtain ⟨a, vs, ds, rfl, ha, hd, hl, ok, q⟩ := h
  rw [Vals.ref1 r]
  obtain ⟨its, rv, pl, hz⟩ := I.list ha
  obtain ⟨as, hr⟩ := Dp.readsAll I ds vs its hd rv
  have em : (vs.zip ds).map (·.2) = ds := List.map_snd_zip (by omega)
  have hlz : (vs.zip ds).length = ds.length := by rw [List.length_zip]; omega
  have e1 : PySem.W.EachIs (fun u p => RelV p.1 u) its (vs.zip ds) := each_zip rv hl fun _ _ _ _ _ _ _ e => e
  have e2 : PySem.W.EachIs (fun u p => ∃ as, Reads s.heap u p.2 as) its (vs.zip ds) := each_zip rv hl fun i v d u _ b c _ => readsAll_ix hr i u d c b
  refine PySem.W.sorted_data (enc := fun p : V × PyData => p.2) (by simpa using pl.isList) e1 e2 (by rw [em]; exact ok.al) (by rw [em]; exact ok.so) (by rw [hlz]; exact ok.ln) (fun b hb => ?_) fun out ho eo => ?_
  · have : b.2 ∈ ds := by rw [← em]; exact List.mem_map_of_mem hb
    have := ok.dp _ this
    omega
  · obtain ⟨ep, he⟩ := PyProof.Rows.sortedAll_at s.heap its (List.toArray out)
    have hlen : (((vs.zip ds).mergeSort (PySem.W.dataLe false (·.2))).map (·.1)).length ≤ sizeLine := by rw [List.length_map, List.length_mergeSort, hlz]; exact ok.ln
    exact ⟨.ref _, upd H (s.heap.objs.size + 1) (.lst (((vs.zip ds).mergeSort (PySem.W.dataLe false (·.2))).map (·.1))), I.laid (t' := s.toks) (fun _ _ => PyProof.Rows.sortedAll_old) (Nat.le_succ _) ⟨hlen, out, ep, each_vals eo, he⟩, rfl, q _ (I.hok.fresh (Nat.le_succ _))⟩
def SrtC (dx : List PyData) (d : PyData) : Prop := ∃ ds, dx = [.list ds] ∧ SrtOk ds ∧ d = .list (ds.mergeSort (PySem.W.dataLe false id))
theorem ok_sort : OkC K (rSortD K) SrtC := fun S H xs dx d Q hS ho hx k => by
  obtain ⟨ds, rfl, ok, rfl⟩ := ho
  obtain ⟨v, rfl, hv⟩ := hx.one
  obtain ⟨a, vs, rfl, h1, h2⟩ := hv.list
  refine ⟨a, vs, ds, rfl, .of h1, (h2.mono off_same).dp ok.lay, h2.length, ok, fun p hp => k _ _ (same_new hp) (.newL hS hp ?_)⟩
  have e : ds.mergeSort (PySem.W.dataLe false id) = ((vs.zip ds).mergeSort (PySem.W.dataLe false (·.2))).map (·.2) := by
    conv => lhs; rw [← (zip_snd h2).1]
    exact (List.map_mergeSort (f := fun x : V × PyData => x.2) (r := PySem.W.dataLe false fun x : V × PyData => x.2) (s := PySem.W.dataLe false id) fun _ _ _ _ => rfl).symm
  rw [e]
  exact DaL.unzip fun p hp => h2.zip p (List.mem_mergeSort.mp hp)
/-! ### min, max -/
def rBest (K : PySem.W.Frag) (best : PyData → List PyData → PyData) : List V → Hp → VK → Prop := fun xs H Q => ∃ (a : Addr) (vs : List V) (d : PyData) (ds : List PyData), xs = [.ref a] ∧ SqL K H a vs ∧ DpAll K H vs (d :: ds) ∧ vs.length = (d :: ds).length ∧ PySem.W.AlikeAll (d :: ds) ∧ PyData.depthAll (d :: ds) ≤ 60 ∧
  ∀ (i : Nat) (v : V), vs[i]? = some v → (d :: ds)[i]? = some (best d ds) → Q v H
theorem best_mem (f : PyData → PyData → Bool) : ∀ (ds : List PyData) (d : PyData), ds.foldl (fun a y => if f y a then y else a) d ∈ d :: ds
  | [], d => List.mem_cons_self
  | x :: ds, d => by
    rw [List.foldl_cons]
    have ih := best_mem f ds (if f x d then x else d)
    rcases List.mem_cons.mp ih with e | e
    · rw [e]
      cases f x d
      · exact List.mem_cons_self
      · exact List.mem_cons_of_mem _ List.mem_cons_self
    · exact List.mem_cons_of_mem _ (List.mem_cons_of_mem _ e)
theorem best_rd {pins : List (Addr × Obj)} {s : Shared} {σ : St} {H : Hp} {vs : List V} {its : List Value} {d b : PyData} {ds : List PyData} {as : List Addr} (I : Inv X pins σ H s) (rv : Vals vs its) (hl : vs.length = (d :: ds).length) (hr : ReadsAll s.heap its (d :: ds) as) (al : PySem.W.AlikeAll (d :: ds)) (hb : b ∈ d :: ds)
    {i : Nat} {u : Value} {h' : Heap} {tk : Nat} {bs : List Addr} (hu : its.toArray[i]? = some u) (hrd : Reads h' u b bs) (hk : ∀ c o, s.heap.get? c = some o → h'.get? c = some o) :
    ∃ v, vs[i]? = some v ∧ RelV v u ∧ (d :: ds)[i]? = some b ∧ Inv X pins σ H { s with heap := h', toks := tk } := by
  have hu' : its[i]? = some u := by simpa using hu
  have hi : i < its.length := (List.getElem?_eq_some_iff.mp hu').1
  have hvl : vs.length = its.length := rv.length
  have hdi : (d :: ds)[i]? = some ((d :: ds)[i]'(by omega)) := List.getElem?_eq_getElem (by omega)
  obtain ⟨cs, r1⟩ := readsAll_ix hr i u _ hu' hdi
  have e : (d :: ds)[i]'(by omega) = b := PySem.W.alike_unique _ _ u cs bs (al.1 _ (List.getElem_mem _) _ hb) (PySem.W.reads_keeps hk r1) hrd
  have hvi : vs[i]? = some (vs[i]'(by omega)) := List.getElem?_eq_getElem (by omega)
  obtain ⟨u', h1, h2⟩ := rv.get hvi
  rw [hu'] at h1
  cases h1
  exact ⟨_, hvi, h2, by rw [hdi, e], I.kept hk⟩
theorem cr_minD (hc : X.calm = true) (hu : X.A.units + 65 < cLine) : CallR X (.builtin "min") (rBest X.K PySem.W.minD) := by
  intro pins s σ H xs us Q I r h
  obtain ⟨a, vs, d, ds, rfl, ha, hd, hl, al, dp, q⟩ := h
  rw [Vals.ref1 r]
  obtain ⟨its, rv, pl, hz⟩ := I.list ha
  obtain ⟨as, hr⟩ := Dp.readsAll I (d :: ds) vs its hd rv
  refine PySem.W.min_list_data (I.ok.hd hc) (by simpa using pl.isList) (by simpa using hr) al (by omega) fun i u h' tk bs hv hrd hk => ?_
  obtain ⟨v, e1, e2, e3, J⟩ := best_rd (tk := tk) I rv hl hr al (best_mem PySem.W.dataLt ds d) hv hrd hk
  exact ⟨v, H, J, e2, q i v e1 e3⟩
theorem cr_maxD (hc : X.calm = true) (hu : X.A.units + 65 < cLine) : CallR X (.builtin "max") (rBest X.K PySem.W.maxD) := by
  intro pins s σ H xs us Q I r h
  obtain ⟨a, vs, d, ds, rfl, ha, hd, hl, al, dp, q⟩ := h
  rw [Vals.ref1 r]
  obtain ⟨its, rv, pl, hz⟩ := I.list ha
  obtain ⟨as, hr⟩ := Dp.readsAll I (d :: ds) vs its hd rv
  refine PySem.W.max_list_data (I.ok.hd hc) (by simpa using pl.isList) (by simpa using hr) al (by omega) fun i u h' tk bs hv hrd hk => ?_
  obtain ⟨v, e1, e2, e3, J⟩ := best_rd (tk := tk) I rv hl hr al (best_mem (fun y a => PySem.W.dataLt a y) ds d) hv hrd hk
  exact ⟨v, H, J, e2, q i v e1 e3⟩
def BestC (best : PyData → List PyData → PyData) (dx : List PyData) (d : PyData) : Prop := ∃ x xs, dx = [.list (x :: xs)] ∧ PySem.W.AlikeAll (x :: xs) ∧ PyData.depthAll (x :: xs) ≤ 60 ∧ PyData.canLayAll0 (x :: xs) = true ∧ d = best x xs
theorem ok_best {best : PyData → List PyData → PyData} : OkC K (rBest K best) (BestC best) := fun S H xs dx d Q hS ho hx k => by
  obtain ⟨y, ys, rfl, al, dp, lay, rfl⟩ := ho
  obtain ⟨v, rfl, hv⟩ := hx.one
  obtain ⟨a, vs, rfl, h1, h2⟩ := hv.list
  refine ⟨a, vs, y, ys, rfl, .of h1, (h2.mono off_same).dp lay, h2.length, al, dp, fun i v e1 e2 => ?_⟩
  obtain ⟨d, e3, e4⟩ := h2.getV e1
  rw [e2] at e3
  cases e3
  exact k _ H (.refl H) e4
/-- max(a, b), min(a, b) of ints -/
def Max2C (dx : List PyData) (d : PyData) : Prop := ∃ i j : Int, dx = [.int i, .int j] ∧ d = .int (if j > i then j else i)
theorem ok_max2 : OkC K (fun xs H Q => ∃ i j, xs = [.int i, .int j] ∧ Q (.int (if j > i then j else i)) H) Max2C := fun S H xs dx d Q hS ho hx k => by
  obtain ⟨i, j, rfl, rfl⟩ := ho
  obtain ⟨v, w, rfl, h1, h2⟩ := hx.two
  rw [h1.int, h2.int]
  exact ⟨i, j, rfl, k _ H (.refl H) (.int _)⟩
theorem bt_sorted : bootBuiltins "sorted" = some (.builtin "sorted") := by decide +kernel
theorem bt_min : bootBuiltins "min" = some (.builtin "min") := by decide +kernel
theorem bt_max : bootBuiltins "max" = some (.builtin "max") := by decide +kernel
end
end Dt

/-! Dat15: d.keys(), list(d.keys()), sorted(d.keys()). -/
namespace Dt
open PySem L2 PyProof.Rows
/-- a view of the keys of d -/
def KvO (d p : Addr) : HO := .ext fun h => PySem.W.KdlKeysView h p d
theorem kvO_new {P : Program} {w : World} {H : Hp} {h : Heap} {d p : Addr} (R : PySem.W.KdlKeysView h p d) : ObjOk P w H h p (KvO d p) := by
  have ⟨o, ho, _⟩ := R
  exact ⟨R, ⟨o, ho⟩, fun h1 h2 q k => let ⟨o, ho, x⟩ := q; ⟨o, k o ho, x⟩⟩
section
variable {X : Cx} {W : WX} {e : Expr} {te : TE} {p apos cpos pos : Pos}
def tKeys (te : TE) : TE := fun σ H Q => te σ H fun x H1 => ∃ (d : Addr) (kvs : List (Key × V)), x = .ref d ∧ H1 d = some (.dK kvs) ∧ ∀ p, H1 p = none → Q (.ref p) (upd H1 p (KvO d p))
theorem pe_keys (he : PE X e te) (hb : attributeBase e "keys" X.env (eval e X.env) = eval e X.env := by rfl) (hn : (apos.endLine == cpos.line) = true := by rfl) : PE X (.Call (.Attribute e "keys" apos) [] [] cpos) (tKeys te) := by
  refine ⟨fun pins s σ H Q I h => ?_⟩
  refine wpAny_Call_method (T := "dict") (id := "dict.keys") hb rfl hn F.plainAttrs_dict F.slot_dict_keys F.type_dict_keys (thn (he.run pins s σ H _ I h) fun u s1 ⟨x, H1, I1, rx, d, kvs, ex, hd, q⟩ => ?_)
  subst ex
  obtain rfl : u = Value.ref d := rx
  obtain ⟨hz, hs0, vs, kv, hdo⟩ := I1.hok d _ hd
  refine ⟨hdo.typeIs, hdo.mapOf.noDict, (show wpAny _ _ (callWith cpos (.builtin "dict.keys") [.ref d] [] []) _ X.xe s1 from ?_)⟩
  refine method_meetsIn F.slot_dict_keys F.entry_dict_keys rfl (PySem.evalArgs_none ⟨rfl, hdo.typeIs, F.args_dict_keys_1 _, _, PySem.W.kdl_meets_keys (mixKind X.prog X.w) d hs0, ⟨vs, hdo⟩, ?_⟩)
  exact ⟨.ref _, _, I1.laid (t' := s1.toks) (fun b u e => Heap.get?_push_of_some _ e) (Nat.le_refl _) (kvO_new ⟨_, Heap.get?_push_size _ rfl, rfl, rfl⟩), rfl, q _ (I1.hok.fresh (Nat.le_refl _))⟩
/-- what a view and its dict are -/
theorem view_at {pins : List (Addr × Obj)} {s : Shared} {σ : L2.St} {H : Hp} {a d : Addr} {kvs : List (Key × V)} (I : Inv X pins σ H s) (ha : H a = some (KvO d a)) (hd : H d = some (.dK kvs)) :
    ∃ (vs : List (Key × Value)) (ep : Nat), KV kvs vs ∧ vs.length ≤ sizeLine ∧ PySem.W.KdlKeysView s.heap a d ∧ s.heap.DictAt (mixKind X.prog X.w) d vs ep := by
  obtain ⟨hz, hs0, vs, kv, hdo⟩ := I.hok d _ hd
  obtain ⟨ep, hat⟩ := hdo.dictAt
  exact ⟨vs, ep, kv, by rw [← Paired.length kv]; exact hz, (I.hok a _ ha).1, hat⟩
theorem keys_vals : ∀ {kvs : List (Key × V)} {vs : List (Key × Value)} {acc : List Value}, KV kvs vs → acc.length = vs.length → (∀ (j : Nat) (u : Value), acc[j]? = some u → ∃ k x, vs[j]? = some (k, x) ∧ keyIs k u = true) → Vals (kvs.map fun kv => kV kv.1) acc
  | [], [], [], _, _, _ => .nil
  | p :: kvs, q :: vs, u :: acc, .cons h t, hl, ha => by
    obtain ⟨k, x, e1, e2⟩ := ha 0 u rfl
    cases e1
    have hk : p.1 = k := h.1
    exact .cons (show RelV (kV p.1) u by rw [hk]; exact relV_key e2) (keys_vals t (Nat.succ.inj hl) fun j u hu => by simpa using ha (j + 1) u (by simpa using hu))
  | [], [], _ :: _, _, hl, _ => by cases hl
  | _ :: _, _ :: _, [], _, hl, _ => by cases hl
def rListKv : List V → Hp → VK → Prop := fun xs H Q => ∃ (a d : Addr) (kvs : List (Key × V)), xs = [.ref a] ∧ H a = some (KvO d a) ∧ H d = some (.dK kvs) ∧ ∀ p, H p = none → Q (.ref p) (upd H p (.lst (kvs.map fun kv => kV kv.1)))
theorem cr_listKv (hc : X.calm = true) : CallR X (.type "list") rListKv := by
  intro pins s σ H xs us Q I r h
  obtain ⟨a, d, kvs, rfl, ha, hd, q⟩ := h
  rw [Vals.ref1 r]
  obtain ⟨vs, ep, kv, hz, hv, hat⟩ := view_at I ha hd
  refine PySem.W.kdl_call (PySem.W.kdl_keys (knd := mixKind X.prog X.w) (kvs := vs) (ep := ep)) (I.ok.hd hc) ⟨hv, hat⟩ hz fun h' tk acc c hk hS hi => ?_
  have hl : (kvs.map fun kv => kV kv.1).length ≤ sizeLine := by rw [List.length_map, Paired.length kv]; exact hz
  refine ⟨.ref _, _, I.laid (t' := tk) hk (Nat.le_refl _) (o := .lst (kvs.map fun kv => kV kv.1)) ⟨hl, acc.toList, c, keys_vals kv (by rw [Array.length_toList]; exact hi.1) fun j u hu => ?_, ?_⟩, rfl, q _ (I.hok.fresh (Nat.le_refl _))⟩
  · obtain ⟨k, x, e1, e2⟩ := hi.2 j u (by rw [← Array.getElem?_toList]; exact hu)
    exact ⟨k, x, e1, e2⟩
  · rw [Array.toArray_toList]
    exact hS
theorem ints_of_keys {ks : List Int} {us : List Value} (h : Vals (ks.map V.int) us) : IntsAre us ks := by
  induction ks generalizing us with
  | nil => cases h; exact .nil
  | cons k ks ih =>
    cases h with
    | cons r t =>
      obtain ⟨tk, rfl⟩ := r
      exact .cons _ _ (ih t)
def rSortKv : List V → Hp → VK → Prop := fun xs H Q => ∃ (a d : Addr) (kvs : List (Key × V)) (ks : List Int), xs = [.ref a] ∧ H a = some (KvO d a) ∧ H d = some (.dK kvs) ∧ kvs.map (·.1) = ks.map Sum.inl ∧ ks.length < 64 ∧
  ∀ (ys : List Int) (p : Addr), ys.Perm ks → ys.Pairwise (· ≤ ·) → H p = none → Q (.ref p) (upd H p (.lst (ys.map V.int)))
theorem cr_sortKv (hc : X.calm = true) : CallR X (.builtin "sorted") rSortKv := by
  intro pins s σ H xs us Q I r h
  obtain ⟨a, d, kvs, ks, rfl, ha, hd, hks, h64, q⟩ := h
  rw [Vals.ref1 r]
  obtain ⟨vs, ep, kv, hz, hv, hat⟩ := view_at I ha hd
  refine Calls.call_function_entry kind_sorted plain_sorted entry_sorted (args_sorted1 _) ?_
  unfold Builtin.«sorted»
  refine wpAny_bind (m := checkCount "sorted" 1 1 _) (wpAny_pure (wpAny_bind (PySem.W.kdu_collect (A := X.A.in1) (PySem.W.kdl_keys (knd := mixKind X.prog X.w) (kvs := vs) (ep := ep)) (I.ok.hd hc) ⟨hv, hat⟩ hz fun h' tk acc hk hi => ?_)))
  have ev : Vals (ks.map V.int) acc.toList := by
    have z := keys_vals kv (acc := acc.toList) (by rw [Array.length_toList]; exact hi.1) fun j u hu => by
      obtain ⟨k, x, e1, e2⟩ := hi.2 j u (by rw [← Array.getElem?_toList]; exact hu)
      exact ⟨k, x, e1, e2⟩
    have e : kvs.map (fun kv => kV kv.1) = ks.map V.int := by
      have e1 : kvs.map (fun kv => kV kv.1) = (kvs.map (·.1)).map kV := by rw [List.map_map]; rfl
      rw [e1, hks, List.map_map]
      rfl
    rw [e] at z
    exact z
  have hal : acc.toList.length = ks.length := by rw [← ev.length, List.length_map]
  have I1 : Inv X pins σ H { s with heap := h', toks := tk } := I.kept hk
  refine wpAny_bind (wpAny_newList ?_ (by rw [hal, sizeLine_eq]; omega))
  have oL : (h'.push (seqObj "list" acc.toList.toArray 0)).get? h'.objs.size = some (seqObj "list" acc.toList.toArray 0) := Heap.get?_push_size _ rfl
  refine wpAny_bind (wpAny_holding (wpAny_call_entry slot_list_sort ⟨_, oL, rfl⟩ entry_list_sort
    (list_sort_tree (s := { s with heap := h'.push (seqObj "list" acc.toList.toArray 0), toks := tk }) oL (ints_of_keys ev) (by rw [hal]; exact h64) fun out ys g1 g2 g3 => ⟨_, rfl, ?_⟩) (args_list_sort _)))
  obtain ⟨e', he'⟩ := sortedHeap_at (vs := acc.toList) (out := out) oL
  have hlen : (ys.map V.int).length ≤ sizeLine := by rw [List.length_map, g2.length_eq, sizeLine_eq]; omega
  refine wpAny_pure ⟨_, rfl, .ref h'.objs.size, upd H h'.objs.size (.lst (ys.map V.int)), I1.laid (t' := tk) (fun b u e => ?_) (Nat.le_refl _) ⟨hlen, out.toList, e', vals_of_ints g1, he'⟩, rfl, q ys _ g2 g3 (I1.hok.fresh (Nat.le_refl _))⟩
  exact (sortedHeap_old (Nat.ne_of_lt (Heap.lt_size e)) (by rw [size_push']; exact Nat.lt_succ_of_lt (Heap.lt_size e))).trans (Heap.get?_push_of_some _ e)
end
end Dt

/-! Dat16: dicts as data, dicts of one's own. -/
namespace Dt
open PySem L2
abbrev Kps := List (Key × PyData)
def encK (p : Key × PyData) : PyData × PyData := (kd p.1, p.2)
def eD (kps : Kps) : PyData := .dict (kps.map encK)
def lk : Kps → Key → Option PyData
  | [], _ => none
  | p :: r, k => if p.1 = k then some p.2 else lk r k
def pk (kps : Kps) (k : Key) (d : PyData) : Kps := if (kps.any fun p => decide (p.1 = k)) = true then kps.map (fun p => if p.1 = k then (p.1, d) else p) else kps ++ [(k, d)]
theorem kd_inj {a b : Key} (h : kd a = kd b) : a = b := by
  cases a <;> cases b <;> first | (cases h; rfl) | cases h
theorem isX_eD (kps : Kps) : isX (eD kps) = false := by
  cases kps with
  | nil => rfl
  | cons p r => obtain ⟨k, d⟩ := p; cases k <;> rfl
section
variable {K : PySem.W.Frag} {h : Hp}
theorem DaD.pairs : ∀ {kvs : List (Key × V)} {kps : Kps}, DaD K h kvs (kps.map encK) → Paired (fun (a : Key × V) (b : Key × PyData) => a.1 = b.1 ∧ Da K h a.2 b.2) kvs kps
  | [], [], _ => .nil
  | [], _ :: _, r => by cases r
  | _ :: _, [], r => by cases r
  | a :: kvs, p :: kps, r => by
    have r' : DaD K h (a :: kvs) ((kd p.1, p.2) :: kps.map encK) := r
    generalize e : ((kd p.1, p.2) :: kps.map encK) = l at r'
    cases r' with
    | @cons k v _ d ps q t =>
      obtain ⟨e1, e2⟩ := List.cons.inj e
      obtain ⟨e3, e4⟩ := Prod.mk.inj e1
      have ek := kd_inj e3
      subst e2 e4
      exact .cons ⟨ek.symm, q⟩ (DaD.pairs t)
theorem DaD.ofPairs : ∀ {kvs : List (Key × V)} {kps : Kps}, Paired (fun (a : Key × V) (b : Key × PyData) => a.1 = b.1 ∧ Da K h a.2 b.2) kvs kps → DaD K h kvs (kps.map encK)
  | _, _, .nil => .nil
  | (k, v) :: _, (k', d) :: _, .cons ⟨e, q⟩ t => by
    cases e
    exact .cons q (DaD.ofPairs t)
theorem DaD.keysE {kvs : List (Key × V)} {kps : Kps} (r : DaD K h kvs (kps.map encK)) : kvs.map (·.1) = kps.map (·.1) := by
  have q := r.pairs
  clear r
  induction q with
  | nil => rfl
  | cons a _ ih => rw [List.map_cons, List.map_cons, ih, a.1]
theorem DaD.lk {kvs : List (Key × V)} {kps : Kps} (r : DaD K h kvs (kps.map encK)) (k : Key) : (∀ d, Dt.lk kps k = some d → ∃ v, valV kvs k = some v ∧ Da K h v d) ∧ (Dt.lk kps k = none → valV kvs k = none) := by
  have q := r.pairs
  clear r
  induction q with
  | nil => exact ⟨fun d e => (by cases e), fun _ => rfl⟩
  | @cons a b as bs hab t ih =>
    obtain ⟨e, hv⟩ := hab
    by_cases c : b.1 = k
    · have ea : a.1 = k := e.trans c
      refine ⟨fun d z => ?_, fun z => ?_⟩
      · have z : (if b.1 = k then some b.2 else Dt.lk bs k) = some d := z
        rw [if_pos c] at z
        cases z
        exact ⟨a.2, valV_pos ea, hv⟩
      · have z : (if b.1 = k then some b.2 else Dt.lk bs k) = none := z
        rw [if_pos c] at z
        cases z
    · have ea : ¬ a.1 = k := fun z => c (e.symm.trans z)
      have ez : Dt.lk (b :: bs) k = Dt.lk bs k := if_neg c
      rw [valV_neg ea, ez]
      exact ih
theorem DaD.put {kvs : List (Key × V)} {kps : Kps} {v : V} {d : PyData} (r : DaD K h kvs (kps.map encK)) (k : Key) (hv : Da K h v d) : DaD K h (putK kvs k v) ((pk kps k d).map encK) := by
  have q := r.pairs
  have ea : (kvs.any fun kv => decide (kv.1 = k)) = kps.any fun p => decide (p.1 = k) := by
    clear r
    induction q with
    | nil => rfl
    | cons a _ ih => rw [List.any_cons, List.any_cons, ih, a.1]
  unfold putK pk
  rw [ea]
  cases kps.any fun p => decide (p.1 = k) with
  | true =>
    rw [if_pos rfl, if_pos rfl]
    refine DaD.ofPairs ?_
    clear r ea
    induction q with
    | nil => exact .nil
    | @cons a b as bs hab t ih =>
      rw [List.map_cons, List.map_cons]
      refine .cons ?_ ih
      by_cases c : b.1 = k
      · rw [if_pos c, if_pos (hab.1.trans c)]
        exact ⟨hab.1, hv⟩
      · rw [if_neg c, if_neg (fun z => c (hab.1.symm.trans z))]
        exact hab
  | false =>
    rw [if_neg Bool.false_ne_true, if_neg Bool.false_ne_true, List.map_append]
    refine DaD.ofPairs (kps := kps ++ [(k, d)]) ?_ |> fun z => by rw [List.map_append] at z; exact z
    clear r ea
    induction q with
    | nil => exact .cons ⟨rfl, hv⟩ .nil
    | cons hab t ih => exact .cons hab ih
theorem Dr.eD {S : Hd} {H : Hp} {v : V} {kps : Kps} (r : Dr K S H v (eD kps)) : ∃ a kvs, v = .ref a ∧ H a = some (.dK kvs) ∧ DaD K (off S H) kvs (kps.map encK) := r.dict (isX_eD kps)
theorem da_key {H : Hp} : ∀ k : Key, Da K H (kV k) (kd k)
  | .inl i => .int i
  | .inr x => .str x
theorem da_keys {H : Hp} {kvs : List (Key × V)} {kps : Kps} (e : kvs.map (·.1) = kps.map (·.1)) : DaL K H (kvs.map fun kv => kV kv.1) (kps.map fun p => kd p.1) := by
  have e1 : kvs.map (fun kv => kV kv.1) = (kvs.map (·.1)).map kV := by rw [List.map_map]; rfl
  have e2 : kps.map (fun p => kd p.1) = (kps.map (·.1)).map kd := by rw [List.map_map]; rfl
  rw [e1, e2, e]
  generalize kps.map (·.1) = ks
  induction ks with
  | nil => exact .nil
  | cons k r ih => exact .cons (da_key k) ih
end
section
variable {X : Cx} {W : WX} {e a b c : Expr} {p p2 pos pos2 apos cpos : Pos}
/-! ### list(d.keys()), sorted(d.keys()) -/
def wLKeys (w : DE) : DE := fun Γ Q E => w Γ (fun x Γ1 => ∃ kps, x = eD kps ∧ Q (.list (kps.map fun p => kd p.1)) Γ1) E
theorem de_lkeys {w : DE} (hc : X.calm = true) (hg : Gl X "list") (hm : X.mg "list" = none) (he : PE X e (tR X.K W w)) (hb : attributeBase e "keys" X.env (eval e X.env) = eval e X.env := by rfl) (hn : (apos.endLine == cpos.line) = true := by rfl)
    (he2 : starEach [.Call (.Attribute e "keys" apos) [] [] cpos] X.env = (false, eval (.Call (.Attribute e "keys" apos) [] [] cpos) X.env) :: starEach [] X.env := by rfl) :
    PE X (.Call (.Name "list" p) [.Call (.Attribute e "keys" apos) [] [] cpos] [] pos) (tD X.K W (wLKeys w)) :=
  peImp (pe_callTy (cr_listKv hc) hg hm bt_list (pa_cons (pe_keys he hb hn) pa_nil he2) (by decide) (by decide) he2 rfl) fun σ H Q ⟨F, S, Γ, Qd, Ed, en, hw, k, ke⟩ => by
    refine ⟨F, S, Γ, _, Ed, en, hw, fun x Γ1 v1 H1 ⟨kps, ed, q⟩ m1 e1 r1 => ?_, ke⟩
    subst ed
    obtain ⟨a, kvs, rfl, h1, h2⟩ := (r1.dr e1).eD
    refine ⟨a, kvs, rfl, h1, fun p1 hp1 => ?_⟩
    have s1 := same_new (o := KvO a p1) hp1
    have e2 := e1.same s1
    refine ⟨p1, a, kvs, rfl, upd_same, s1 _ _ h1, fun q1 hq1 => ?_⟩
    have s2 := same_new (o := .lst (kvs.map fun kv => kV kv.1)) hq1
    exact k _ Γ1 _ _ q ((m1.trans (.of s1)).trans (.of s2)) (e2.same s2) (.newL e2.hid hq1 (da_keys h2.keysE))
def wSKeys (w : DE) : DE := fun Γ Q E => w Γ (fun x Γ1 => ∃ (kps : Kps) (ks : List Int), x = eD kps ∧ kps.map (·.1) = ks.map Sum.inl ∧ ks.Nodup ∧ ks.length < 64 ∧ Q (.list ((usort ks).map .int)) Γ1) E
theorem up_of_perm {ys ks : List Int} (h1 : ys.Perm ks) (h2 : ys.Pairwise (· ≤ ·)) (h3 : ks.Nodup) : ys = usort ks := by
  refine up_eq ?_ (usort_up ks) fun z => by rw [h1.mem_iff, mem_usort]
  have nd : ys.Nodup := h1.nodup_iff.mpr h3
  exact (h2.and nd).imp fun h => by omega
theorem de_skeys {w : DE} (hc : X.calm = true) (hg : Gl X "sorted") (hm : X.mg "sorted" = none) (he : PE X e (tR X.K W w)) (hb : attributeBase e "keys" X.env (eval e X.env) = eval e X.env := by rfl) (hn : (apos.endLine == cpos.line) = true := by rfl)
    (he2 : starEach [.Call (.Attribute e "keys" apos) [] [] cpos] X.env = (false, eval (.Call (.Attribute e "keys" apos) [] [] cpos) X.env) :: starEach [] X.env := by rfl) :
    PE X (.Call (.Name "sorted" p) [.Call (.Attribute e "keys" apos) [] [] cpos] [] pos) (tD X.K W (wSKeys w)) :=
  peImp (pe_callB (cr_sortKv hc) hg hm bt_sorted (pa_cons (pe_keys he hb hn) pa_nil he2) (by decide) (by decide) he2 rfl) fun σ H Q ⟨F, S, Γ, Qd, Ed, en, hw, k, ke⟩ => by
    refine ⟨F, S, Γ, _, Ed, en, hw, fun x Γ1 v1 H1 ⟨kps, ks, ed, ek, nd, h64, q⟩ m1 e1 r1 => ?_, ke⟩
    subst ed
    obtain ⟨a, kvs, rfl, h1, h2⟩ := (r1.dr e1).eD
    refine ⟨a, kvs, rfl, h1, fun p1 hp1 => ?_⟩
    have s1 := same_new (o := KvO a p1) hp1
    have e2 := e1.same s1
    refine ⟨p1, a, kvs, ks, rfl, upd_same, s1 _ _ h1, h2.keysE.trans ek, h64, fun ys q1 hp hs hq1 => ?_⟩
    have ey := up_of_perm hp hs nd
    subst ey
    have s2 := same_new (o := .lst ((usort ks).map V.int)) hq1
    exact k _ Γ1 _ _ q ((m1.trans (.of s1)).trans (.of s2)) (e2.same s2) (.newL e2.hid hq1 (.of_ints _))
/-! ### dict(pairs) -/
def PairC (dx : List PyData) (d : PyData) : Prop := ∃ kps : Kps, dx = [.list (kps.map fun p => .tuple [kd p.1, p.2])] ∧ (kps.map (·.1)).Nodup ∧ d = eD kps
theorem pairs_of {K : PySem.W.Frag} {h : Hp} : ∀ {vs : List V} {kps : Kps}, DaL K h vs (kps.map fun p => .tuple [kd p.1, p.2]) → ∃ (ps : List Addr) (kvs : List (Key × V)), vs = ps.map V.ref ∧ Paired (fun p kv => SqT K h p [kV kv.1, kv.2]) ps kvs ∧ DaD K h kvs (kps.map encK)
  | _, [], .nil => ⟨[], [], rfl, .nil, .nil⟩
  | _, p :: kps, .cons hv t => by
    obtain ⟨ps, kvs, rfl, h1, h2⟩ := pairs_of t
    cases hv with
    | tup hs hl =>
      obtain ⟨u, w, rfl, a, b⟩ := hl.two
      have e : u = kV p.1 := key_v (S := fun _ => False) (H := h) (K := K) (.inl (by
        have : off (fun _ => False) h = h := by funext b; exact off_in (fun z => z)
        rw [this]; exact a))
      subst e
      exact ⟨_ :: ps, (p.1, w) :: kvs, rfl, .cons hs h1, .cons b h2⟩
theorem ok_dictP {K : PySem.W.Frag} : OkC K (fun xs H Q => ∃ (a : Addr) (ps : List Addr) (kvs : List (Key × V)), xs = [.ref a] ∧ SqL K H a (ps.map V.ref) ∧ Paired (fun p kv => SqT K H p [kV kv.1, kv.2]) ps kvs ∧ ∀ p, H p = none → Q (.ref p) (upd H p (.dK (mergeK [] kvs)))) PairC := fun S H xs dx d Q hS ho hx k => by
  obtain ⟨kps, rfl, nd, rfl⟩ := ho
  obtain ⟨v, rfl, hv⟩ := hx.one
  obtain ⟨a, vs, rfl, h1, h2⟩ := hv.list
  obtain ⟨ps, kvs, rfl, h3, h4⟩ := pairs_of h2
  have em : mergeK [] kvs = kvs := merge_nodup kvs [] (fun _ _ => rfl) (by rw [h4.keysE]; exact nd)
  refine ⟨a, ps, kvs, rfl, .of h1, ?_, fun p hp => k _ _ (same_new hp) ?_⟩
  · clear h4 h2 em
    clear h1
    induction h3 with
    | nil => exact .nil
    | cons q _ ih => exact .cons (seqT off_same q) ih
  · rw [em]
    exact .dic (by rw [off_in (hS.free hp), upd_same]) (h4.mono (Le.off (Le.of (same_new hp))))
/-- dict(d): a copy -/
def rDcp : List V → Hp → VK → Prop := fun xs H Q => ∃ (a : Addr) (kvs : List (Key × V)), xs = [.ref a] ∧ Rd H a (.dK kvs) ∧ ∀ p, H p = none → Q (.ref p) (upd H p (.dK kvs))
def DcpC (dx : List PyData) (d : PyData) : Prop := ∃ kps : Kps, dx = [eD kps] ∧ d = eD kps
theorem ok_dcp {K : PySem.W.Frag} : OkC K rDcp DcpC := fun S H xs dx d Q hS ho hx k => by
  obtain ⟨kps, rfl, rfl⟩ := ho
  obtain ⟨v, rfl, hv⟩ := hx.one
  obtain ⟨a, kvs, rfl, h1, h2⟩ := hv.eD
  exact ⟨a, kvs, rfl, .inl h1, fun p hp => k _ _ (same_new hp) (.dic (by rw [off_in (hS.free hp), upd_same]) (h2.mono (Le.off (Le.of (same_new hp)))))⟩
/-! ### d.get(k, z) -/
def wDGet2 (wd wk wz : DE) : DE := fun Γ Q E => wd Γ (fun x Γ1 => (∃ kps, x = eD kps) ∧ wk Γ1 (fun y Γ2 => wz Γ2 (fun z Γ3 => ∃ kps k, x = eD kps ∧ y = kd k ∧ Q ((lk kps k).getD z) Γ3) E) E) E
theorem de_dget2 {wd wk wz : DE} {j : Nat} (hr : Room j X.A) (ha : PE X a (tR X.K W wd)) (hb : PE X b (tR X.K W wk)) (hz : PE X c (tD X.K W wz)) (m : M2 X a "get" apos b c cpos) : PE X (.Call (.Attribute a "get" apos) [b, c] [] cpos) (tD X.K W (wDGet2 wd wk wz)) :=
  peImp (pe_dget2 (hu_of hr) ha hb hz m) fun σ H Q ⟨F, S, Γ, Qd, Ed, en, hw, k, ke⟩ => ⟨F, S, Γ, _, Ed, en, hw, fun x Γ1 v1 H1 ⟨⟨kps, ex⟩, hb⟩ m1 e1 r1 => by
    subst ex
    obtain ⟨a, kvs, rfl, h1, h2⟩ := (r1.dr e1).eD
    refine ⟨a, rfl, .inl ⟨kvs, .inl h1⟩, F, S, Γ1, _, Ed, e1, hb, fun y Γ2 v2 H2 hz m2 e2 r2 => ⟨F, S, Γ2, _, Ed, e2, hz, fun z Γ3 v3 H3 ⟨kps', kk, ex, ey, q⟩ m3 e3 r3 => ?_, ke⟩, ke⟩
    subst ey
    have ex2 : eD kps = eD kps' := ex
    have h3 := ((r1.mv (m2.trans m3)).dr e3)
    rw [ex2] at h3
    obtain ⟨a', kvs', ea, h4, h5⟩ := h3.eD
    cases ea
    have eq : v2 = kV kk := key_v ((r2.mv m3).dr e3)
    subst eq
    refine ⟨valV kvs' kk, .k h4, ?_⟩
    cases hl : lk kps' kk with
    | none =>
      rw [hl] at q
      rw [(h5.lk kk).2 hl]
      exact k _ Γ3 _ H3 q ((m1.trans m2).trans m3) e3 r3
    | some d =>
      rw [hl] at q
      obtain ⟨v, hv, hd⟩ := (h5.lk kk).1 d hl
      rw [hv]
      exact k _ Γ3 _ H3 q ((m1.trans m2).trans m3) e3 hd, ke⟩
/-! ### k in d -/
def wDIn (neg : Bool) (wk wd : DE) : DE := fun Γ Q E => wk Γ (fun y Γ1 => wd Γ1 (fun x Γ2 => ∃ kps k, x = eD kps ∧ y = kd k ∧ Q (.bool (neg ^^ (lk kps k).isSome)) Γ2) E) E
theorem din_rd {K : PySem.W.Frag} {neg : Bool} {wk wd : DE} {σ : St} {H : Hp} {Q : VK} (h : tD K W (wDIn neg wk wd) σ H Q) : tR K W wk σ H fun y H1 => tR K W wd σ H1 fun x H2 => ∃ a o, x = .ref a ∧ DGet H2 a y o ∧ Q (.bl (neg ^^ o.isSome)) H2 := by
  obtain ⟨F, S, Γ, Qd, Ed, en, hw, k, ke⟩ := h
  refine ⟨F, S, Γ, _, Ed, en, hw, fun y Γ1 v1 H1 hb m1 e1 r1 => ⟨F, S, Γ1, _, Ed, e1, hb, fun x Γ2 v2 H2 ⟨kps, kk, ex, ey, q⟩ m2 e2 r2 => ?_, ke⟩, ke⟩
  subst ex ey
  obtain ⟨a, kvs, rfl, h1, h2⟩ := (r2.dr e2).eD
  have eq : v1 = kV kk := key_v ((r1.mv m2).dr e2)
  subst eq
  refine ⟨a, valV kvs kk, rfl, .k h1, ?_⟩
  have es : (valV kvs kk).isSome = (lk kps kk).isSome := by
    cases hl : lk kps kk with
    | none => rw [(h2.lk kk).2 hl]; rfl
    | some d => obtain ⟨v, hv, _⟩ := (h2.lk kk).1 d hl; rw [hv]; rfl
  rw [es]
  exact k _ Γ2 _ H2 q (m1.trans m2) e2 (.bl _)
theorem de_din {wk wd : DE} {j : Nat} (hr : Room j X.A) (hk : PE X a (tR X.K W wk)) (hd : PE X b (tR X.K W wd)) (hm : behindInMarks .In b = false := by rfl) : PE X (.Compare a [.In] [b] pos) (tD X.K W (wDIn false wk wd)) :=
  peImp (pe_cmp (pc_din (hu_of hr) hk hd) hm) fun _ _ _ h => by
    have z := din_rd h
    simp only [Bool.false_xor] at z
    exact z
theorem de_dnin {wk wd : DE} {j : Nat} (hr : Room j X.A) (hk : PE X a (tR X.K W wk)) (hd : PE X b (tR X.K W wd)) (hm : behindInMarks .NotIn b = false := by rfl) : PE X (.Compare a [.NotIn] [b] pos) (tD X.K W (wDIn true wk wd)) :=
  peImp (pe_cmp (pc_dnotin (hu_of hr) hk hd) hm) fun _ _ _ h => by
    have z := din_rd h
    simp only [Bool.true_xor] at z
    exact z
theorem dt_din {wk wd : DE} {j : Nat} (hr : Room j X.A) (hk : PE X a (tR X.K W wk)) (hd : PE X b (tR X.K W wd)) (hm : behindInMarks .In b = false := by rfl) : PT X (.Compare a [.In] [b] pos) (tB X.K W (wTst (wDIn false wk wd))) :=
  ptImp (pt_cmp (pc_din (hu_of hr) hk hd) hm) fun _ _ _ h => tst_rd (fun _ _ _ h => by
    have z := din_rd h
    simp only [Bool.false_xor] at z
    exact z) h
theorem dt_dnin {wk wd : DE} {j : Nat} (hr : Room j X.A) (hk : PE X a (tR X.K W wk)) (hd : PE X b (tR X.K W wd)) (hm : behindInMarks .NotIn b = false := by rfl) : PT X (.Compare a [.NotIn] [b] pos) (tB X.K W (wTst (wDIn true wk wd))) :=
  ptImp (pt_cmp (pc_dnotin (hu_of hr) hk hd) hm) fun _ _ _ h => tst_rd (fun _ _ _ h => by
    have z := din_rd h
    simp only [Bool.true_xor] at z
    exact z) h
/-! ### a dict of one's own -/
variable {st : Stmt} {value : Expr} {pos' : Pos}
/-- a new dict that nobody holds yet -/
def tFD (K : PySem.W.Frag) (W : WX) (w : DE) : TE := fun σ H Q => ∃ (F : Fm) (S : Hd) (Γ : Gm) (Qd : Kq) (Ed : Ke), En K F S Γ σ H ∧ w Γ Qd Ed ∧
  (∀ kps Γ' p kvs H', Qd (eD kps) Γ' → En K F (fun b => S b ∨ b = p) Γ' σ H' → H' p = some (.dK kvs) → DaD K (off (fun b => S b ∨ b = p) H') kvs (kps.map encK) → F.H0 p = none → ¬ F.T p → (∀ (j : Nat) (s : Sl), Γ'[j]? = some s → s.mut = true → σ[j]? ≠ some (some (.ref p))) → Q (.ref p) H') ∧
  (∀ c Γ' H', Ed c Γ' → En K F S Γ' σ H' → W (.ref (He.ga K c)) none σ H')
def wSetD (i : Nat) (w : DE) : DS := fun Γ k => w Γ (fun d Γ1 => k .nx (Γ1.set i (.own0 d))) (fun c Γ1 => k (.ex c) Γ1)
theorem ds_setDBy {i : Nat} {te : TE} {w : DE} (h : PS X st (tAsg te (gName i))) (hi : ∀ σ H Q, tFD X.K W w σ H Q → te σ H Q) : PS X st (tS X.K W (wSetD i w)) :=
  psImp h fun D σ H ⟨F, S, Γ, Qd, en, hw, k⟩ => hi _ _ _ ⟨F, S, Γ, _, _, en, hw, fun kps Γ' p kvs H' q en' hp hd h0 ht hn => k .nx _ _ _ H' q (en'.setOwn0 (d := eD kps) i (.inr rfl) h0 ht hp ⟨kvs, rfl, hd⟩ fun j s _ => hn j s), fun c Γ' H' q en' => k (.ex c) Γ' S σ H' q en'⟩
theorem df_dnew : PE X (.Dict [] [] pos) (tFD X.K W (wC (eD []))) := peImp pe_dnewK fun σ H Q ⟨F, S, Γ, Qd, Ed, e, hw, k, ke⟩ p hp =>
  k [] Γ p [] _ hw (e.hide hp) upd_same .nil (e.fresh0 hp) (fun z => e.hid p (e.tin p z) hp) (e.nomut hp)
def wCpD (w : DE) : DE := fun Γ Q E => w Γ (fun x Γ1 => (∃ kps, x = eD kps) ∧ Q x Γ1) E
theorem df_dcp {w : DE} (hg : Gl X "dict") (hm : X.mg "dict" = none) (he : PE X e (tR X.K W w)) (he2 : starEach [e] X.env = (false, eval e X.env) :: starEach [] X.env := by rfl) : PE X (.Call (.Name "dict" p) [e] [] pos) (tFD X.K W (wCpD w)) :=
  peImp (pe_callTy call_dictD hg hm bt_dict (pa_cons he pa_nil he2) (by decide) (by decide) he2 rfl) fun σ H Q ⟨F, S, Γ, Qd, Ed, en, hw, k, ke⟩ => ⟨F, S, Γ, _, Ed, en, hw, fun x Γ1 v1 H1 ⟨⟨kps, ex⟩, q⟩ m1 e1 r1 => by
    subst ex
    obtain ⟨a, kvs, rfl, h1, h2⟩ := (r1.dr e1).eD
    exact ⟨a, kvs, rfl, .inl h1, fun p hp => k kps Γ1 p kvs _ q (e1.hide hp) upd_same (h2.mono (same_hide hp)) (e1.fresh0 hp) (fun z => e1.hid p (e1.tin p z) hp) (e1.nomut hp)⟩, ke⟩
theorem ds_setD {i : Nat} {x : Str} {w : DE} (hN : X.N.Nodup) (hi : X.N[i]? = some x) (hx : Loc X.env.scope x) (he : PE X e (tFD X.K W w)) (hs : swapsWith e (some (.Name x pos')) pos.line X.env = pure false := by rfl) (hf : X.fn x = true ∨ X.env.scope.names.lookup x = some .local := by first | exact .inl rfl | exact .inr rfl | assumption) :
    PS X (.Assign [.Name x pos'] e pos) (tS X.K W (wSetD i w)) := ds_setDBy (ps_set hN hi hx he hs hf) fun _ _ _ h => h
/-- x[k] = e -/
def wDput (i : Nat) (wk we : DE) : DS := fun Γ k => we Γ (fun d Γ1 => (∃ d0, Γ1[i]? = some (Sl.own0 d0)) ∧ wk Γ1 (fun y Γ2 => ∃ kps kk, Γ2[i]? = some (Sl.own0 (eD kps)) ∧ y = kd kk ∧ kps.length < sizeLine ∧ k .nx (Γ2.set i (.own0 (eD (pk kps kk d))))) (fun c Γ1 => k (.ex c) Γ1)) (fun c Γ1 => k (.ex c) Γ1)
theorem ds_dput {i : Nat} {x : Str} {wk we : DE} {j : Nat} (hr : Room j X.A) (hx : PE X (.Name x p) (tVar i)) (hk : PE X a (tR X.K W wk)) (hv : PE X value (tD X.K W we)) (hs : swapsWith value (some (.Subscript (.Name x p) a pos')) pos.line X.env = pure false := by rfl) :
    PS X (.Assign [.Subscript (.Name x p) a pos'] value pos) (tS X.K W (wDput i wk we)) :=
  psImp (ps_dput (hu_of hr) hx hk hv hs) fun D σ H ⟨F, S, Γ, Qd, en, hw, k⟩ => ⟨F, S, Γ, _, _, en, hw, fun d Γ1 v H1 ⟨⟨d0, g0⟩, hk⟩ m1 e1 hv => by
    obtain ⟨o, q1, ad, u0, rfl, sp, h0, ht, hp, hd0⟩ := e1.slot i _ g0
    refine ⟨_, q1, F, S, Γ1, _, _, e1, hk, fun y Γ2 v2 H2 ⟨kps, kk, g2, ey, hl, q⟩ m2 e2 r2 => ?_, fun c Γ' H' q en' => k (.ex c) Γ' S σ H' q en'⟩
    subst ey
    obtain ⟨o, q2, ad', u2, e3, _, _, _, hp2, kvs, rfl, hd2⟩ := e2.slot i _ g2
    rw [q1] at q2
    cases q2
    cases e3
    have eq : v2 = kV kk := key_v (r2.dr e2)
    subst eq
    have hlen : kvs.length < sizeLine := by
      have z := congrArg List.length hd2.keysE
      rw [List.length_map, List.length_map] at z
      omega
    refine ⟨ad, _, rfl, .k hp2 hlen, ?_⟩
    exact k .nx _ S σ _ q (e2.updOwn0 g2 q1 (d := eD (pk kps kk d)) ⟨_, rfl, hd2.put kk (hv.mono m2.le.off)⟩), fun c Γ' H' q en' => k (.ex c) Γ' S σ H' q en'⟩
end
end Dt

/-! Dat17: tuples of whole numbers, one before the other. -/
namespace Dt
open PySem L2
section
variable {K : PySem.W.Frag}
def LtTD : PyData → PyData → PyData → Prop := fun x y d => ∃ ns ms : List Int, x = .tuple (ns.map .int) ∧ y = .tuple (ms.map .int) ∧ d = .bool (HT.lexLt ns ms)
theorem ok_ltT : OkR K (rLtT K) LtTD := fun S H x y dx dy d Q hS ho hx hy k => by
  obtain ⟨ns, ms, rfl, rfl, rfl⟩ := ho
  obtain ⟨a, vs, rfl, h1, h2⟩ := hx.tuple
  obtain ⟨b, us, rfl, g1, g2⟩ := hy.tuple
  have e0 := h2.ints
  have e1 := g2.ints
  subst e0
  subst e1
  exact ⟨a, b, ns, ms, rfl, rfl, h1, g1, k _ H (.refl H) (.bl _)⟩
end
end Dt

/-! Dat18: texts: their signs, join, index; the keys of a written dict. -/
namespace Dt
open PySem L2
def chD (z : Str) : List PyData := z.cps.toList.map fun c => .str ⟨#[c]⟩
section
variable {X : Cx} {W : WX} {e o a b tg : Expr} {es : List Expr} {pos p apos : Pos} {K : PySem.W.Frag}
def wStr (w : DE) : DL := fun Γ Q E => w Γ (fun d Γ1 => ∃ z, d = .str z ∧ Q (chD z) Γ1) E
theorem wk_str {cl : Bool} {S : Hd} {Γ : Gm} {σ : St} {H : Hp} {z : Str} : Wk cl K S Γ σ H (Its z) (chD z) := by
  intro F' S' Γ' σ' H' e _ en
  refine ⟨fun i d hi => ?_, ?_⟩
  · unfold chD at hi
    rw [List.getElem?_map] at hi
    cases q : z.cps.toList[i]? with
    | none => rw [q] at hi; cases hi
    | some c =>
      rw [q] at hi
      cases hi
      have q2 : z.cps[i]? = some c := by rw [← Array.getElem?_toList]; exact q
      refine ⟨?_, fun x H3 y => ?_⟩
      · show i < z.cps.size
        have := (List.getElem?_eq_some_iff.mp q).1
        rw [Array.length_toList] at this
        exact this
      · obtain ⟨rfl, c', h1, rfl⟩ := y
        rw [q2] at h1
        cases h1
        exact ⟨rfl, .str _⟩
  · show z.cps.size ≤ (chD z).length
    unfold chD
    rw [List.length_map, Array.length_toList]
    exact Nat.le_refl _
theorem di_str {cl : Bool} {w : DE} (h : PE X e (tD X.K W w)) : PI X tg e (tI cl X.K W (wStr w)) := piImp (pi_str h) fun σ H R ⟨F, S, Γ, Qd, Ed, en, hw, k, ke⟩ => ⟨F, S, Γ, _, Ed, en, hw, fun d Γ1 v H1 ⟨z, ed, q⟩ m1 e1 hv => by
    subst ed
    cases hv
    exact ⟨z, rfl, k _ Γ1 H1 _ q m1 e1 wk_str⟩, ke⟩
theorem DaL.strs : ∀ {H : Hp} {vs : List V} {ns : List Str}, DaL K H vs (ns.map PyData.str) → vs = ns.map V.str
  | _, _, [], .nil => rfl
  | _, _, n :: ns, .cons h t => by cases h; simp [DaL.strs t]
def wJoin (wo we : DE) : DE := fun Γ Q E => wo Γ (fun x Γ1 => ∃ a, x = .str a ∧ we Γ1 (fun y Γ2 => ∃ ys : List Str, y = .list (ys.map .str) ∧ (ys.map (·.length)).sum + ys.length * a.length ≤ 16777216 ∧ Q (.str (Txt.join a ys)) Γ2) E) E
theorem de_join {wo we : DE} (ho : PE X o (tD X.K W wo)) (he : PE X e (tR X.K W we)) (hs : starEach [e] X.env = [(false, eval e X.env)] := by rfl) (hbase : attributeBase o "join" X.env (eval o X.env) = eval o X.env := by rfl) (hline : (apos.endLine == pos.line) = true := by rfl) :
    PE X (.Call (.Attribute o "join" apos) [e] [] pos) (tD X.K W (wJoin wo we)) :=
  peImp (pe_join ho he hs hbase hline) fun σ H Q ⟨F, S, Γ, Qd, Ed, en, hw, k, ke⟩ => ⟨F, S, Γ, _, Ed, en, hw, fun x Γ1 v1 H1 ⟨a, ea, q1⟩ m1 e1 r1 => by
    subst ea
    cases r1
    refine ⟨⟨a, rfl⟩, F, S, Γ1, _, Ed, e1, q1, fun y Γ2 v2 H2 ⟨ys, ey, hz, q⟩ m2 e2 r2 => ?_, ke⟩
    subst ey
    obtain ⟨p, vs, rfl, h1, h2⟩ := (r2.dr e2).list
    rw [h2.strs] at h1
    exact ⟨a, p, ys, rfl, rfl, .inl (.of h1), hz, k _ Γ2 _ H2 q (m1.trans m2) e2 (.str _)⟩, ke⟩
def InS (neg : Bool) : PyData → PyData → PyData → Prop := fun x y d => ∃ (c : Nat) (z : Str), x = .str ⟨#[c]⟩ ∧ y = .str z ∧ d = .bool (neg ^^ decide (c ∈ z.cps.toList))
theorem ok_inS : OkR K rInS (InS false) := fun S H x y dx dy d Q hS ho hx hy k => by
  obtain ⟨c, z, rfl, rfl, rfl⟩ := ho
  rw [hx.str, hy.str]
  exact ⟨c, z, rfl, rfl, k _ H (.refl H) (by rw [Bool.false_xor]; exact .bl _)⟩
theorem ok_notInS : OkR K rNotInS (InS true) := fun S H x y dx dy d Q hS ho hx hy k => by
  obtain ⟨c, z, rfl, rfl, rfl⟩ := ho
  rw [hx.str, hy.str]
  exact ⟨c, z, rfl, rfl, k _ H (.refl H) (by rw [Bool.true_xor]; exact .bl _)⟩
def wSIdx (wo we : DE) : DE := fun Γ Q E => wo Γ (fun x Γ1 => ∃ a, x = .str a ∧ we Γ1 (fun y Γ2 => ∃ b i rest, y = .str b ∧ Builtin.Str.occurrences a b 0 a.length 1 = i :: rest ∧ Q (.int (i : Nat)) Γ2) E) E
theorem de_sidx {wo we : DE} (ho : PE X o (tD X.K W wo)) (he : PE X e (tR X.K W we)) (hs : starEach [e] X.env = [(false, eval e X.env)] := by rfl) (hbase : attributeBase o "index" X.env (eval o X.env) = eval o X.env := by rfl) (hline : (apos.endLine == pos.line) = true := by rfl) :
    PE X (.Call (.Attribute o "index" apos) [e] [] pos) (tD X.K W (wSIdx wo we)) :=
  peImp (pe_m1 F.slot_str_index F.type_str_index mt_sindex ho he hs hbase hline) fun σ H Q ⟨F, S, Γ, Qd, Ed, en, hw, k, ke⟩ => ⟨F, S, Γ, _, Ed, en, hw, fun x Γ1 v1 H1 ⟨a, ea, q1⟩ m1 e1 r1 => by
    subst ea
    cases r1
    refine ⟨⟨a, rfl⟩, F, S, Γ1, _, Ed, e1, q1, fun y Γ2 v2 H2 ⟨b, i, rest, ey, ho, q⟩ m2 e2 r2 => ?_, ke⟩
    subst ey
    rw [(r2.dr e2).str]
    exact ⟨a, b, i, rest, rfl, rfl, ho, k _ Γ2 _ H2 q (m1.trans m2) e2 (.int _)⟩, ke⟩
end
/-! ### the keys of a written dict -/
def keyS (e : DictEntry) : Option Str := match e.key with
  | .str x _ => some x
  | _ => none
def keysB (K : PySem.W.Frag) (a : Addr) (ks : List Str) : Bool := match K.lookup a with
  | some ⟨_, _, .dict es _, _⟩ => decide (es.toList.map keyS = ks.map some)
  | _ => false
theorem keysB_ok {K : PySem.W.Frag} {w : World} {a : Addr} {ks : List Str} {es : Array DictEntry} {n : Nat} (h : keysB K a ks = true) (D : KDict K w a es n) : es.toList.map keyS = ks.map some := by
  unfold keysB at h
  rw [D.at_] at h
  exact of_decide_eq_true h
structure GKeys (K : PySem.W.Frag) (w : World) (mg : Str → Option Value) (x : Str) (ks : List Str) : Prop where
  glo : mg x = some (.ref (He.ga K x))
  dict : ∃ es n, KDict K w (He.ga K x) es n ∧ es.toList.map keyS = ks.map some
  nd : ks.Nodup
def vsOf (es : List DictEntry) : List (Str × Value) := es.map fun e => ((keyS e).getD "", e.val)
theorem pairs_vs {P : Program} {w : World} : ∀ {es : List DictEntry} {ks : List Str}, es.map keyS = ks.map some → Pairs (strKind P w) es (vsOf es)
  | [], _, _ => .nil
  | e :: es, [], h => by cases h
  | e :: es, k :: ks, h => by
    injection h with h1 h2
    refine .cons ?_ rfl (pairs_vs h2)
    unfold keyS at h1
    split at h1
    · rename_i x t q
      show (strKind P w).is ((keyS e).getD "") e.key = true
      have : keyS e = some x := by unfold keyS; rw [q]
      rw [this, q]
      exact PySem.strKind_is P w x t
    · cases h1
theorem vs_keys : ∀ {es : List DictEntry} {ks : List Str}, es.map keyS = ks.map some → (vsOf es).map (·.1) = ks
  | [], [], _ => rfl
  | [], _ :: _, h => by cases h
  | e :: es, [], h => by cases h
  | e :: es, k :: ks, h => by
    injection h with h1 h2
    show (keyS e).getD "" :: (vsOf es).map (·.1) = _
    rw [h1, vs_keys h2]
    rfl
theorem dictAtK {P : Program} {w : World} {K : PySem.W.Frag} {h : Heap} {a : Addr} {es : Array DictEntry} {n : Nat} {ks : List Str} (hK : K.In h) (D : KDict K w a es n) (hk : es.toList.map keyS = ks.map some) (nd : ks.Nodup) : h.DictAt (strKind P w) a (vsOf es.toList) n :=
  ⟨_, es, hK _ _ D.at_, ⟨rfl, rfl, rfl⟩, rfl, fun e he => by
    obtain ⟨x, t, e1, e2⟩ := D.lit.all e (Array.mem_toList_iff.mpr he)
    exact ⟨x, by rw [e1]; exact strKind_is P w x t, e2⟩, pairs_vs hk, by rw [vs_keys hk]; exact nd⟩
def Itg (ks : List Str) : It := ⟨fun i _ => i < ks.length, fun i H x H' => H' = H ∧ ∃ k, ks[i]? = some k ∧ x = .str k, fun i _ => ks.length ≤ i⟩
theorem turn_gkeys {P : Program} {w : World} {K : PySem.W.Frag} {tg : Expr} {d : Addr} {es : Array DictEntry} {n : Nat} {ks : List Str} (it : Addr) (D : KDict K w d es n) (hk : es.toList.map keyS = ks.map some) (nd : ks.Nodup) : Turn P w K tg (Itg ks) [it] it (fun i h => h.IsKeyIter it d i ks.length n) where
  mem := by simp
  obj := fun i h st b hb => by
    have e : b = it := by simpa using hb
    subst e
    obtain ⟨oi, e, c, dd⟩ := st
    exact ⟨oi, e, fun v z => by rw [dd] at z; cases z⟩
  keep := fun i h h' st k => st.at fun oi e => k it (by simp) oi e
  item := by
    intro X hP hw hK hc i pins s σ H E I hf st hi
    subst hP hw hK
    obtain ⟨f0, f1, f2, f3, f4, f5⟩ := hf it (by simp)
    have hm := dictAtK (P := X.prog) I.kIn D hk nd
    have hvk := vs_keys hk
    have hl : ks.length = (vsOf es.toList).length := by rw [← hvk, List.length_map]
    have hi : i < ks.length := hi
    obtain ⟨⟨k, v⟩, hkv⟩ : ∃ p, (vsOf es.toList)[i]? = some p := ⟨_, List.getElem?_eq_getElem (by omega)⟩
    have hki : ks[i]? = some k := by rw [← hvk, List.getElem?_map, hkv]; rfl
    rw [hl] at st
    refine wpAny_pyNext_dict_item st hm hkv fun key h' hkey st' sb => ?_
    have I1 : Inv X pins σ H { s with heap := h' } := I.turned (t' := s.toks) (fun b ob hb e => (sb.2 b hb).trans e) f0 f1 f3 f4 f5
    obtain ⟨oi, e, c, dd⟩ := id st'
    refine ⟨key, rfl, go_of (s := { s with heap := h' }) e c dd (by decide) ⟨.str k, H, I1, ?_, ⟨rfl, k, hki, rfl⟩, ?_, fun b hb => (hf b hb).1⟩⟩
    · have hkey : Value.isStrOf k key = true := hkey
      cases key with
      | str x t =>
        have : x = k := by
          unfold Value.isStrOf at hkey
          simpa using hkey
        subst this
        exact ⟨t, rfl⟩
      | _ => exact nomatch hkey
    · show h'.IsKeyIter it d (i + 1) ks.length _
      rw [hl]
      exact st'
  done := by
    intro X hP hw hK hc i pins s σ H E I hf st hi
    subst hP hw hK
    obtain ⟨f0, f1, f2, f3, f4, f5⟩ := hf it (by simp)
    have hsz : es.size = ks.length := by
      have := congrArg List.length hk
      rw [List.length_map, List.length_map, Array.length_toList] at this
      exact this
    exact next_key_end (I.ok.hd hc) st (I.kIn _ _ D.at_) rfl hsz hi fun h' eb => ⟨rfl, I.turned (t' := s.toks) (fun b ob hb e => eb b ob hb e) f0 f1 f3 f4 f5⟩
  self := fun A i s Q E st h => wpAny_pyIter_keyiter st h
section
variable {X : Cx} {W : WX} {e tg : Expr} {p apos cpos : Pos} {x : Str}
theorem pi_gkeys {d : Addr} {es : Array DictEntry} {n : Nat} {ks : List Str} (D : KDict X.K X.w d es n) (hk : es.toList.map keyS = ks.map some) (nd : ks.Nodup) (he : PE X e (tC (.ref d))) (hbase : attributeBase e "keys" X.env (eval e X.env) = eval e X.env := by rfl) (hline : (apos.endLine == cpos.line) = true := by rfl) : PI X tg (.Call (.Attribute e "keys" apos) [] [] cpos) (fun σ H R => R (Itg ks) H) := by
  refine ⟨fun pins s σ H R I h => ?_⟩
  refine wpAny_Call_method (T := "dict") (id := "dict.keys") hbase rfl hline F.plainAttrs_dict F.slot_dict_keys F.type_dict_keys (thn (he.run pins s σ H (fun v H' => v = .ref d ∧ H' = H) I ⟨rfl, rfl⟩) fun u s1 ⟨x, H1, I1, rx, ex, eH⟩ => ?_)
  subst ex eH
  obtain rfl : u = Value.ref d := rx
  have hm := dictAtK (P := X.prog) I1.kIn D hk nd
  have hl : ks.length = (vsOf es.toList).length := by rw [← vs_keys hk, List.length_map]
  refine ⟨hm.dictOf.typeIs, hm.dictOf.mapOf.noDict, ?_⟩
  have I2 : Inv X pins σ H1 { s1 with heap := s1.heap.push { cls := .type "dict_keys", data := .fields #[.ref d] } } := I1.kept (t' := s1.toks) fun b ob q => Heap.get?_push_of_some _ q
  have fin : wpAny (model X.prog X.w) X.A (pyIter (.ref s1.heap.objs.size)) (PIE X pins σ tg R) X.xe { s1 with heap := s1.heap.push { cls := .type "dict_keys", data := .fields #[.ref d] } } := by
    refine PySem.W.kdl_pyIter_keys (d := d) (knd := strKind X.prog X.w) ⟨_, Heap.get?_push_size _ rfl, rfl, rfl⟩ (hm.push _) (pi_one (tk := s1.toks) I2 _ (turn_gkeys _ D hk nd) ⟨_, Heap.get?_push_size _ rfl, rfl, ?_⟩ h)
    rw [hl] <;> rfl
  show wpAny _ _ (callWith cpos (.builtin "dict.keys") [.ref d] [] []) _ X.xe s1
  exact method_meetsIn F.slot_dict_keys F.entry_dict_keys rfl (PySem.evalArgs_none ⟨rfl, hm.dictOf.typeIs, F.args_dict_keys_1 _, _, PySem.W.kdl_meets_keys (strKind X.prog X.w) d D.low, ⟨_, hm.dictOf⟩, fin⟩)
def wKs (ks : List Str) : DL := fun Γ Q _ => Q (ks.map .str) Γ
theorem wk_gkeys {cl : Bool} {K : PySem.W.Frag} {S : Hd} {Γ : Gm} {σ : St} {H : Hp} {ks : List Str} : Wk cl K S Γ σ H (Itg ks) (ks.map .str) := by
  intro F' S' Γ' σ' H' e _ en
  refine ⟨fun i d hi => ?_, ?_⟩
  · rw [List.getElem?_map] at hi
    cases q : ks[i]? with
    | none => rw [q] at hi; cases hi
    | some c =>
      rw [q] at hi
      cases hi
      refine ⟨(List.getElem?_eq_some_iff.mp q).1, fun x H3 y => ?_⟩
      obtain ⟨rfl, c', h1, rfl⟩ := y
      rw [q] at h1
      cases h1
      exact ⟨rfl, .str _⟩
  · show ks.length ≤ (ks.map PyData.str).length
    rw [List.length_map]
    exact Nat.le_refl _
theorem di_gkeys {cl : Bool} {ks : List Str} (h : GKeys X.K X.w X.mg x ks) (hg : Gl X x := by rfl) (hd : (x == ("__debug__" : Str)) = false := by decide) (hbase : attributeBase (.Name x p) "keys" X.env (eval (.Name x p) X.env) = eval (.Name x p) X.env := by rfl) (hline : (apos.endLine == cpos.line) = true := by rfl) : PI X tg (.Call (.Attribute (.Name x p) "keys" apos) [] [] cpos) (tI cl X.K W (wKs ks)) := by
  obtain ⟨es, n, D, hk⟩ := h.dict
  exact piImp (pi_gkeys D hk h.nd (pe_glob (v := .ref (He.ga X.K x)) hg h.glo rfl hd) hbase hline) fun σ H R ⟨F, S, Γ, Qd, Ed, en, hw, k, ke⟩ => k _ Γ H _ hw .refl en wk_gkeys
end
end Dt

/-! Sem1: what the defs of rows and signs do, over data. -/
namespace Sg
open PySem L2 Dt
/-! ### the data -/
inductive Hold where
  | high | low | rise | fall
  deriving DecidableEq
def Hold.s : Hold → Str
  | .high => "high"
  | .low => "low"
  | .rise => "rise"
  | .fall => "fall"
abbrev Sign := List (Option Hold)
abbrev Rows := List (List Bool)
def eH (h : Hold) : PyData := .str h.s
def eW : Option Hold → PyData
  | none => .none
  | some h => .str h.s
def eSign (s : Sign) : PyData := .tuple (s.map eW)
def eRow (r : List Bool) : PyData := .tuple (r.map .bool)
def eRows (r : Rows) : PyData := .list (r.map eRow)
def eN (n : Nat) : PyData := .int (n : Int)
def eTs (l : List Nat) : PyData := .list (l.map eN)
def IsRows (d : PyData) (r : Rows) : Prop := d = .list (r.map eRow) ∨ d = .tuple (r.map eRow)
/-! ### small tools -/
theorem atI_map {α : Type} (f : α → PyData) (l : List α) (i : Nat) (x0 : α) (h : i < l.length) : atI (l.map f) (i : Int) = some (f (l.getD i x0)) := by
  refine atI_nat ?_
  rw [List.getElem?_map, List.getElem?_eq_getElem h, List.getD_eq_getElem?_getD, List.getElem?_eq_getElem h]
  rfl
theorem atI_lastM {α : Type} (f : α → PyData) (l : List α) (x : α) : atI ((l ++ [x]).map f) (-1) = some (f x) := by
  rw [List.map_append]
  exact atI_last _ _
theorem atI_zero {α : Type} (x : α) (l : List α) : atI (x :: l) 0 = some x := atI_nat (j := 0) rfl
theorem small_size {n : Nat} (h : n ≤ 16000000) : n ≤ sizeLine := Nat.le_trans h (by rw [sizeLine_eq]; decide)
theorem ite_id {A : Prop} {c : Bool} (h : A) : if c = true then A else A := by
  cases c <;> exact h
/-- the two ways of a test -/
theorem iteB {A B : Prop} {c : Bool} (h1 : c = true → A) (h2 : c = false → B) : if c = true then A else B := by
  cases c with
  | true => exact h1 rfl
  | false => exact h2 rfl
theorem allB {α : Type} (l : List α) (f : α → Bool) : l.map (fun x => PyData.bool (f x)) = (l.map f).map PyData.bool := by
  rw [List.map_map]
  rfl
theorem all_id {α : Type} (l : List α) (f : α → Bool) : (l.map f).all id = l.all f := by
  rw [List.all_map]
  rfl
theorem any_id {α : Type} (l : List α) (f : α → Bool) : (l.map f).any id = l.any f := by
  rw [List.any_map]
  rfl
/-! ### is_whole -/
def isWhole (x : PyData) (lo hi : Int) : Bool := match x with
  | .int i => decide (lo ≤ i) && decide (i ≤ hi)
  | _ => false
def Sp_is_whole : DSp := fun ds Q _ => ∃ x lo hi, ds = [x, .int lo, .int hi] ∧ Q (.bool (isWhole x lo hi))
def w_is_whole : DS := (wRet (wAnd (wIsi isInt (wVar 0)) (wAnd (wNot (wIsi isBool (wVar 0))) (wChain LeD LeD (wVar 1) (wVar 0) (wVar 2)))))
theorem m_is_whole (ds : List PyData) (Q : PyData → Prop) (E : Str → Prop) (h : Sp_is_whole ds Q E) : w_is_whole (startG ["thing", "low", "most"] ds) (endO Q E) := by
  obtain ⟨x, lo, hi, rfl, q⟩ := h
  show w_is_whole [.dat x, .dat (.int lo), .dat (.int hi)] _
  refine ⟨_, rfl, _, rfl, ?_⟩
  cases x with
  | int i =>
    refine ⟨_, rfl, _, rfl, _, rfl, ?_⟩
    refine ⟨_, rfl, _, rfl, _, rfl, ?_⟩
    refine iteB (fun h => ?_) (fun h => ?_)
    · refine ⟨_, rfl, _, rfl, ?_⟩
      show Q _
      unfold isWhole at q
      simp only [h, Bool.true_and] at q
      exact q
    · show Q _
      unfold isWhole at q
      simp only [h, Bool.false_and] at q
      exact q
  | bool b => exact ⟨_, rfl, _, rfl, _, rfl, q⟩
  | _ => exact q
/-! ### are_levels -/
def isLevels (x : PyData) (n : Int) : Bool := match x with
  | .tuple ds => ((ds.length : Int) == n) && ds.all isBool
  | _ => false
def Sp_are_levels : DSp := fun ds Q _ => ∃ x n, ds = [x, .int n] ∧ (∀ l, x = .tuple l → l.length ≤ sizeLine) ∧ Q (.bool (isLevels x n))
def w_are_levels : DS := (wRet (wAnd (wIsi isTup (wVar 0)) (wAnd (wBin EqD (wCall LenC (wCons (wVar 0) wNil)) (wVar 1)) (wCall AllC (wCons (wLc (wSeq (wVar 0)) (stAll (gdN 2) (wIsi isBool (wVar 2)) [2]) [2]) wNil)))))
theorem m_are_levels (ds : List PyData) (Q : PyData → Prop) (E : Str → Prop) (h : Sp_are_levels ds Q E) : w_are_levels (startG ["thing", "many", "one"] ds) (endO Q E) := by
  obtain ⟨x, n, rfl, hz, q⟩ := h
  show w_are_levels [.dat x, .dat (.int n), .no] _
  refine ⟨_, rfl, _, rfl, ?_⟩
  cases x with
  | tuple l =>
    refine ⟨_, rfl, _, ⟨_, _, rfl, rfl, rfl⟩, _, rfl, _, ⟨rfl, rfl, rfl⟩, _, rfl, ?_⟩
    show if ((l.length : Int) == n) = true then _ else _
    refine iteB (fun h => ?_) (fun h => ?_)
    · refine ⟨_, rfl, _, rfl, hz l rfl, rfl, ?_⟩
      rw [show l = l.map id by rw [List.map_id]]
      refine lc_all id (fun x => .bool (isBool x)) l [] (fun x _ k hk => ?_) ?_
      · exact ⟨_, rfl, hk⟩
      · refine ⟨_, ⟨l.map isBool, ?_, rfl⟩, ?_⟩
        · rw [List.nil_append, allB]
        · show Q _
          unfold isLevels at q
          simp only [h, Bool.true_and] at q
          rw [all_id]
          exact q
    · show Q (.bool ((l.length : Int) == n))
      unfold isLevels at q
      simp only [h, Bool.false_and] at q
      rw [h]
      exact q
  | _ => exact q
/-! ### look_rows -/
def SzR (d : PyData) : Prop := ∀ rs, d = .list rs → ∀ l, PyData.tuple l ∈ rs → l.length ≤ sizeLine
def validRows (d : PyData) : Bool := match d with
  | .list rs => decide (1 ≤ (rs.length : Int)) && decide ((rs.length : Int) ≤ 200) && (match rs with
    | .tuple l :: _ => decide (1 ≤ (l.length : Int)) && decide ((l.length : Int) ≤ 5) && rs.all fun x => isLevels x l.length
    | _ => false)
  | _ => false
def Sp_look_rows : DSp := fun ds Q E => ∃ d, ds = [d] ∧ SzR d ∧ (if validRows d = true then Q .none else E "BadRows")
def w_look_rows : DS := (wSq (wIfS (wtOr (wtNot (wTru (wIsi isLst (wVar 0)))) (wtOr (wtNot (wTst (wChain LeD LeD (wC (.int 1)) (wCall LenC (wCons (wVar 0) wNil)) (wC (.int 200))))) (wtNot (wTru (wIsi isTup (wBin IxD (wVar 0) (wC (.int 0)))))))) (wRaise "BadRows") wNx)
  (wSq (wSet 1 (wCall LenC (wCons (wBin IxD (wVar 0) (wC (.int 0))) wNil)))
  (wIfS (wtOr (wtNot (wTst (wChain LeD LeD (wC (.int 1)) (wVar 1) (wC (.int 5))))) (wtNot (wTru (wCall AllC (wCons (wLc (wSeq (wVar 0)) (stAll (gdN 2) (wFn Sp_are_levels (wCons (wVar 2) (wCons (wVar 1) wNil))) [2]) [2]) wNil))))) (wRaise "BadRows") wNx)))
theorem m_look_rows (ds : List PyData) (Q : PyData → Prop) (E : Str → Prop) (h : Sp_look_rows ds Q E) : w_look_rows (startG ["rows", "many", "row"] ds) (endO Q E) := by
  obtain ⟨d, rfl, hz, q⟩ := h
  show w_look_rows [.dat d, .no, .no] _
  refine ⟨_, rfl, _, rfl, ?_⟩
  cases d with
  | list rs =>
    refine ⟨_, rfl, _, ⟨_, _, rfl, rfl, rfl⟩, _, rfl, ?_⟩
    have stop : validRows (.list rs) = false → E "BadRows" := fun e => by rw [if_neg (by rw [e]; exact Bool.false_ne_true)] at q; exact q
    refine iteB (fun h1 => ?_) (fun h1 => ?_)
    · refine ⟨_, rfl, _, rfl, ?_⟩
      refine iteB (fun h2 => ?_) (fun h2 => ?_)
      · rw [Bool.not_eq_true'] at h2
        exact stop (by unfold validRows; simp only [h1, h2, Bool.true_and, Bool.false_and])
      rw [Bool.not_eq_false'] at h2
      have hl2 : rs.length ≤ 200 := by have := of_decide_eq_true h2; omega
      cases rs with
      | nil => exact absurd h1 (by decide)
      | cons r0 rs =>
        refine ⟨_, rfl, _, atI_zero _ _, _, rfl, ?_⟩
        cases r0 with
        | tuple l =>
          refine ⟨_, rfl, _, atI_zero _ _, _, ⟨_, _, rfl, rfl, rfl⟩, _, rfl, _, rfl, ?_⟩
          refine iteB (fun h3 => ?_) (fun h3 => ?_)
          · refine ⟨_, rfl, _, rfl, ?_⟩
            refine iteB (fun h4 => ?_) (fun h4 => ?_)
            · rw [Bool.not_eq_true'] at h4
              exact stop (by unfold validRows; simp only [h1, h2, h3, h4, Bool.true_and, Bool.false_and, Bool.and_false])
            rw [Bool.not_eq_false'] at h4
            refine ⟨_, rfl, _, rfl, small_size (by omega), rfl, ?_⟩
            rw [show (PyData.tuple l :: rs) = (PyData.tuple l :: rs).map id by rw [List.map_id]]
            refine lc_all id (fun x => .bool (isLevels x l.length)) _ [] (fun x hx k hk => ?_) ?_
            · exact ⟨_, rfl, _, rfl, _, _, rfl, fun l' e => hz _ rfl l' (e ▸ hx), hk⟩
            · refine ⟨_, ⟨(PyData.tuple l :: rs).map fun x => isLevels x l.length, ?_, rfl⟩, _, rfl, ?_⟩
              · rw [List.nil_append, allB]
              · rw [all_id]
                refine iteB (fun h5 => ?_) (fun h5 => ?_)
                · rw [Bool.not_eq_true'] at h5
                  exact stop (by unfold validRows; simp only [h1, h2, h3, h4, h5, Bool.true_and])
                · rw [Bool.not_eq_false'] at h5
                  rw [if_pos (by unfold validRows; simp only [h1, h2, h3, h4, h5, Bool.true_and])] at q
                  exact q
          · exact ⟨_, rfl, stop (by unfold validRows; simp only [h1, h2, h3, Bool.true_and, Bool.false_and])⟩
        | _ => exact stop (by unfold validRows; simp only [h1, h2, Bool.true_and])
    · exact ⟨_, rfl, stop (by unfold validRows; simp only [h1, Bool.false_and])⟩
  | _ => exact q
/-! ### look_tick -/
def Sp_look_tick : DSp := fun ds Q E => ∃ d l x, ds = [d, x] ∧ SeqD d l ∧ (if isWhole x 0 ((l.length : Int) - 1) = true then Q .none else E "BadTold")
def w_look_tick : DS := (wIfS (wtNot (wTru (wFn Sp_is_whole (wCons (wVar 1) (wCons (wC (.int 0)) (wCons (wBin SubD (wCall LenC (wCons (wVar 0) wNil)) (wC (.int 1))) wNil)))))) (wRaise "BadTold") wNx)
theorem m_look_tick (ds : List PyData) (Q : PyData → Prop) (E : Str → Prop) (h : Sp_look_tick ds Q E) : w_look_tick (startG ["rows", "tick"] ds) (endO Q E) := by
  obtain ⟨d, l, x, rfl, hs, q⟩ := h
  show w_look_tick [.dat d, .dat x] _
  have hl : LenD d l.length := by cases d <;> first | exact hs.elim | (cases hs; rfl)
  refine ⟨_, rfl, _, rfl, _, ⟨_, _, rfl, hl, rfl⟩, _, rfl, _, _, _, rfl, _, rfl, ?_⟩
  refine iteB (fun h1 => ?_) (fun h1 => ?_)
  · rw [Bool.not_eq_true'] at h1
    rw [if_neg (by rw [h1]; exact Bool.false_ne_true)] at q
    exact q
  · rw [Bool.not_eq_false'] at h1
    rw [if_pos h1] at q
    exact q
/-! ### holding -/
def lv (rows : Rows) (t l : Nat) : Bool := (rows.getD t []).getD l false
def ahead (rows : Rows) (t l : Nat) : Bool := if 0 < t then lv rows (t - 1) l else lv rows t l
def holdM (rows : Rows) (t l : Nat) : List Hold := [if lv rows t l = true then .high else .low] ++ (if 0 < t ∧ lv rows (t - 1) l ≠ lv rows t l then [if lv rows t l = true then .rise else .fall] else [])
def Sp_holding : DSp := fun ds Q _ => ∃ d rows t l m, ds = [d, eN t, eN l] ∧ IsRows d rows ∧ (∀ r ∈ rows, r.length = m) ∧ t < rows.length ∧ l < m ∧ Q (.list ((holdM rows t l).map eH))
theorem ix_rows {d : PyData} {rows : Rows} {t : Nat} (h : IsRows d rows) (ht : t < rows.length) : IxD d (.int (t : Int)) (eRow (rows.getD t [])) := by
  rcases h with rfl | rfl <;> exact atI_map eRow rows t [] ht
theorem len_row {rows : Rows} {m t : Nat} (h : ∀ r ∈ rows, r.length = m) (ht : t < rows.length) : (rows.getD t []).length = m := by
  rw [List.getD_eq_getElem?_getD, List.getElem?_eq_getElem ht]
  exact h _ (List.getElem_mem ht)
theorem ix_row {rows : Rows} {m t l : Nat} (h : ∀ r ∈ rows, r.length = m) (ht : t < rows.length) (hl : l < m) : IxD (eRow (rows.getD t [])) (.int (l : Int)) (.bool (lv rows t l)) :=
  atI_map PyData.bool (rows.getD t []) l false (by rw [len_row h ht]; exact hl)
def w_holding : DS := (wSq (wSet 3 (wBin IxD (wBin IxD (wVar 0) (wVar 1)) (wVar 2)))
  (wSq (wSetO 4 (wLstF (wCons (wIf (wTru (wVar 3)) (wC (.str "high")) (wC (.str "low"))) wNil)))
  (wSq (wIfS (wtAnd (wTst (wBin GtD (wVar 1) (wC (.int 0)))) (wTst (wBin NeD (wBin IxD (wBin IxD (wVar 0) (wBin SubD (wVar 1) (wC (.int 1)))) (wVar 2)) (wVar 3)))) (wApp 4 (wIf (wTru (wVar 3)) (wC (.str "rise")) (wC (.str "fall")))) wNx)
  (wRel 4 (wRet (wVar 4))))))
theorem m_holding (ds : List PyData) (Q : PyData → Prop) (E : Str → Prop) (h : Sp_holding ds Q E) : w_holding (startG ["rows", "tick", "line", "now", "found"] ds) (endO Q E) := by
  obtain ⟨d, rows, t, l, m, rfl, hd, hm, ht, hl, q⟩ := h
  show w_holding [.dat d, .dat (eN t), .dat (eN l), .no, .no] _
  refine ⟨_, rfl, _, rfl, _, ix_rows hd ht, _, rfl, _, ix_row hm ht hl, ?_⟩
  refine ⟨_, rfl, _, rfl, ?_⟩
  have key : ∀ h0 : Hold, holdM rows t l = [h0] ++ (if 0 < t ∧ lv rows (t - 1) l ≠ lv rows t l then [if lv rows t l = true then .rise else .fall] else []) →
      (wSq (wIfS (wtAnd (wTst (wBin GtD (wVar 1) (wC (.int 0)))) (wTst (wBin NeD (wBin IxD (wBin IxD (wVar 0) (wBin SubD (wVar 1) (wC (.int 1)))) (wVar 2)) (wVar 3)))) (wApp 4 (wIf (wTru (wVar 3)) (wC (.str "rise")) (wC (.str "fall")))) wNx)
        (wRel 4 (wRet (wVar 4)))) [.dat d, .dat (eN t), .dat (eN l), .dat (.bool (lv rows t l)), .own [eH h0]] (endO Q E) := fun h0 e => by
    rw [e] at q
    refine ⟨_, rfl, _, rfl, _, rfl, ?_⟩
    refine iteB (fun h1 => ?_) (fun h1 => ?_)
    · have h1 : (0 : Int) < (t : Int) := of_decide_eq_true h1
      have ht0 : 0 < t := by omega
      have ht1 : t - 1 < rows.length := by omega
      refine ⟨_, rfl, _, rfl, _, rfl, eRow (rows.getD (t - 1) []), ?_, _, rfl, _, ix_row hm ht1 hl, _, rfl, _, ⟨rfl, rfl, rfl⟩, _, rfl, ?_⟩
      · have e1 : (t : Int) - 1 = ((t - 1 : Nat) : Int) := by omega
        show IxD d (.int ((t : Int) - 1)) _
        rw [e1]
        exact ix_rows hd ht1
      · show if (!(lv rows (t - 1) l == lv rows t l)) = true then _ else _
        refine iteB (fun h2 => ?_) (fun h2 => ?_)
        · have hne : lv rows (t - 1) l ≠ lv rows t l := by simpa using h2
          rw [if_pos ⟨ht0, hne⟩] at q
          refine ⟨⟨_, rfl⟩, _, rfl, _, rfl, ?_⟩
          refine iteB (fun h3 => ?_) (fun h3 => ?_)
          · rw [if_pos h3] at q
            exact ⟨_, rfl, by show 1 < sizeLine; rw [sizeLine_eq]; decide, _, rfl, _, rfl, q⟩
          · rw [if_neg (by rw [h3]; exact Bool.false_ne_true)] at q
            exact ⟨_, rfl, by show 1 < sizeLine; rw [sizeLine_eq]; decide, _, rfl, _, rfl, q⟩
        · have he : lv rows (t - 1) l = lv rows t l := by simpa using h2
          rw [if_neg (fun z => z.2 he)] at q
          exact ⟨_, rfl, _, rfl, q⟩
    · have h1 : ¬ (0 : Int) < (t : Int) := of_decide_eq_false h1
      rw [if_neg (fun z => h1 (by omega))] at q
      exact ⟨_, rfl, _, rfl, q⟩
  refine iteB (fun h1 => ?_) (fun h1 => ?_)
  · exact ⟨by show 1 ≤ sizeLine; rw [sizeLine_eq]; decide, key .high (by unfold holdM; rw [if_pos h1])⟩
  · exact ⟨by show 1 ≤ sizeLine; rw [sizeLine_eq]; decide, key .low (by unfold holdM; rw [if_neg (by rw [h1]; exact Bool.false_ne_true)])⟩
/-! ### what a word asks -/
def okH (h : Hold) (now bef : Bool) : Bool := match h with
  | .high => now
  | .low => !now
  | .rise => now && !bef
  | .fall => bef && !now
def okW (w : Option Hold) (now bef : Bool) : Bool := match w with
  | none => true
  | some h => okH h now bef
def fitsM (rows : Rows) (t : Nat) (s : Sign) : Bool := (List.range s.length).all fun l => okW (s.getD l none) (lv rows t l) (ahead rows t l)
def ticksM (rows : Rows) (s : Sign) : List Nat := (List.range rows.length).filter fun t => fitsM rows t s
theorem inH (h : Hold) (l : List Hold) : inD (eH h) (l.map eH) = decide (h ∈ l) := by
  induction l with
  | nil => rfl
  | cons x r ih =>
    show (PyData.eqv (eH x) (eH h) || inD (eH h) (r.map eH)) = decide (h ∈ x :: r)
    rw [ih]
    have e : PyData.eqv (eH x) (eH h) = decide (h = x) := by cases x <;> cases h <;> decide +kernel
    rw [e]
    by_cases q : h = x
    · subst q; simp
    · simp [q]
theorem in_hold (rows : Rows) (t l : Nat) (h : Hold) : decide (h ∈ holdM rows t l) = okH h (lv rows t l) (ahead rows t l) := by
  unfold holdM ahead okH
  by_cases h0 : 0 < t
  · cases lv rows (t - 1) l <;> cases lv rows t l <;> cases h <;> simp [h0]
  · cases lv rows t l <;> cases h <;> simp [h0]
theorem strOk_hold (h : Hold) : SeqAt.shaped (eH h) = true := by cases h <;> decide +kernel
theorem shaped_holds (l : List Hold) : SeqAt.shaped (.list (l.map eH)) = true := by
  have e1 : ∀ l : List Hold, PyData.canLayAll0 (l.map eH) = true := fun l => by
    induction l with
    | nil => rfl
    | cons x r ih =>
      show (PyData.canLay0 (eH x) && PyData.canLayAll0 (r.map eH)) = true
      rw [ih, SeqAt.canLay_of_shaped (strOk_hold x)]
      rfl
  have e2 : ∀ l : List Hold, PyData.depthAll (l.map eH) = 0 := fun l => by
    induction l with
    | nil => rfl
    | cons x r ih =>
      show max (PyData.depth (eH x)) (PyData.depthAll (r.map eH)) = 0
      rw [ih]
      cases x <;> rfl
  unfold SeqAt.shaped
  have d1 : PyData.canLay0 (.list (l.map eH)) = true := by unfold PyData.canLay0; exact e1 l
  have d2 : PyData.depth (.list (l.map eH)) = 1 := by unfold PyData.depth; rw [e2]
  rw [d1, d2]
  rfl
/-! ### fits, ticks_of -/
def RowsOk (rows : Rows) (m : Nat) : Prop := ∀ r ∈ rows, r.length = m
def Sp_fits : DSp := fun ds Q _ => ∃ d rows t s m, ds = [d, eN t, eSign s] ∧ IsRows d rows ∧ RowsOk rows m ∧ t < rows.length ∧ s.length ≤ m ∧ s.length ≤ 1000 ∧ Q (.bool (fitsM rows t s))
def w_fits : DS := (wRet (wCall AllC (wCons (wLc (wRng Rng1 (wCons (wCall LenC (wCons (wVar 2) wNil)) wNil)) (stAll (gdN 3) (wOr (wBin IsND (wBin IxD (wVar 2) (wVar 3)) (wC .none)) (wBin (InD false) (wBin IxD (wVar 2) (wVar 3)) (wFn Sp_holding (wCons (wVar 0) (wCons (wVar 1) (wCons (wVar 3) wNil)))))) [3]) [3]) wNil)))
theorem m_fits (ds : List PyData) (Q : PyData → Prop) (E : Str → Prop) (h : Sp_fits ds Q E) : w_fits (startG ["rows", "tick", "sign", "line"] ds) (endO Q E) := by
  obtain ⟨d, rows, t, s, m, rfl, hd, hm, ht, hs, hs2, q⟩ := h
  show w_fits [.dat d, .dat (eN t), .dat (eSign s), .no] _
  refine ⟨_, rfl, _, ⟨_, _, rfl, rfl, rfl⟩, _, ⟨_, rfl, ?_, ?_, rfl⟩, ?_⟩
  · rw [List.length_map]; omega
  · rw [List.length_map]; omega
  rw [List.length_map, rngL_nat]
  refine ⟨by rw [List.length_map, List.length_range]; exact small_size (by omega), rfl, ?_⟩
  refine lc_all _ (fun l => .bool (okW (s.getD l none) (lv rows t l) (ahead rows t l))) _ [] (fun l hl k hk => ?_) ?_
  · have hl := List.mem_range.mp hl
    refine ⟨_, rfl, _, rfl, _, atI_map eW s l none hl, _, ⟨rfl, rfl⟩, _, rfl, ?_⟩
    cases hw : s.getD l none with
    | none =>
      rw [hw] at hk
      exact hk
    | some h =>
      refine ⟨_, rfl, _, rfl, _, atI_map eW s l none hl, _, rfl, _, rfl, _, rfl, d, rows, t, l, m, rfl, hd, hm, ht, by omega, ?_⟩
      rw [hw]
      refine ⟨_, ⟨rfl, strOk_hold h, shaped_holds _⟩, ?_⟩
      rw [hw] at hk
      have e : (false ^^ inD (eW (some h)) ((holdM rows t l).map eH)) = okW (some h) (lv rows t l) (ahead rows t l) := by
        rw [Bool.false_xor]
        exact (inH h _).trans (in_hold rows t l h)
      rw [e]
      exact hk
  · refine ⟨_, ⟨(List.range s.length).map fun l => okW (s.getD l none) (lv rows t l) (ahead rows t l), ?_, rfl⟩, ?_⟩
    · rw [List.nil_append, allB]
    · rw [all_id]
      exact q
def Sp_ticks_of : DSp := fun ds Q _ => ∃ d rows s m, ds = [d, eSign s] ∧ IsRows d rows ∧ RowsOk rows m ∧ rows.length ≤ 1000000 ∧ s.length ≤ m ∧ s.length ≤ 1000 ∧ Q (eTs (ticksM rows s))
def w_ticks_of : DS := (wRet (wLc (wRng Rng1 (wCons (wCall LenC (wCons (wVar 0) wNil)) wNil)) (stIf (gdN 2) (wTru (wFn Sp_fits (wCons (wVar 0) (wCons (wVar 2) (wCons (wVar 1) wNil))))) (wVar 2) [2]) [2]))
theorem len_rows {d : PyData} {rows : Rows} (h : IsRows d rows) : LenD d rows.length := by
  rcases h with rfl | rfl <;> exact (List.length_map _).symm
theorem m_ticks_of (ds : List PyData) (Q : PyData → Prop) (E : Str → Prop) (h : Sp_ticks_of ds Q E) : w_ticks_of (startG ["rows", "sign", "tick"] ds) (endO Q E) := by
  obtain ⟨d, rows, s, m, rfl, hd, hm, hr, hs, hs2, q⟩ := h
  show w_ticks_of [.dat d, .dat (eSign s), .no] _
  refine ⟨_, rfl, _, ⟨_, _, rfl, len_rows hd, rfl⟩, _, ⟨_, rfl, by omega, by omega, rfl⟩, ?_⟩
  rw [rngL_nat]
  refine ⟨by rw [List.length_map, List.length_range]; exact small_size (by omega), rfl, ?_⟩
  refine lc_if _ (fun t => fitsM rows t s) eN _ [] (fun t ht k hk => ?_) ?_
  · have ht := List.mem_range.mp ht
    refine ⟨_, rfl, _, rfl, _, rfl, d, rows, t, s, m, rfl, hd, hm, ht, hs, hs2, _, rfl, ?_⟩
    refine iteB (fun h1 => ?_) (fun h1 => ?_)
    · rw [if_pos h1] at hk
      exact ⟨_, rfl, hk⟩
    · rw [if_neg (by rw [h1]; exact Bool.false_ne_true)] at hk
      exact hk
  · exact q
end Sg

/-! SemL: what the laws' own helpers do. -/
namespace Sg
open PySem L2 Dt
/-! ### draws -/
def spCellS (K : PySem.W.Frag) : Sp := fun vs H Q _ => ∃ v k, vs = [v, .int k] ∧ Scr K H v ∧ ∀ i : Int, Q (.int i) H
def spMixS (K : PySem.W.Frag) : Sp := fun vs H Q _ => ∃ v k, vs = [v, .int k] ∧ Scr K H v ∧ 0 ≤ k ∧ k ≤ 100000000 ∧ ∀ r : Int, 0 ≤ r → Q (.int r) H
/-- a draw below m; the town grows by one -/
def Sp__law_draw : TSp := fun n ds Q => ∃ m : Int, ds = [.int m] ∧ 0 < m ∧ n < 1000000 ∧ ∀ d : Int, 0 ≤ d → d < m → Q (.int d) (n + 1)
/-- one of some -/
def Sp__law_pick : TSp := fun n ds Q => ∃ l : List PyData, ds = [.list l] ∧ l ≠ [] ∧ n < 1000000 ∧ ∀ d, d ∈ l → Q d (n + 1)
def w__law_pick : DS := (wRet (wBin IxD (wVar 2) (wFnT 0 1 Sp__law_draw (wCons (wCall LenC (wCons (wVar 2) wNil)) wNil))))
theorem m__law_pick (n : Nat) (ds : List PyData) (Q : PyData → Nat → Prop) (h : Sp__law_pick n ds Q) : w__law_pick (startT ["script", "town", "some"] n ds) (endT Q) := by
  obtain ⟨l, rfl, hl, hn, q⟩ := h
  show w__law_pick [.scr, .twn n, .dat (.list l)] _
  have hpos : 0 < l.length := List.length_pos_iff.mpr hl
  refine ⟨_, rfl, rfl, ⟨_, rfl⟩, _, rfl, _, ⟨_, _, rfl, rfl, rfl⟩, _, rfl, rfl, _, rfl, by omega, hn, fun d h0 h1 => ?_⟩
  obtain ⟨j, rfl⟩ : ∃ j : Nat, d = (j : Int) := ⟨d.toNat, by omega⟩
  have hd : j < l.length := by omega
  exact ⟨l[j], atI_nat (List.getElem?_eq_getElem hd), _, rfl, q _ (List.getElem_mem hd)⟩
/-! ### comprehensions that draw -/
theorem lc_inv {α : Type} {Γ : Gm} {st : LStep} (enc : α → PyData) {k : List PyData → Gm → Prop} (l : List α) (I : List α → List PyData → Gm → Prop)
    (hs : ∀ pre x post acc Γ, l = pre ++ x :: post → I pre acc Γ → ∀ k' : Option PyData → Gm → Prop, (∀ o Γ', I (pre ++ [x]) (acc ++ o.toList) Γ' → k' o Γ') → st (enc x) Γ k') (hd : ∀ acc Γ', I l acc Γ' → k acc Γ') (h0 : I [] [] Γ) : lcW st (l.map enc) [] Γ k := by
  have key : ∀ (post pre : List α) (acc : List PyData) (Γ : Gm), l = pre ++ post → I pre acc Γ → lcW st (post.map enc) acc Γ k := by
    intro post
    induction post with
    | nil =>
      intro pre acc Γ e i
      rw [List.append_nil] at e
      subst e
      exact hd acc Γ i
    | cons x r ih =>
      intro pre acc Γ e i
      exact hs pre x r acc Γ e i _ fun o Γ' i' => ih (pre ++ [x]) _ Γ' (by rw [List.append_assoc]; exact e) i'
  exact key l [] [] Γ rfl h0
/-! ### _law_rows -/
def Sp__law_rows : TSp := fun n ds Q => ∃ m most : Nat, ds = [eN m, eN most] ∧ 1 ≤ m ∧ m ≤ 5 ∧ 1 ≤ most ∧ most ≤ 200 ∧ n ≤ 500000 ∧ ∀ (rows : Rows) (n' : Nat), 1 ≤ rows.length → rows.length ≤ most → RowsOk rows m → n' ≤ n + 2000 → Q (eRows rows) n'
def w__law_rows : DS := (wSq (wSetO 4 (wLstF (wCons (wCall TupC (wCons (wLc (wRng Rng1 (wCons (wVar 2) wNil)) (stAll (gdN 6) (wBin EqD (wFnT 0 1 Sp__law_draw (wCons (wC (.int 2)) wNil)) (wC (.int 0))) [6]) [6]) wNil)) wNil)))
  (wSq (wSet 5 (wFnT 0 1 Sp__law_pick (wCons (wLst (wCons (wC (.int 2)) (wCons (wC (.int 3)) (wCons (wC (.int 5)) wNil)))) wNil)))
  (wSq (wFor (wRng Rng1 (wCons (wFnT 0 1 Sp__law_draw (wCons (wVar 3) wNil)) wNil)) (gdN 6) (wSq (wSet 7 (wBin IxD (wPk 4) (wBin SubD (wCall LenC (wCons (wPk 4) wNil)) (wC (.int 1)))))
  (wApp 4 (wCall TupC (wCons (wLc (wSeq (wVar 7)) (stAll (gdN 8) (wBin NeD (wVar 8) (wBin EqD (wFnT 0 1 Sp__law_draw (wCons (wVar 5) wNil)) (wC (.int 0)))) [8]) [8]) wNil)))))
  (wRel 4 (wRet (wVar 4))))))
theorem eqv_int (i j : Int) : PyData.eqv (.int i) (.int j) = decide (i = j) := by
  unfold PyData.eqv
  by_cases h : i = j
  · subst h; simp
  · simp [h]
theorem eqv_bool (i j : Bool) : PyData.eqv (.bool i) (.bool j) = (i == j) := by
  unfold PyData.eqv
  rfl
theorem m__law_rows (n : Nat) (ds : List PyData) (Q : PyData → Nat → Prop) (h : Sp__law_rows n ds Q) : w__law_rows (startT ["script", "town", "many", "most", "rows", "slow", "k", "here", "one"] n ds) (endT Q) := by
  obtain ⟨m, most, rfl, hm1, hm2, ho1, ho2, hn, q⟩ := h
  show w__law_rows [.scr, .twn n, .dat (eN m), .dat (eN most), .no, .no, .no, .no, .no] _
  -- rows = [tuple([.. for k in range(many)])]
  refine ⟨_, rfl, _, ⟨_, rfl, by omega, by omega, rfl⟩, ?_⟩
  rw [rngL_nat]
  refine ⟨by rw [List.length_map, List.length_range]; exact small_size (by omega), rfl, ?_⟩
  refine lc_inv _ _ (fun pre acc Γ => ∃ bs : List Bool, acc = bs.map .bool ∧ bs.length = pre.length ∧ Γ = [.scr, .twn (n + pre.length), .dat (eN m), .dat (eN most), .no, .no, .no, .no, .no]) ?_ ?_ ⟨[], rfl, rfl, rfl⟩
  · rintro pre x post acc Γ e ⟨bs, rfl, hb, rfl⟩ k' hk
    have hl : pre.length < m := by
      have := congrArg List.length e
      rw [List.length_range, List.length_append, List.length_cons] at this
      omega
    refine ⟨rfl, ⟨_, rfl⟩, _, rfl, rfl, 2, rfl, by decide, by omega, fun d h0 h1 => ?_⟩
    refine ⟨_, ⟨rfl, rfl, rfl⟩, ?_⟩
    refine hk _ _ ⟨bs ++ [decide (d = 0)], ?_, ?_, ?_⟩
    · rw [List.map_append, eqv_int]
      rfl
    · rw [List.length_append, List.length_append, hb]; rfl
    · rw [List.length_append]; rfl
  rintro acc Γ ⟨bs, rfl, hb, rfl⟩
  rw [List.length_range] at hb
  rw [List.length_range]
  refine ⟨_, ⟨_, .inl rfl, rfl⟩, by show 1 ≤ sizeLine; rw [sizeLine_eq]; decide, ?_⟩
  -- slow = pick
  refine ⟨rfl, ⟨_, rfl⟩, by show 3 ≤ sizeLine; rw [sizeLine_eq]; decide, _, rfl, rfl, _, rfl, (by intro z; cases z), by omega, fun d hd => ?_⟩
  obtain ⟨sl, rfl, hs1, hs2⟩ : ∃ sl : Nat, d = eN sl ∧ 2 ≤ sl ∧ sl ≤ 5 := by
    simp only [List.mem_cons, List.not_mem_nil, or_false] at hd
    rcases hd with rfl | rfl | rfl
    · exact ⟨2, rfl, by decide, by decide⟩
    · exact ⟨3, rfl, by decide, by decide⟩
    · exact ⟨5, rfl, by decide, by decide⟩
  -- the loop
  refine ⟨rfl, ⟨_, rfl⟩, _, rfl, _, rfl, rfl, _, rfl, by omega, by omega, fun c hc0 hc1 => ?_⟩
  obtain ⟨c, rfl⟩ : ∃ j : Nat, c = (j : Int) := ⟨c.toNat, by omega⟩
  refine ⟨_, ⟨_, rfl, by omega, by omega, rfl⟩, ?_⟩
  rw [rngL_nat]
  refine for_inv _ _ (fun pre Γ => ∃ (rows : Rows) (x y : Sl), rows.length = pre.length + 1 ∧ RowsOk rows m ∧ Γ = [.scr, .twn (n + m + 1 + 1 + pre.length * m), .dat (eN m), .dat (eN most), .own (rows.map eRow), .dat (eN sl), x, y, .no]) ?_ ?_ ?_
  · rintro pre x post Γ e ⟨rows, x6, x7, hr, hrk, rfl⟩ next hk
    have hl : pre.length < c := by
      have := congrArg List.length e
      rw [List.length_range, List.length_append, List.length_cons] at this
      omega
    have hpm : pre.length * m ≤ 200 * 5 := Nat.mul_le_mul (by omega) hm2
    -- here = rows[len(rows) - 1]
    refine ⟨_, rfl, _, rfl, _, ⟨_, _, rfl, rfl, rfl⟩, _, rfl, eRow (rows.getD pre.length []), ?_, ?_⟩
    · show atI (rows.map eRow) (((rows.map eRow).length : Int) - 1) = _
      rw [List.length_map, show ((rows.length : Nat) : Int) - 1 = ((pre.length : Nat) : Int) by omega]
      exact atI_map eRow rows _ [] (by omega)
    have hrow : (rows.getD pre.length []).length = m := len_row hrk (by omega)
    refine ⟨⟨_, rfl⟩, _, rfl, _, rfl, ?_⟩
    refine ⟨by rw [List.length_map]; exact small_size (by omega), rfl, ?_⟩
    refine lc_inv _ _ (fun pre2 acc Γ => ∃ bs : List Bool, acc = bs.map .bool ∧ bs.length = pre2.length ∧ Γ = [.scr, .twn (n + m + 1 + 1 + pre.length * m + pre2.length), .dat (eN m), .dat (eN most), .own (rows.map eRow), .dat (eN sl), .dat (eN x), .dat (eRow (rows.getD pre.length [])), .no]) ?_ ?_ ⟨[], rfl, rfl, rfl⟩
    · rintro pre2 y post2 acc Γ e2 ⟨bs, rfl, hb, rfl⟩ k' hk'
      have hl2 : pre2.length < m := by
        have := congrArg List.length e2
        rw [hrow, List.length_append, List.length_cons] at this
        omega
      refine ⟨_, rfl, rfl, ⟨_, rfl⟩, _, rfl, _, rfl, rfl, _, rfl, by omega, by omega, fun d h0 h1 => ?_⟩
      refine ⟨_, ⟨rfl, rfl, rfl⟩, _, ⟨rfl, rfl, rfl⟩, ?_⟩
      refine hk' _ _ ⟨bs ++ [!(y == decide (d = 0))], ?_, ?_, ?_⟩
      · rw [List.map_append, eqv_int, eqv_bool]
        rfl
      · rw [List.length_append, List.length_append, hb]; rfl
      · rw [List.length_append]; rfl
    · rintro acc Γ ⟨bs2, rfl, hb2, rfl⟩
      rw [hrow] at hb2
      rw [hrow]
      refine ⟨_, ⟨_, .inl rfl, rfl⟩, _, rfl, by rw [List.length_map, sizeLine_eq]; omega, ?_⟩
      refine hk _ ⟨rows ++ [bs2], .dat (eN x), .dat (eRow (rows.getD pre.length [])), ?_, ?_, ?_⟩
      · rw [List.length_append, List.length_append, hr]; rfl
      · intro r hr'
        rcases List.mem_append.mp hr' with z | z
        · exact hrk r z
        · rw [List.mem_singleton.mp z]; exact hb2
      · rw [List.map_append, List.length_append, List.length_singleton, Nat.add_mul, Nat.one_mul, ← Nat.add_assoc]
        rfl
  · rintro Γ ⟨rows, x6, x7, hr, hrk, rfl⟩
    rw [List.length_range] at hr
    rw [List.length_range]
    have hpm : c * m ≤ 200 * 5 := Nat.mul_le_mul (by omega) hm2
    exact ⟨_, rfl, _, rfl, _, rfl, q rows _ (by omega) (by omega) hrk (by omega)⟩
  · refine ⟨[bs], .no, .no, rfl, ?_, ?_⟩
    · intro r hr
      rw [List.mem_singleton.mp hr]; exact hb
    · rw [List.length_nil, Nat.zero_mul]
      rfl
/-! ### _law_sign -/
def Sp__law_sign : TSp := fun n ds Q => ∃ m : Nat, ds = [eN m] ∧ m ≤ 1000 ∧ n ≤ 900000 ∧ ∀ (s : Sign), s.length = m → Q (eSign s) (n + m)
def w__law_sign : DS := (wRet (wCall TupC (wCons (wLc (wRng Rng1 (wCons (wVar 2) wNil)) (stAll (gdN 3) (wFnT 0 1 Sp__law_pick (wCons (wLst (wCons (wC .none) (wCons (wC .none) (wCons (wC (.str "high")) (wCons (wC (.str "low")) (wCons (wC (.str "rise")) (wCons (wC (.str "fall")) wNil))))))) wNil)) [3]) [3]) wNil)))
theorem m__law_sign (n : Nat) (ds : List PyData) (Q : PyData → Nat → Prop) (h : Sp__law_sign n ds Q) : w__law_sign (startT ["script", "town", "many", "k"] n ds) (endT Q) := by
  obtain ⟨m, rfl, hm, hn, q⟩ := h
  show w__law_sign [.scr, .twn n, .dat (eN m), .no] _
  refine ⟨_, rfl, _, ⟨_, rfl, by omega, by omega, rfl⟩, ?_⟩
  rw [rngL_nat]
  refine ⟨by rw [List.length_map, List.length_range]; exact small_size (by omega), rfl, ?_⟩
  refine lc_inv _ _ (fun pre acc Γ => ∃ s : Sign, acc = s.map eW ∧ s.length = pre.length ∧ Γ = [.scr, .twn (n + pre.length), .dat (eN m), .no]) ?_ ?_ ⟨[], rfl, rfl, rfl⟩
  · rintro pre x post acc Γ e ⟨s, rfl, hb, rfl⟩ k' hk
    have hl : pre.length < m := by
      have := congrArg List.length e
      rw [List.length_range, List.length_append, List.length_cons] at this
      omega
    refine ⟨rfl, ⟨_, rfl⟩, by show 6 ≤ sizeLine; rw [sizeLine_eq]; decide, _, rfl, rfl, _, rfl, (by intro z; cases z), by omega, fun d hd => ?_⟩
    obtain ⟨w, rfl⟩ : ∃ w, d = eW w := by
      simp only [List.mem_cons, List.not_mem_nil, or_false] at hd
      rcases hd with rfl | rfl | rfl | rfl | rfl | rfl
      · exact ⟨none, rfl⟩
      · exact ⟨none, rfl⟩
      · exact ⟨some .high, rfl⟩
      · exact ⟨some .low, rfl⟩
      · exact ⟨some .rise, rfl⟩
      · exact ⟨some .fall, rfl⟩
    refine hk _ _ ⟨s ++ [w], ?_, ?_, ?_⟩
    · rw [List.map_append]; rfl
    · rw [List.length_append, List.length_append, hb]; rfl
    · rw [List.length_append]; rfl
  · rintro acc Γ ⟨s, rfl, hb, rfl⟩
    rw [List.length_range] at hb
    rw [List.length_range]
    exact ⟨_, ⟨_, .inl rfl, rfl⟩, _, rfl, q s hb⟩
end Sg

/-! Sem2: signs looked at, rows decoded, catches. -/
namespace Sg
open PySem L2 Dt
/-! ### is_sign, look_sign -/
def g_HOLDS : PyData := .tuple [.str "high", .str "low", .str "rise", .str "fall"]
def isWord (x : PyData) : Bool := match x with
  | .none => true
  | .str z => inD (.str z) [.str "high", .str "low", .str "rise", .str "fall"]
  | _ => false
def isSign (x : PyData) (n : Int) : Bool := match x with
  | .tuple l => ((l.length : Int) == n) && l.all isWord
  | _ => false
def SzT (x : PyData) : Prop := ∀ l, x = .tuple l → l.length ≤ sizeLine
def Sp_is_sign : DSp := fun ds Q _ => ∃ x n, ds = [x, .int n] ∧ SzT x ∧ Q (.bool (isSign x n))
def w_is_sign : DS := (wSq (wIfS (wtOr (wtNot (wTru (wIsi isTup (wVar 0)))) (wTst (wBin NeD (wCall LenC (wCons (wVar 0) wNil)) (wVar 1)))) (wRet (wC (.bool false))) wNx)
  (wRet (wCall AllC (wCons (wLc (wSeq (wVar 0)) (stAll (gdN 2) (wOr (wBin IsND (wVar 2) (wC .none)) (wAnd (wIsi isStr (wVar 2)) (wBin (InD false) (wVar 2) (wC g_HOLDS)))) [2]) [2]) wNil))))
theorem m_is_sign (ds : List PyData) (Q : PyData → Prop) (E : Str → Prop) (h : Sp_is_sign ds Q E) : w_is_sign (startG ["thing", "many", "one"] ds) (endO Q E) := by
  obtain ⟨x, n, rfl, hz, q⟩ := h
  show w_is_sign [.dat x, .dat (.int n), .no] _
  refine ⟨_, rfl, _, rfl, ?_⟩
  cases x with
  | tuple l =>
    refine ⟨_, rfl, _, ⟨_, _, rfl, rfl, rfl⟩, _, rfl, _, ⟨rfl, rfl, rfl⟩, _, rfl, ?_⟩
    show if (!((l.length : Int) == n)) = true then _ else _
    refine iteB (fun h1 => ?_) (fun h1 => ?_)
    · rw [Bool.not_eq_true'] at h1
      unfold isSign at q
      simp only [h1, Bool.false_and] at q
      exact q
    · rw [Bool.not_eq_false'] at h1
      refine ⟨_, rfl, _, rfl, hz l rfl, rfl, ?_⟩
      rw [show l = l.map id by rw [List.map_id]]
      refine lc_all id (fun x => .bool (isWord x)) l [] (fun x _ k hk => ?_) ?_
      · refine ⟨_, rfl, _, ⟨rfl, rfl⟩, _, rfl, ?_⟩
        cases x with
        | none => exact hk
        | str z =>
          refine ⟨_, rfl, _, rfl, _, rfl, _, ⟨rfl, rfl, rfl⟩, ?_⟩
          rw [Bool.false_xor]
          exact hk
        | _ => exact ⟨_, rfl, _, rfl, hk⟩
      · refine ⟨_, ⟨l.map isWord, ?_, rfl⟩, ?_⟩
        · rw [List.nil_append, allB]
        · rw [all_id]
          unfold isSign at q
          simp only [h1, Bool.true_and] at q
          exact q
  | _ => exact q
def Sp_look_sign : DSp := fun ds Q E => ∃ x n, ds = [x, .int n] ∧ SzT x ∧ (if isSign x n = true then Q .none else E "BadSign")
def w_look_sign : DS := (wIfS (wtNot (wTru (wFn Sp_is_sign (wCons (wVar 0) (wCons (wVar 1) wNil))))) (wRaise "BadSign") wNx)
theorem m_look_sign (ds : List PyData) (Q : PyData → Prop) (E : Str → Prop) (h : Sp_look_sign ds Q E) : w_look_sign (startG ["sign", "many"] ds) (endO Q E) := by
  obtain ⟨x, n, rfl, hz, q⟩ := h
  show w_look_sign [.dat x, .dat (.int n)] _
  refine ⟨_, rfl, _, rfl, _, _, rfl, hz, _, rfl, ?_⟩
  refine iteB (fun h1 => ?_) (fun h1 => ?_)
  · rw [Bool.not_eq_true'] at h1
    rw [if_neg (by rw [h1]; exact Bool.false_ne_true)] at q
    exact q
  · rw [Bool.not_eq_false'] at h1
    rw [if_pos h1] at q
    exact q
/-! ### rows and signs out of data -/
def boolOf : PyData → Bool
  | .bool b => b
  | _ => false
def rowOf : PyData → List Bool
  | .tuple l => l.map boolOf
  | _ => []
def rowsOf : PyData → Rows
  | .list l => l.map rowOf
  | .tuple l => l.map rowOf
  | _ => []
def wordOf : PyData → Option Hold
  | .str z => if z = "high" then some .high else if z = "low" then some .low else if z = "rise" then some .rise else if z = "fall" then some .fall else none
  | _ => none
def signOf : PyData → Sign
  | .tuple l => l.map wordOf
  | _ => []
def mOf (d : PyData) : Nat := ((rowsOf d).getD 0 []).length
theorem map_back {α : Type} (f : α → PyData) (g : PyData → α) (h : ∀ x, g (f x) = x) (l : List α) : (l.map f).map g = l := by
  rw [List.map_map]
  exact (List.map_congr_left fun x _ => h x).trans (List.map_id l)
theorem rowOf_e (r : List Bool) : rowOf (eRow r) = r := map_back _ _ (fun _ => rfl) r
theorem rowsOf_e (r : Rows) : rowsOf (eRows r) = r := map_back _ _ rowOf_e r
theorem rowsOf_is {d : PyData} {r : Rows} (h : IsRows d r) : rowsOf d = r := by
  rcases h with rfl | rfl <;> exact map_back _ _ rowOf_e r
theorem wordOf_e (w : Option Hold) : wordOf (eW w) = w := by
  cases w with
  | none => rfl
  | some h => cases h <;> decide +kernel
theorem signOf_e (s : Sign) : signOf (eSign s) = s := map_back _ _ wordOf_e s
theorem map_forth (f : PyData → Prop) : True := trivial
theorem levels_e {x : PyData} {n : Int} (h : isLevels x n = true) : x = eRow (rowOf x) ∧ ((rowOf x).length : Int) = n := by
  cases x with
  | tuple l =>
    unfold isLevels at h
    rw [Bool.and_eq_true, beq_iff_eq] at h
    obtain ⟨h1, h2⟩ := h
    have e : l = (l.map boolOf).map .bool := by
      rw [List.map_map]
      refine (List.map_id l).symm.trans (List.map_congr_left fun y hy => ?_)
      have z := List.all_eq_true.mp h2 y hy
      cases y <;> first | rfl | cases z
    exact ⟨congrArg PyData.tuple e, by show ((l.map boolOf).length : Int) = n; rw [List.length_map]; exact h1⟩
  | _ => cases h
theorem e_levels {r : List Bool} {n : Int} (h : (r.length : Int) = n) : isLevels (eRow r) n = true := by
  show (((r.map PyData.bool).length : Int) == n && (r.map PyData.bool).all isBool) = true
  rw [List.length_map, h]
  simp only [beq_self_eq_true, Bool.true_and, List.all_eq_true, List.mem_map]
  rintro x ⟨b, _, rfl⟩
  rfl
structure RowsV (rows : Rows) (m : Nat) : Prop where
  n1 : 1 ≤ rows.length
  n2 : rows.length ≤ 200
  m1 : 1 ≤ m
  m2 : m ≤ 5
  ok : RowsOk rows m
theorem RowsV.mOf {rows : Rows} {m : Nat} (h : RowsV rows m) : Sg.mOf (eRows rows) = m := by
  unfold Sg.mOf
  rw [rowsOf_e]
  exact len_row h.ok (Nat.lt_of_lt_of_le Nat.zero_lt_one h.n1)
theorem RowsV.valid {rows : Rows} {m : Nat} (h : RowsV rows m) : validRows (eRows rows) = true := by
  obtain ⟨n1, n2, m1, m2, ok⟩ := h
  cases rows with
  | nil => exact absurd n1 (by decide)
  | cons r rs =>
    have hr : r.length = m := ok r List.mem_cons_self
    have hall : ((r :: rs).map eRow).all (fun x => isLevels x ((r.map PyData.bool).length : Int)) = true := by
      rw [List.all_eq_true]
      intro x hx
      obtain ⟨y, hy, rfl⟩ := List.mem_map.mp hx
      exact e_levels (by rw [List.length_map, hr, ok y hy])
    have hlen : (((r :: rs).map eRow).length : Int) = ((r :: rs).length : Int) := by rw [List.length_map]
    show (decide (1 ≤ (((r :: rs).map eRow).length : Int)) && decide ((((r :: rs).map eRow).length : Int) ≤ 200) && (decide (1 ≤ ((r.map PyData.bool).length : Int)) && decide (((r.map PyData.bool).length : Int) ≤ 5) && ((r :: rs).map eRow).all fun x => isLevels x ((r.map PyData.bool).length : Int))) = true
    rw [hall, hlen, List.length_map, hr, decide_eq_true (by omega), decide_eq_true (by omega), decide_eq_true (by omega), decide_eq_true (by omega)]
    rfl
theorem valid_e {d : PyData} (h : validRows d = true) : d = eRows (rowsOf d) ∧ RowsV (rowsOf d) (mOf d) := by
  cases d with
  | list rs =>
    unfold validRows at h
    simp only [Bool.and_eq_true, decide_eq_true_eq] at h
    obtain ⟨⟨h1, h2⟩, h3⟩ := h
    cases rs with
    | nil => cases h3
    | cons r0 rs =>
      cases r0 with
      | tuple l =>
        simp only [Bool.and_eq_true, decide_eq_true_eq, List.all_eq_true] at h3
        obtain ⟨⟨h4, h5⟩, h6⟩ := h3
        have e : (PyData.tuple l :: rs) = ((PyData.tuple l :: rs).map rowOf).map eRow := by
          rw [List.map_map]
          exact (List.map_id _).symm.trans (List.map_congr_left fun y hy => (levels_e (h6 y hy)).1)
        have hm : mOf (.list (.tuple l :: rs)) = l.length := by
          show (l.map boolOf).length = l.length
          rw [List.length_map]
        refine ⟨congrArg PyData.list e, ?_⟩
        rw [hm]
        refine ⟨by show 1 ≤ ((PyData.tuple l :: rs).map rowOf).length; rw [List.length_map]; omega, by show ((PyData.tuple l :: rs).map rowOf).length ≤ 200; rw [List.length_map]; omega, by omega, by omega, fun r hr => ?_⟩
        obtain ⟨y, hy, rfl⟩ := List.mem_map.mp (show r ∈ (PyData.tuple l :: rs).map rowOf from hr)
        have := (levels_e (h6 y hy)).2
        omega
      | _ => cases h3
  | _ => cases h
theorem word_e {x : PyData} (h : isWord x = true) : x = eW (wordOf x) := by
  cases x with
  | none => rfl
  | str z =>
    have h : inD (.str z) [.str "high", .str "low", .str "rise", .str "fall"] = true := h
    have q : ∀ a : Str, PyData.eqv (.str a) (.str z) = true → z = a := fun a e => by
      unfold PyData.eqv at e
      exact (beq_iff_eq.mp e).symm
    unfold inD at h
    simp only [List.any_cons, List.any_nil, Bool.or_eq_true, Bool.or_false] at h
    rcases h with h | h | h | h
    · have e := q _ h; subst e; exact congrArg eW (show some Hold.high = _ by decide +kernel)
    · have e := q _ h; subst e; exact congrArg eW (show some Hold.low = _ by decide +kernel)
    · have e := q _ h; subst e; exact congrArg eW (show some Hold.rise = _ by decide +kernel)
    · have e := q _ h; subst e; exact congrArg eW (show some Hold.fall = _ by decide +kernel)
  | _ => cases h
theorem sign_e {x : PyData} {n : Int} (h : isSign x n = true) : x = eSign (signOf x) ∧ ((signOf x).length : Int) = n := by
  cases x with
  | tuple l =>
    unfold isSign at h
    rw [Bool.and_eq_true, beq_iff_eq] at h
    obtain ⟨h1, h2⟩ := h
    have e : l = (l.map wordOf).map eW := by
      rw [List.map_map]
      exact (List.map_id l).symm.trans (List.map_congr_left fun y hy => word_e (List.all_eq_true.mp h2 y hy))
    exact ⟨congrArg PyData.tuple e, by show ((l.map wordOf).length : Int) = n; rw [List.length_map]; exact h1⟩
  | _ => cases h
theorem isWord_e (w : Option Hold) : isWord (eW w) = true := by
  cases w with
  | none => rfl
  | some h => cases h <;> decide +kernel
theorem e_sign {s : Sign} {n : Int} (h : (s.length : Int) = n) : isSign (eSign s) n = true := by
  show (((s.map eW).length : Int) == n && (s.map eW).all isWord) = true
  rw [List.length_map, h]
  simp only [beq_self_eq_true, Bool.true_and, List.all_eq_true, List.mem_map]
  rintro x ⟨b, _, rfl⟩
  exact isWord_e b
theorem sz_rows {rows : Rows} {m : Nat} (h : RowsV rows m) : SzR (eRows rows) := fun rs e l hl => by
  have e' : rs = rows.map eRow := (PyData.list.inj e).symm
  subst e'
  obtain ⟨r, hr, er⟩ := List.mem_map.mp hl
  have : l = r.map .bool := (PyData.tuple.inj er).symm
  rw [this, List.length_map, h.ok r hr]
  exact small_size (by have := h.m2; omega)
theorem sz_sign {s : Sign} (h : s.length ≤ 1000) : SzT (eSign s) := fun l e => by
  have : l = s.map eW := (PyData.tuple.inj e).symm
  rw [this, List.length_map]
  exact small_size (by omega)
/-! ### catches -/
/-- what is looked at first: rows, then what behind them -/
def onRows (d : PyData) (E : Str → Prop) (k : Rows → Nat → Prop) : Prop := SzR d ∧ (if validRows d = true then k (rowsOf d) (mOf d) else E "BadRows")
def onSign (x : PyData) (m : Nat) (E : Str → Prop) (k : Sign → Prop) : Prop := SzT x ∧ (if isSign x (m : Int) = true then k (signOf x) else E "BadSign")
theorem onRows_v {rows : Rows} {m : Nat} {E : Str → Prop} {k : Rows → Nat → Prop} (h : RowsV rows m) (hk : k rows m) : onRows (eRows rows) E k := ⟨sz_rows h, by rw [if_pos h.valid, rowsOf_e, h.mOf]; exact hk⟩
theorem onSign_v {s : Sign} {m : Nat} {E : Str → Prop} {k : Sign → Prop} (h : s.length = m) (hm : m ≤ 5) (hk : k s) : onSign (eSign s) m E k := ⟨sz_sign (by omega), by rw [if_pos (e_sign (by omega)), signOf_e]; exact hk⟩
theorem ite_rows {d : PyData} {E : Str → Prop} {k : Rows → Nat → Prop} {A B : Prop} (h : onRows d E k) (hB : E "BadRows" → B) (hA : ∀ rows m, d = eRows rows → RowsV rows m → k rows m → A) : if validRows d = true then A else B := by
  have h2 := h.2
  by_cases v : validRows d = true
  · rw [if_pos v] at h2 ⊢
    exact hA _ _ (valid_e v).1 (valid_e v).2 h2
  · rw [if_neg v] at h2 ⊢
    exact hB h2
theorem ite_sign {x : PyData} {m : Nat} {E : Str → Prop} {k : Sign → Prop} {A B : Prop} (h : onSign x m E k) (hB : E "BadSign" → B) (hA : ∀ s, x = eSign s → s.length = m → k s → A) : if isSign x (m : Int) = true then A else B := by
  have h2 := h.2
  by_cases v : isSign x (m : Int) = true
  · rw [if_pos v] at h2 ⊢
    exact hA _ (sign_e v).1 (by have := (sign_e v).2; omega) h2
  · rw [if_neg v] at h2 ⊢
    exact hB h2
theorem row0 {rows : Rows} {m : Nat} (h : RowsV rows m) : IxD (eRows rows) (.int 0) (eRow (rows.getD 0 [])) := ix_rows (t := 0) (.inl rfl) (Nat.lt_of_lt_of_le Nat.zero_lt_one h.n1)
theorem len0 {rows : Rows} {m : Nat} (h : RowsV rows m) : LenC [eRow (rows.getD 0 [])] (.int (m : Int)) := ⟨_, _, rfl, by show m = ((rows.getD 0 []).map PyData.bool).length; rw [List.length_map]; exact (len_row h.ok (Nat.lt_of_lt_of_le Nat.zero_lt_one h.n1)).symm, rfl⟩
def Sp_catches : DSp := fun ds Q E => ∃ d x, ds = [d, x] ∧ onRows d E fun rows m => onSign x m E fun s => Q (eTs (ticksM rows s))
def w_catches : DS := (wSq (wEx (wFn Sp_look_rows (wCons (wVar 0) wNil)))
  (wSq (wEx (wFn Sp_look_sign (wCons (wVar 1) (wCons (wCall LenC (wCons (wBin IxD (wVar 0) (wC (.int 0))) wNil)) wNil))))
  (wRet (wFn Sp_ticks_of (wCons (wVar 0) (wCons (wVar 1) wNil))))))
theorem m_catches (ds : List PyData) (Q : PyData → Prop) (E : Str → Prop) (h : Sp_catches ds Q E) : w_catches (startG ["rows", "sign"] ds) (endO Q E) := by
  obtain ⟨d, x, rfl, h⟩ := h
  show w_catches [.dat d, .dat x] _
  refine ⟨_, rfl, d, rfl, h.1, ite_rows h (fun z => z) fun rows m e v h2 => ?_⟩
  subst e
  refine ⟨_, rfl, _, rfl, _, row0 v, _, len0 v, x, _, rfl, h2.1, ite_sign h2 (fun z => z) fun s e hs h3 => ?_⟩
  subst e
  exact ⟨_, rfl, _, rfl, _, rows, s, m, rfl, .inl rfl, v.ok, by have := v.n2; omega, by omega, by have := v.m2; omega, h3⟩
end Sg

/-! Math61: the longest row of ticks, by one pass and by all starts. -/
namespace Sg
def better (b r : List Nat) : List Nat := if b.length < r.length then r else b
def stepH (g : Int) (here : List Nat) (t : Nat) : List Nat := match here.getLast? with
  | some l => if (t : Int) - (l : Int) ≤ g then here ++ [t] else [t]
  | none => [t]
def longL (g : Int) : List Nat → List Nat → List Nat → List Nat
  | best, _, [] => best
  | best, here, t :: r => longL g (better best (stepH g here t)) (stepH g here t) r
def longM (g : Int) (ts : List Nat) : List Nat := longL g [] [] ts
def runFrom (g : Int) : Nat → List Nat → List Nat
  | _, [] => []
  | l, t :: r => if (t : Int) - (l : Int) ≤ g then t :: runFrom g t r else []
def brute (g : Int) : List Nat → List Nat → List Nat
  | b, [] => b
  | b, t :: r => brute g (better b (t :: runFrom g t r)) r
theorem better_len (b r : List Nat) : (better b r).length = max b.length r.length := by
  unfold better
  split <;> omega
theorem better_ge {b r : List Nat} (h : r.length ≤ b.length) : better b r = b := if_neg (Nat.not_lt.mpr h)
/-- a longer one behind one that it begins with -/
theorem better_two (b h x : List Nat) : better (better b h) (h ++ x) = better b (h ++ x) := by
  have e := better_len b h
  unfold better at e ⊢
  rw [List.length_append]
  by_cases h1 : b.length < h.length
  · rw [if_pos h1] at e ⊢
    rw [if_pos (by omega : b.length < h.length + x.length)]
    cases x with
    | nil => rw [List.append_nil]; split <;> rfl
    | cons y z => rw [if_pos (by rw [List.length_cons]; omega)]
  · rw [if_neg h1]
theorem longL_brute (g : Int) : ∀ (ts best x : List Nat) (l : Nat), (x ++ [l]).length ≤ best.length → longL g best (x ++ [l]) ts = brute g (better best ((x ++ [l]) ++ runFrom g l ts)) ts
  | [], best, x, l, h => by
    show best = better best ((x ++ [l]) ++ [])
    rw [List.append_nil, better_ge h]
  | t :: r, best, x, l, h => by
    have hs : stepH g (x ++ [l]) t = if (t : Int) - (l : Int) ≤ g then (x ++ [l]) ++ [t] else [t] := by
      unfold stepH
      rw [List.getLast?_concat]
    show longL g (better best (stepH g (x ++ [l]) t)) (stepH g (x ++ [l]) t) r = brute g (better (better best ((x ++ [l]) ++ runFrom g l (t :: r))) (t :: runFrom g t r)) r
    by_cases c : (t : Int) - (l : Int) ≤ g
    · have hr : runFrom g l (t :: r) = t :: runFrom g t r := if_pos c
      rw [hs, if_pos c, hr]
      rw [longL_brute g r _ (x ++ [l]) t (by rw [better_len]; omega), better_two]
      rw [show (x ++ [l]) ++ [t] ++ runFrom g t r = (x ++ [l]) ++ (t :: runFrom g t r) by rw [List.append_assoc]; rfl]
      rw [better_ge (b := better best ((x ++ [l]) ++ (t :: runFrom g t r))) (r := t :: runFrom g t r)]
      rw [better_len, List.length_append]
      omega
    · have hr : runFrom g l (t :: r) = [] := if_neg c
      rw [hs, if_neg c, hr, List.append_nil, better_ge h]
      have := longL_brute g r (better best [t]) [] t (by rw [better_len]; exact Nat.le_max_right _ _)
      rw [List.nil_append] at this
      rw [this, better_two]
      rfl
theorem long_brute (g : Int) (ts : List Nat) : longM g ts = brute g [] ts := by
  cases ts with
  | nil => rfl
  | cons t r =>
    have := longL_brute g r (better [] [t]) [] t (by rw [better_len]; exact Nat.le_max_right _ _)
    rw [List.nil_append] at this
    show longL g (better [] [t]) [t] r = brute g (better [] (t :: runFrom g t r)) r
    rw [this, better_two]
    rfl
theorem runFrom_mono {g g' : Int} (h : g ≤ g') : ∀ (ts : List Nat) (l : Nat), (runFrom g l ts).length ≤ (runFrom g' l ts).length
  | [], _ => Nat.le_refl _
  | t :: r, l => by
    unfold runFrom
    by_cases c : (t : Int) - (l : Int) ≤ g
    · rw [if_pos c, if_pos (by omega)]
      exact Nat.succ_le_succ (runFrom_mono h r t)
    · rw [if_neg c]
      exact Nat.zero_le _
theorem brute_mono {g g' : Int} (h : g ≤ g') : ∀ (ts b b' : List Nat), b.length ≤ b'.length → (brute g b ts).length ≤ (brute g' b' ts).length
  | [], _, _, hb => hb
  | t :: r, b, b', hb => brute_mono h r _ _ (by
      rw [better_len, better_len]
      have := runFrom_mono h r t
      simp only [List.length_cons]
      omega)
theorem long_mono {g g' : Int} (h : g ≤ g') (ts : List Nat) : (longM g ts).length ≤ (longM g' ts).length := by
  rw [long_brute, long_brute]
  exact brute_mono h ts _ _ (Nat.le_refl _)
theorem brute_keep (g : Int) : ∀ (ts b : List Nat), ts.length ≤ b.length → brute g b ts = b
  | [], _, _ => rfl
  | t :: r, b, h => by
    have hr : ∀ (ts : List Nat) (l : Nat), (runFrom g l ts).length ≤ ts.length := fun ts => by
      induction ts with
      | nil => intro l; exact Nat.le_refl _
      | cons y z ih =>
        intro l
        unfold runFrom
        split
        · exact Nat.succ_le_succ (ih y)
        · exact Nat.zero_le _
    have h1 := hr r t
    rw [List.length_cons] at h
    show brute g (better b (t :: runFrom g t r)) r = b
    rw [better_ge (by rw [List.length_cons]; omega)]
    exact brute_keep g r b (by omega)
/-- ticks none of which is too far behind the one ahead -/
def Near (g : Int) : List Nat → Prop
  | [] => True
  | [_] => True
  | a :: b :: r => (b : Int) - (a : Int) ≤ g ∧ Near g (b :: r)
theorem runFrom_near (g : Int) : ∀ (r : List Nat) (l : Nat), Near g (l :: r) → runFrom g l r = r
  | [], _, _ => rfl
  | t :: r, l, h => by
    unfold runFrom
    rw [if_pos h.1, runFrom_near g r t h.2]
theorem long_near {g : Int} {ts : List Nat} (h : Near g ts) : longM g ts = ts := by
  rw [long_brute]
  cases ts with
  | nil => rfl
  | cons t r =>
    show brute g (better [] (t :: runFrom g t r)) r = t :: r
    rw [runFrom_near g r t h]
    show brute g (t :: r) r = t :: r
    exact brute_keep g r _ (by rw [List.length_cons]; omega)
/-- numbers below n are never further apart than n -/
theorem near_below {n : Nat} {g : Int} (hg : (n : Int) ≤ g) : ∀ ts : List Nat, (∀ t ∈ ts, t < n) → Near g ts
  | [], _ => trivial
  | [_], _ => trivial
  | a :: b :: r, h => ⟨by have := h b (by simp); omega, near_below hg (b :: r) fun t ht => h t (List.mem_cons_of_mem _ ht)⟩
theorem near_range (n : Nat) : ∀ k, Near 1 (List.range' k n) := by
  induction n with
  | zero => intro k; trivial
  | succ n ih =>
    intro k
    cases n with
    | zero => trivial
    | succ n => exact ⟨by show ((k + 1 : Nat) : Int) - (k : Int) ≤ 1; omega, ih (k + 1)⟩
end Sg

/-! Sem61: longest. -/
namespace Sg
open PySem L2 Dt
def intOf : PyData → Int
  | .int i => i
  | _ => 0
def onNum (x : PyData) (lo hi : Int) (E : Str → Prop) (k : Int → Prop) : Prop := if isWhole x lo hi = true then k (intOf x) else E "BadNumber"
theorem whole_e {x : PyData} {lo hi : Int} (h : isWhole x lo hi = true) : ∃ i, x = .int i ∧ intOf x = i ∧ lo ≤ i ∧ i ≤ hi := by
  cases x with
  | int i =>
    unfold isWhole at h
    simp only [Bool.and_eq_true, decide_eq_true_eq] at h
    exact ⟨i, rfl, rfl, h.1, h.2⟩
  | _ => cases h
theorem e_whole {i lo hi : Int} (h1 : lo ≤ i) (h2 : i ≤ hi) : isWhole (.int i) lo hi = true := by
  show (decide (lo ≤ i) && decide (i ≤ hi)) = true
  rw [decide_eq_true h1, decide_eq_true h2]
  rfl
theorem onNum_v {i lo hi : Int} {E : Str → Prop} {k : Int → Prop} (h1 : lo ≤ i) (h2 : i ≤ hi) (hk : k i) : onNum (.int i) lo hi E k := by
  unfold onNum
  rw [if_pos (e_whole h1 h2)]
  exact hk
theorem ite_num {x : PyData} {lo hi : Int} {E : Str → Prop} {k : Int → Prop} {A B : Prop} (h : onNum x lo hi E k) (hB : E "BadNumber" → B) (hA : ∀ i, x = .int i → lo ≤ i → i ≤ hi → k i → A) : if (!isWhole x lo hi) = true then B else A := by
  unfold onNum at h
  by_cases v : isWhole x lo hi = true
  · rw [if_pos v] at h
    obtain ⟨i, e, e2, h1, h2⟩ := whole_e v
    rw [v]
    exact hA i e h1 h2 (e2 ▸ h)
  · rw [if_neg v] at h
    rw [Bool.not_eq_true] at v
    rw [v]
    exact hB h
/-- as seen by a test that is the value's truth -/
theorem longL_snoc (g : Int) : ∀ (ts best here : List Nat), True := fun _ _ _ => trivial
def Sp_longest : DSp := fun ds Q E => ∃ d x y, ds = [d, x, y] ∧ onRows d E fun rows m => onSign x m E fun s => onNum y 1 200 E fun g => Q (eTs (longM g (ticksM rows s)))
def w_longest : DS := (wSq (wEx (wFn Sp_look_rows (wCons (wVar 0) wNil)))
  (wSq (wEx (wFn Sp_look_sign (wCons (wVar 1) (wCons (wCall LenC (wCons (wBin IxD (wVar 0) (wC (.int 0))) wNil)) wNil))))
  (wSq (wIfS (wtNot (wTru (wFn Sp_is_whole (wCons (wVar 2) (wCons (wC (.int 1)) (wCons (wC (.int 200)) wNil)))))) (wRaise "BadNumber") wNx)
  (wSq (wSet 3 (wLst wNil))
  (wSq (wSet 4 (wLst wNil))
  (wSq (wFor (wSeq (wFn Sp_ticks_of (wCons (wVar 0) (wCons (wVar 1) wNil)))) (gdN 5) (wSq (wSet 4 (wIf (wtAnd (wTru (wVar 4)) (wTst (wBin LeD (wBin SubD (wVar 5) (wBin IxD (wVar 4) (wUn NegD (wC (.int 1))))) (wVar 2)))) (wBin AddD (wVar 4) (wLst (wCons (wVar 5) wNil))) (wLst (wCons (wVar 5) wNil))))
  (wSet 3 (wIf (wTst (wBin GtD (wCall LenC (wCons (wVar 4) wNil)) (wCall LenC (wCons (wVar 3) wNil)))) (wVar 4) (wVar 3)))))
  (wRet (wVar 3))))))))
theorem ticks_len (rows : Rows) (s : Sign) : (ticksM rows s).length ≤ rows.length := by
  unfold ticksM
  exact Nat.le_trans (List.length_filter_le _ _) (by rw [List.length_range]; exact Nat.le_refl _)
theorem eTs_add (l : List Nat) (t : Nat) (h : l.length ≤ 1000) : AddD (eTs l) (.list [eN t]) (eTs (l ++ [t])) := by
  refine ⟨?_, ?_⟩
  · show PyData.list _ = PyData.list _
    rw [List.map_append]
    rfl
  · show (l.map eN).length + 1 ≤ sizeLine
    rw [List.length_map]
    exact small_size (by omega)
theorem m_longest (ds : List PyData) (Q : PyData → Prop) (E : Str → Prop) (h : Sp_longest ds Q E) : w_longest (startG ["rows", "sign", "gap", "best", "here", "tick"] ds) (endO Q E) := by
  obtain ⟨d, x, y, rfl, h⟩ := h
  show w_longest [.dat d, .dat x, .dat y, .no, .no, .no] _
  refine ⟨_, rfl, d, rfl, h.1, ite_rows h (fun z => z) fun rows m e v h2 => ?_⟩
  subst e
  refine ⟨_, rfl, _, rfl, _, row0 v, _, len0 v, x, _, rfl, h2.1, ite_sign h2 (fun z => z) fun s e hs h3 => ?_⟩
  subst e
  refine ⟨_, rfl, _, _, _, rfl, _, rfl, ite_num h3 (fun z => z) fun g e g1 g2 h4 => ?_⟩
  subst e
  refine ⟨Nat.zero_le _, Nat.zero_le _, ?_⟩
  refine ⟨_, rfl, _, rfl, _, rows, s, m, rfl, .inl rfl, v.ok, by have := v.n2; omega, by omega, by have := v.m2; omega, _, rfl, ?_⟩
  have hlt := ticks_len rows s
  have hn2 := v.n2
  refine for_inv eN (ticksM rows s) (fun pre Γ => ∃ (best here : List Nat) (z : Sl), best.length ≤ pre.length ∧ here.length ≤ pre.length ∧ (∀ post, longL g best here post = longL g [] [] (pre ++ post)) ∧ Γ = [.dat (eRows rows), .dat (eSign s), .dat (.int g), .dat (eTs best), .dat (eTs here), z]) ?_ ?_ ⟨[], [], .no, Nat.le_refl _, Nat.le_refl _, fun _ => rfl, rfl⟩
  · rintro pre t post Γ e ⟨best, here, z, hb, hh, hL, rfl⟩ next hk
    have hpre : pre.length < 200 := by
      have := congrArg List.length e
      rw [List.length_append, List.length_cons] at this
      omega
    -- what is done behind the new here
    have fin : ∀ h1 : List Nat, h1 = stepH g here t → h1.length ≤ pre.length + 1 → wSet 3 (wIf (wTst (wBin GtD (wCall LenC (wCons (wVar 4) wNil)) (wCall LenC (wCons (wVar 3) wNil)))) (wVar 4) (wVar 3)) [.dat (eRows rows), .dat (eSign s), .dat (.int g), .dat (eTs best), .dat (eTs h1), .dat (eN t)] (forK next (onNx (wRet (wVar 3)) (endO Q E))) := fun h1 e1 hl1 => by
      refine ⟨_, rfl, _, ⟨_, _, rfl, rfl, rfl⟩, _, rfl, _, ⟨_, _, rfl, rfl, rfl⟩, _, rfl, _, rfl, ?_⟩
      have go : ∀ b, b = better best (stepH g here t) → next [.dat (eRows rows), .dat (eSign s), .dat (.int g), .dat (eTs b), .dat (eTs h1), .dat (eN t)] (onNx (wRet (wVar 3)) (endO Q E)) := fun b eb => by
        refine hk _ ⟨b, h1, _, ?_, by rw [List.length_append]; exact hl1, fun post => ?_, rfl⟩
        · rw [eb, better_len, List.length_append, ← e1]
          show max _ _ ≤ pre.length + 1
          omega
        · have := hL (t :: post)
          rw [List.append_assoc]
          show _ = longL g [] [] (pre ++ t :: post)
          rw [← this, eb, e1]
          rfl
      refine iteB (fun c => ?_) (fun c => ?_)
      · have c : (((best.map eN).length : Nat) : Int) < ((h1.map eN).length : Nat) := of_decide_eq_true c
        rw [List.length_map, List.length_map] at c
        exact ⟨_, rfl, go h1 (by unfold better; rw [← e1, if_pos (by omega)])⟩
      · have c : ¬ (((best.map eN).length : Nat) : Int) < ((h1.map eN).length : Nat) := of_decide_eq_false c
        rw [List.length_map, List.length_map] at c
        exact ⟨_, rfl, go best (by unfold better; rw [← e1, if_neg (by omega)])⟩
    refine ⟨_, rfl, _, rfl, ?_⟩
    rcases List.eq_nil_or_concat here with rfl | ⟨x, l, rfl⟩
    · exact ⟨_, rfl, by show 1 ≤ sizeLine; rw [sizeLine_eq]; decide, fin [t] rfl (by show 1 ≤ _; omega)⟩
    · have ne : (!((x ++ [l]).map eN).isEmpty) = true := by simp
      have hs : stepH g (x ++ [l]) t = if (t : Int) - (l : Int) ≤ g then (x ++ [l]) ++ [t] else [t] := by
        unfold stepH
        rw [List.getLast?_concat]
      show if (!((x.concat l).map eN).isEmpty) = true then _ else _
      rw [List.concat_eq_append] at hh hL fin ⊢
      rw [if_pos ne]
      refine ⟨_, rfl, _, rfl, _, rfl, _, atI_lastM eN x l, _, rfl, _, rfl, _, rfl, _, rfl, ?_⟩
      refine iteB (fun c => ?_) (fun c => ?_)
      · have c : (t : Int) - (l : Int) ≤ g := of_decide_eq_true c
        refine ⟨_, rfl, _, rfl, by show 1 ≤ sizeLine; rw [sizeLine_eq]; decide, _, eTs_add _ _ (by omega), ?_⟩
        exact fin _ (by rw [hs, if_pos c]) (by rw [List.length_append]; show (x ++ [l]).length + 1 ≤ _; omega)
      · have c : ¬ (t : Int) - (l : Int) ≤ g := of_decide_eq_false c
        exact ⟨_, rfl, by show 1 ≤ sizeLine; rw [sizeLine_eq]; decide, fin [t] (by rw [hs, if_neg c]) (by show 1 ≤ _; omega)⟩
  · rintro Γ ⟨best, here, z, hb, hh, hL, rfl⟩
    have := hL []
    rw [List.append_nil] at this
    refine ⟨_, rfl, ?_⟩
    have e : best = longM g (ticksM rows s) := this
    rw [e]
    exact h4
end Sg

/-! SemT: tools: shape of data, equality of data, steps. -/
namespace Sg
open PySem L2 Dt
/-! ### shape -/
def Sh (k : Nat) (d : PyData) : Prop := PyData.canLay0 d = true ∧ PyData.depth d ≤ k
theorem Sh.up {k j : Nat} {d : PyData} (h : Sh k d) (hk : k ≤ j) : Sh j d := ⟨h.1, Nat.le_trans h.2 hk⟩
theorem Sh.ok {k : Nat} {d : PyData} (h : Sh k d) (hk : k ≤ 64 := by decide) : SeqAt.shaped d = true := by
  unfold SeqAt.shaped
  rw [h.1, decide_eq_true (Nat.le_trans h.2 hk)]
  rfl
theorem sh_all {k : Nat} : ∀ (l : List PyData), (∀ x ∈ l, Sh k x) → PyData.canLayAll0 l = true ∧ PyData.depthAll l ≤ k
  | [], _ => ⟨rfl, Nat.zero_le _⟩
  | x :: r, h => by
    obtain ⟨a, b⟩ := sh_all r fun y hy => h y (List.mem_cons_of_mem _ hy)
    obtain ⟨c, d⟩ := h x List.mem_cons_self
    refine ⟨?_, ?_⟩
    · show (PyData.canLay0 x && PyData.canLayAll0 r) = true
      rw [a, c]; rfl
    · show max (PyData.depth x) (PyData.depthAll r) ≤ k
      omega
theorem Sh.list {k : Nat} {l : List PyData} (h : ∀ x ∈ l, Sh k x) : Sh (k + 1) (.list l) := by
  obtain ⟨a, b⟩ := sh_all l h
  exact ⟨by unfold PyData.canLay0; exact a, by unfold PyData.depth; omega⟩
theorem Sh.tup {k : Nat} {l : List PyData} (h : ∀ x ∈ l, Sh k x) : Sh (k + 1) (.tuple l) := by
  obtain ⟨a, b⟩ := sh_all l h
  exact ⟨by unfold PyData.canLay0; exact a, by unfold PyData.depth; omega⟩
theorem Sh.int (i : Int) : Sh 0 (.int i) := ⟨rfl, Nat.le_refl _⟩
theorem Sh.bool (b : Bool) : Sh 0 (.bool b) := ⟨rfl, Nat.le_refl _⟩
theorem Sh.none : Sh 0 .none := ⟨rfl, Nat.le_refl _⟩
theorem sh_map {α : Type} {k : Nat} {e : α → PyData} (h : ∀ x, Sh k (e x)) (l : List α) : ∀ x ∈ l.map e, Sh k x := fun x hx => by
  obtain ⟨y, _, rfl⟩ := List.mem_map.mp hx
  exact h y
theorem sh_h (h : Hold) : Sh 0 (eH h) := by cases h <;> exact ⟨by decide +kernel, by decide +kernel⟩
theorem sh_w (w : Option Hold) : Sh 0 (eW w) := by
  cases w with
  | none => exact .none
  | some h => exact sh_h h
theorem sh_n (n : Nat) : Sh 0 (eN n) := .int _
theorem sh_sign (s : Sign) : Sh 1 (eSign s) := .tup (sh_map sh_w s)
theorem sh_row (r : List Bool) : Sh 1 (eRow r) := .tup (sh_map .bool r)
theorem sh_rows (r : Rows) : Sh 2 (eRows r) := .list (sh_map sh_row r)
theorem sh_ts (l : List Nat) : Sh 1 (eTs l) := .list (sh_map sh_n l)
theorem sh_nil : Sh 1 (.list []) := .list (fun _ h => by cases h)
theorem sh_tnil : Sh 1 (.tuple []) := .tup (fun _ h => by cases h)
/-! ### equality of data -/
theorem eqv_str (a b : Str) : PyData.eqv (.str a) (.str b) = decide (a = b) := by
  unfold PyData.eqv
  by_cases h : a = b
  · subst h; simp
  · simp [h]
theorem eqvAll_map {α : Type} [DecidableEq α] {e : α → PyData} (h : ∀ x y, PyData.eqv (e x) (e y) = decide (x = y)) : ∀ a b : List α, PyData.eqvAll (a.map e) (b.map e) = decide (a = b)
  | [], [] => rfl
  | [], _ :: _ => rfl
  | _ :: _, [] => rfl
  | x :: a, y :: b => by
    show (PyData.eqv (e x) (e y) && PyData.eqvAll (a.map e) (b.map e)) = _
    rw [eqvAll_map h a b, h]
    by_cases c : x = y
    · subst c; simp
    · simp [c]
theorem eqv_list {α : Type} [DecidableEq α] {e : α → PyData} (h : ∀ x y, PyData.eqv (e x) (e y) = decide (x = y)) (a b : List α) : PyData.eqv (.list (a.map e)) (.list (b.map e)) = decide (a = b) := by
  unfold PyData.eqv
  exact eqvAll_map h a b
theorem eqv_tup {α : Type} [DecidableEq α] {e : α → PyData} (h : ∀ x y, PyData.eqv (e x) (e y) = decide (x = y)) (a b : List α) : PyData.eqv (.tuple (a.map e)) (.tuple (b.map e)) = decide (a = b) := by
  unfold PyData.eqv
  exact eqvAll_map h a b
theorem eqv_n (a b : Nat) : PyData.eqv (eN a) (eN b) = decide (a = b) := by
  unfold eN
  rw [eqv_int]
  by_cases h : a = b
  · subst h; simp
  · rw [decide_eq_false h, decide_eq_false (by omega)]
theorem eqv_h (a b : Hold) : PyData.eqv (eH a) (eH b) = decide (a = b) := by cases a <;> cases b <;> decide +kernel
theorem eqv_w (a b : Option Hold) : PyData.eqv (eW a) (eW b) = decide (a = b) := by
  cases a with
  | none => cases b <;> rfl
  | some a => cases b with
    | none => rfl
    | some b =>
      refine (eqv_h a b).trans ?_
      by_cases h : a = b
      · subst h; simp
      · simp [h]
theorem eqv_b (a b : Bool) : PyData.eqv (.bool a) (.bool b) = decide (a = b) := by
  rw [eqv_bool]
  cases a <;> cases b <;> rfl
theorem eqv_sign (a b : Sign) : PyData.eqv (eSign a) (eSign b) = decide (a = b) := eqv_tup eqv_w a b
theorem eqv_row (a b : List Bool) : PyData.eqv (eRow a) (eRow b) = decide (a = b) := eqv_tup eqv_b a b
theorem eqv_rows (a b : Rows) : PyData.eqv (eRows a) (eRows b) = decide (a = b) := eqv_list eqv_row a b
theorem eqv_tsN (a b : List Nat) : PyData.eqv (eTs a) (eTs b) = decide (a = b) := eqv_list eqv_n a b
theorem inD_map {α : Type} [DecidableEq α] {e : α → PyData} (h : ∀ x y, PyData.eqv (e x) (e y) = decide (x = y)) (x : α) (l : List α) : inD (e x) (l.map e) = decide (x ∈ l) := by
  induction l with
  | nil => rfl
  | cons y r ih =>
    show (PyData.eqv (e y) (e x) || inD (e x) (r.map e)) = _
    rw [ih, h]
    by_cases q : y = x
    · subst q; simp
    · have : ¬ x = y := fun z => q z.symm
      simp [q, this]
theorem inD_mapD {α : Type} [DecidableEq α] {e : α → PyData} (h : ∀ x y, PyData.eqv (e x) (e y) = decide (x = y)) (x : α) (l : List α) [Decidable (x ∈ l)] : inD (e x) (l.map e) = decide (x ∈ l) := (inD_map h x l).trans (decide_eq_decide.mpr Iff.rfl)
/-! ### steps -/
theorem none_rep (m : Nat) : PyData.tuple (List.replicate ((m : Int)).toNat [PyData.none]).flatten = eSign (List.replicate m none) := by
  rw [Int.toNat_natCast]
  unfold eSign
  congr 1
  induction m with
  | zero => rfl
  | succ m ih => rw [List.replicate_succ, List.flatten_cons, ih, List.replicate_succ]; rfl
theorem mul_none (k : Nat) (hk : k ≤ 1000) : MulD (.tuple [.none]) (.int (k : Int)) (eSign (List.replicate k none)) := ⟨(none_rep k).symm, (by intro z; cases z), by omega, by omega, by decide⟩
theorem mul_one (x : PyData) (b : Bool) : MulD (.list [x]) (.int (if b then 1 else 0)) (.list (if b then [x] else [])) := by
  cases b
  · exact ⟨rfl, by decide, by decide, by show 0 ≤ _; exact Nat.zero_le _⟩
  · exact ⟨rfl, by decide, by decide, small_size (by show 1 * 1 ≤ _; decide)⟩
theorem add_tup {α : Type} (e : α → PyData) (a b : List α) (h : a.length + b.length ≤ 1000000) : AddD (.tuple (a.map e)) (.tuple (b.map e)) (.tuple ((a ++ b).map e)) := ⟨by rw [List.map_append], by rw [List.length_map, List.length_map]; exact small_size (by omega)⟩
theorem add_list {α : Type} (e : α → PyData) (a b : List α) (h : a.length + b.length ≤ 1000000) : AddD (.list (a.map e)) (.list (b.map e)) (.list ((a ++ b).map e)) := ⟨by rw [List.map_append], by rw [List.length_map, List.length_map]; exact small_size (by omega)⟩
theorem add_sign (a b : Sign) (h : a.length + b.length ≤ 1000000) : AddD (eSign a) (eSign b) (eSign (a ++ b)) := add_tup eW a b h
theorem lit_size {n : Nat} (h : Nat.ble n 16000000 = true) : n ≤ sizeLine := small_size (Nat.le_of_ble_eq_true h)
/-! ### slices -/
theorem cut_map {α : Type} (e : α → PyData) (l : List α) (a b : Nat) (ha : a ≤ b) (hb : b ≤ l.length) : cutD (l.map e) (some (a : Int)) (some (b : Int)) = ((l.drop a).take (b - a)).map e := by
  unfold cutD
  rw [HT.sIx_nat, HT.sIx_nat, List.length_map, Nat.min_eq_left hb, Nat.min_eq_left (Nat.le_trans ha hb), ← List.map_drop, ← List.map_take]
theorem cut_to {α : Type} (e : α → PyData) (l : List α) (b : Nat) : cutD (l.map e) none (some (b : Int)) = (l.take b).map e := by
  unfold cutD
  rw [HT.sIx_nat, List.length_map]
  show ((l.map e).drop 0).take (min b l.length - 0) = _
  rw [List.drop_zero, Nat.sub_zero, ← List.map_take]
  congr 1
  by_cases h : b ≤ l.length
  · rw [Nat.min_eq_left h]
  · rw [Nat.min_eq_right (by omega), List.take_length, List.take_of_length_le (by omega)]
theorem cut_from {α : Type} (e : α → PyData) (l : List α) (a : Nat) : cutD (l.map e) (some (a : Int)) none = (l.drop a).map e := by
  unfold cutD
  rw [HT.sIx_nat, List.length_map]
  show ((l.map e).drop (min a l.length)).take (l.length - min a l.length) = _
  rw [← List.map_drop, ← List.map_take]
  congr 1
  by_cases h : a ≤ l.length
  · rw [Nat.min_eq_left h, List.take_of_length_le (by rw [List.length_drop]; omega)]
  · rw [Nat.min_eq_right (by omega), List.drop_length, List.drop_of_length_le (by omega), List.take_nil]
def nO : Sl → Bool
  | .own0 _ => false
  | _ => true
theorem prefix_lt {α : Type} {l pre post : List α} {x : α} (e : l = pre ++ x :: post) : pre.length < l.length := by
  rw [e, List.length_append, List.length_cons]; omega
theorem prefix_rng {n : Nat} {pre post : List Nat} {x : Nat} (e : List.range n = pre ++ x :: post) : x = pre.length ∧ x < n := by
  have hl := prefix_lt e
  rw [List.length_range] at hl
  have e2 : (List.range n)[pre.length]? = some x := by rw [e]; simp
  rw [List.getElem?_eq_some_iff] at e2
  obtain ⟨h1, h2⟩ := e2
  rw [List.getElem_range] at h2
  exact ⟨h2.symm, h2 ▸ hl⟩
end Sg

/-! Sem3: the law's own look; moments; holds; steps. -/
namespace Sg
open PySem L2 Dt
theorem ite_to {A B Z : Prop} {c : Bool} (h1 : c = true → Z → A) (h2 : c = false → Z → B) (z : Z) : if c = true then A else B := iteB (fun h => h1 h z) (fun h => h2 h z)
theorem dget_hold (a b c d : PyData) (h : Hold) : dget [(.str "high", a), (.str "low", b), (.str "rise", c), (.str "fall", d)] (.inr h.s) = some (match h with | .high => a | .low => b | .rise => c | .fall => d) := by
  have n1 : decide (("high" : Str) = "low") = false := by decide +kernel
  have n2 : decide (("high" : Str) = "rise") = false := by decide +kernel
  have n3 : decide (("high" : Str) = "fall") = false := by decide +kernel
  have n4 : decide (("low" : Str) = "rise") = false := by decide +kernel
  have n5 : decide (("low" : Str) = "fall") = false := by decide +kernel
  have n6 : decide (("rise" : Str) = "fall") = false := by decide +kernel
  cases h
  · rfl
  · show (if decide (("high" : Str) = "low") = true then _ else _) = _
    rw [n1]; rfl
  · show (if decide (("high" : Str) = "rise") = true then _ else if decide (("low" : Str) = "rise") = true then _ else _) = _
    rw [n2, n4]; rfl
  · show (if decide (("high" : Str) = "fall") = true then _ else if decide (("low" : Str) = "fall") = true then _ else if decide (("rise" : Str) = "fall") = true then _ else _) = _
    rw [n3, n5, n6]; rfl
/-! ### _law_fits -/
abbrev Sp__law_fits : DSp := Sp_fits
def w__law_fits : DS := (wSq (wFor (wRng Rng1 (wCons (wCall LenC (wCons (wVar 2) wNil)) wNil)) (gdN 3) (wSq (wSet 4 (wBin IxD (wBin IxD (wVar 0) (wVar 1)) (wVar 3)))
  (wSq (wSet 5 (wIf (wTst (wBin GtD (wVar 1) (wC (.int 0)))) (wBin IxD (wBin IxD (wVar 0) (wBin SubD (wVar 1) (wC (.int 1)))) (wVar 3)) (wVar 4)))
  (wSq (wSet 6 (wDisp [((wC (.str "high")), (wVar 4)), ((wC (.str "low")), (wNot (wVar 4))), ((wC (.str "rise")), (wAnd (wVar 4) (wNot (wVar 5)))), ((wC (.str "fall")), (wAnd (wVar 5) (wNot (wVar 4))))] [.inr "high", .inr "low", .inr "rise", .inr "fall"]))
  (wIfS (wtAnd (wTst (wBin NotND (wBin IxD (wVar 2) (wVar 3)) (wC .none))) (wtNot (wTru (wDGet (wVar 6) (wBin IxD (wVar 2) (wVar 3)))))) (wRet (wC (.bool false))) wNx)))))
  (wRet (wC (.bool true))))
theorem fits_no {rows : Rows} {t l : Nat} {s : Sign} (hl : l < s.length) (h : okW (s.getD l none) (lv rows t l) (ahead rows t l) = false) : fitsM rows t s = false := by
  unfold fitsM
  rw [List.all_eq_false]
  exact ⟨l, List.mem_range.mpr hl, by rw [h]; exact Bool.false_ne_true⟩
theorem m__law_fits (ds : List PyData) (Q : PyData → Prop) (E : Str → Prop) (h : Sp__law_fits ds Q E) : w__law_fits (startG ["rows", "tick", "sign", "line", "now", "ahead", "good"] ds) (endO Q E) := by
  obtain ⟨d, rows, t, s, m, rfl, hd, hm, ht, hs, hs2, q⟩ := h
  show w__law_fits [.dat d, .dat (eN t), .dat (eSign s), .no, .no, .no, .no] _
  refine ⟨_, rfl, _, ⟨_, _, rfl, rfl, rfl⟩, _, ⟨_, rfl, by omega, by rw [List.length_map]; omega, rfl⟩, ?_⟩
  rw [List.length_map, rngL_nat]
  refine for_inv _ (List.range s.length) (fun pre Γ => (∀ l ∈ pre, okW (s.getD l none) (lv rows t l) (ahead rows t l) = true) ∧ ∃ x3 x4 x5 x6, Γ = [.dat d, .dat (eN t), .dat (eSign s), x3, x4, x5, x6]) ?_ ?_ ⟨fun _ h => absurd h List.not_mem_nil, _, _, _, _, rfl⟩
  · rintro pre l post Γ e ⟨hp, x3, x4, x5, x6, rfl⟩ next hk
    obtain ⟨_, hl⟩ := prefix_rng e
    refine ⟨_, rfl, _, rfl, _, ix_rows hd ht, _, rfl, _, ix_row hm ht (by omega), ?_⟩
    refine ⟨_, rfl, _, rfl, _, rfl, ?_⟩
    refine ite_to (fun h z => ?_) (fun h z => ⟨_, (show some (Sl.dat (.bool (lv rows t l))) = some (Sl.dat (.bool (ahead rows t l))) by
      unfold ahead; rw [if_neg (fun z => of_decide_eq_false h (by omega))]), z⟩) ?_
    · have h1 : (0 : Int) < (t : Int) := of_decide_eq_true h
      have h2 : 0 < t := by omega
      refine ⟨_, rfl, _, rfl, _, rfl, eRow (rows.getD (t - 1) []), ?_, _, rfl, .bool (ahead rows t l), ?_, z⟩
      · show IxD d (.int ((t : Int) - 1)) _
        rw [show (t : Int) - 1 = ((t - 1 : Nat) : Int) by omega]
        exact ix_rows hd (by omega)
      · have e2 : ahead rows t l = lv rows (t - 1) l := by unfold ahead; rw [if_pos h2]
        rw [e2]
        exact ix_row hm (by omega) (by omega)
    have good : okW (s.getD l none) (lv rows t l) (ahead rows t l) = true → ∀ a b c, next [.dat d, .dat (eN t), .dat (eSign s), .dat (eN l), a, b, c] (onNx (wRet (wC (.bool true))) (endO Q E)) := fun h a b c =>
      hk _ ⟨fun l' hl' => by
        rcases List.mem_append.mp hl' with z | z
        · exact hp l' z
        · rw [List.mem_singleton.mp z]; exact h, _, _, _, _, rfl⟩
    have bad : okW (s.getD l none) (lv rows t l) (ahead rows t l) = false → Q (.bool false) := fun h => by
      rw [fits_no hl h] at q
      exact q
    have ix : IxD (eSign s) (.int (l : Int)) (eW (s.getD l none)) := atI_map eW s l none hl
    revert good bad ix
    generalize lv rows t l = now
    generalize ahead rows t l = bef
    cases hw : s.getD l none with
    | none =>
      intro good bad ix
      cases now <;> cases bef <;> ((repeat (first | refine ⟨_, rfl, ?_⟩ | refine ⟨_, ⟨_, _, rfl, rfl, rfl⟩, ?_⟩ | refine ⟨_, ⟨rfl, by (first | exact (sh_ts _).ok | exact (sh_n _).ok | exact (sh_sign _).ok | exact (sh_rows _).ok | exact (sh_row _).ok | exact sh_nil.ok | exact (sh_w _).ok | exact (sh_h _).ok | exact sh_tnil.ok | exact (Sh.int _).ok | exact (Sh.bool _).ok | exact Sh.none.ok | exact shaped_holds _), by (first | exact (sh_ts _).ok | exact (sh_n _).ok | exact (sh_sign _).ok | exact (sh_rows _).ok | exact (sh_row _).ok | exact sh_nil.ok | exact (sh_w _).ok | exact (sh_h _).ok | exact sh_tnil.ok | exact (Sh.int _).ok | exact (Sh.bool _).ok | exact Sh.none.ok | exact shaped_holds _)⟩, ?_⟩ | refine ⟨_, ⟨rfl, rfl⟩, ?_⟩ | refine Eq.mpr (if_pos rfl) ?_ | refine Eq.mpr (if_neg Bool.false_ne_true) ?_ | refine ⟨rfl, ?_⟩ | refine ⟨lit_size rfl, ?_⟩)); exact ⟨_, ix, _, ⟨rfl, rfl⟩, _, rfl, good rfl _ _ _⟩)
    | some h =>
      intro good bad ix
      cases now <;> cases bef <;> (
        (repeat (first | refine ⟨_, rfl, ?_⟩ | refine ⟨_, ⟨_, _, rfl, rfl, rfl⟩, ?_⟩ | refine ⟨_, ⟨rfl, by (first | exact (sh_ts _).ok | exact (sh_n _).ok | exact (sh_sign _).ok | exact (sh_rows _).ok | exact (sh_row _).ok | exact sh_nil.ok | exact (sh_w _).ok | exact (sh_h _).ok | exact sh_tnil.ok | exact (Sh.int _).ok | exact (Sh.bool _).ok | exact Sh.none.ok | exact shaped_holds _), by (first | exact (sh_ts _).ok | exact (sh_n _).ok | exact (sh_sign _).ok | exact (sh_rows _).ok | exact (sh_row _).ok | exact sh_nil.ok | exact (sh_w _).ok | exact (sh_h _).ok | exact sh_tnil.ok | exact (Sh.int _).ok | exact (Sh.bool _).ok | exact Sh.none.ok | exact shaped_holds _)⟩, ?_⟩ | refine ⟨_, ⟨rfl, rfl⟩, ?_⟩ | refine Eq.mpr (if_pos rfl) ?_ | refine Eq.mpr (if_neg Bool.false_ne_true) ?_ | refine ⟨rfl, ?_⟩ | refine ⟨lit_size rfl, ?_⟩))
        refine ⟨_, ix, _, ⟨rfl, rfl⟩, _, rfl, ?_⟩
        refine ⟨_, rfl, _, rfl, _, rfl, _, ix, _, .inr h.s, _, rfl, rfl, dget_hold _ _ _ _ h, ?_⟩
        cases h <;> first | exact ⟨_, rfl, good rfl _ _ _⟩ | exact ⟨_, rfl, bad rfl⟩)
  · rintro Γ ⟨hp, _, _, _, _, rfl⟩
    have e : fitsM rows t s = true := by
      unfold fitsM
      rw [List.all_eq_true]
      exact hp
    rw [e] at q
    exact q
/-! ### _law_caught -/
abbrev Sp__law_caught : DSp := Sp_ticks_of
def w__law_caught : DS := (wRet (wLc (wRng Rng1 (wCons (wCall LenC (wCons (wVar 0) wNil)) wNil)) (stIf (gdN 2) (wTru (wFn Sp__law_fits (wCons (wVar 0) (wCons (wVar 2) (wCons (wVar 1) wNil))))) (wVar 2) [2]) [2]))
theorem m__law_caught (ds : List PyData) (Q : PyData → Prop) (E : Str → Prop) (h : Sp__law_caught ds Q E) : w__law_caught (startG ["rows", "sign", "tick"] ds) (endO Q E) := by
  obtain ⟨d, rows, s, m, rfl, hd, hm, hr, hs, hs2, q⟩ := h
  show w__law_caught [.dat d, .dat (eSign s), .no] _
  refine ⟨_, rfl, _, ⟨_, _, rfl, len_rows hd, rfl⟩, _, ⟨_, rfl, by omega, by omega, rfl⟩, ?_⟩
  rw [rngL_nat]
  refine ⟨by (first | exact Nat.zero_le _ | (refine small_size ?_; simp only [List.length_map, List.length_range, List.length_append, List.length_cons, List.length_nil, List.length_replicate, List.length_take, List.length_drop]; omega)), rfl, ?_⟩
  refine lc_if _ (fun t => fitsM rows t s) eN _ [] (fun t ht k hk => ?_) ?_
  · have ht := List.mem_range.mp ht
    refine ⟨_, rfl, _, rfl, _, rfl, d, rows, t, s, m, rfl, hd, hm, ht, hs, hs2, _, rfl, ?_⟩
    refine iteB (fun h1 => ?_) (fun h1 => ?_)
    · rw [if_pos h1] at hk
      exact ⟨_, rfl, hk⟩
    · rw [if_neg (by rw [h1]; exact Bool.false_ne_true)] at hk
      exact hk
  · exact q
/-! ### moment -/
def onTick (x : PyData) (n : Nat) (E : Str → Prop) (k : Nat → Prop) : Prop := if isWhole x 0 ((n : Int) - 1) = true then k (intOf x).toNat else E "BadTold"
theorem onTick_v {t n : Nat} {E : Str → Prop} {k : Nat → Prop} (h : t < n) (hk : k t) : onTick (eN t) n E k := by
  unfold onTick
  rw [if_pos (show isWhole (eN t) 0 ((n : Int) - 1) = true from e_whole (by omega) (by omega))]
  exact hk
theorem ite_tick {x : PyData} {n : Nat} {E : Str → Prop} {k : Nat → Prop} {A B : Prop} (h : onTick x n E k) (hB : E "BadTold" → B) (hA : ∀ t, x = eN t → t < n → k t → A) : if isWhole x 0 ((n : Int) - 1) = true then A else B := by
  unfold onTick at h
  by_cases v : isWhole x 0 ((n : Int) - 1) = true
  · rw [if_pos v] at h ⊢
    obtain ⟨i, e, e2, h1, h2⟩ := whole_e v
    refine hA (intOf x).toNat ?_ (by omega) h
    rw [e]
    show PyData.int i = .int ((i.toNat : Nat) : Int)
    rw [Int.toNat_of_nonneg h1]
  · rw [if_neg v] at h ⊢
    exact hB h
def eHs (l : List Hold) : PyData := .list (l.map eH)
def eMom (l : List (List Hold)) : PyData := .list (l.map eHs)
theorem sh_hs (l : List Hold) : Sh 1 (eHs l) := .list (sh_map sh_h l)
theorem sh_mom (l : List (List Hold)) : Sh 2 (eMom l) := .list (sh_map sh_hs l)
theorem eqv_hs (a b : List Hold) : PyData.eqv (eHs a) (eHs b) = decide (a = b) := eqv_list eqv_h a b
def momM (rows : Rows) (m t : Nat) : List (List Hold) := (List.range m).map fun l => holdM rows t l
def Sp_moment : DSp := fun ds Q E => ∃ d x, ds = [d, x] ∧ onRows d E fun rows m => onTick x rows.length E fun t => Q (eMom (momM rows m t))
def w_moment : DS := (wSq (wEx (wFn Sp_look_rows (wCons (wVar 0) wNil)))
  (wSq (wEx (wFn Sp_look_tick (wCons (wVar 0) (wCons (wVar 1) wNil))))
  (wRet (wLc (wRng Rng1 (wCons (wCall LenC (wCons (wBin IxD (wVar 0) (wC (.int 0))) wNil)) wNil)) (stAll (gdN 2) (wFn Sp_holding (wCons (wVar 0) (wCons (wVar 1) (wCons (wVar 2) wNil)))) [2]) [2]))))
theorem m_moment (ds : List PyData) (Q : PyData → Prop) (E : Str → Prop) (h : Sp_moment ds Q E) : w_moment (startG ["rows", "tick", "line"] ds) (endO Q E) := by
  obtain ⟨d, x, rfl, h⟩ := h
  show w_moment [.dat d, .dat x, .no] _
  refine ⟨_, rfl, d, rfl, h.1, ite_rows h (fun z => z) fun rows m e v h2 => ?_⟩
  subst e
  refine ⟨_, rfl, _, rfl, _, _, x, rfl, rfl, ?_⟩
  rw [List.length_map]
  refine ite_tick h2 (fun z => z) fun t e ht h3 => ?_
  subst e
  have hm2 := v.m2
  refine ⟨_, rfl, _, row0 v, _, len0 v, _, ⟨_, rfl, by omega, by omega, rfl⟩, ?_⟩
  rw [rngL_nat]
  refine ⟨by (first | exact Nat.zero_le _ | (refine small_size ?_; simp only [List.length_map, List.length_range, List.length_append, List.length_cons, List.length_nil, List.length_replicate, List.length_take, List.length_drop]; omega)), rfl, ?_⟩
  refine lc_all _ (fun l => eHs (holdM rows t l)) (List.range m) [] (fun l hl k hk => ?_) ?_
  · have hl := List.mem_range.mp hl
    exact ⟨_, rfl, _, rfl, _, rfl, _, rows, t, l, m, rfl, .inl rfl, v.ok, ht, hl, hk⟩
  · have e : eMom (momM rows m t) = .list ([] ++ (List.range m).map fun l => eHs (holdM rows t l)) := by
      unfold eMom momM
      rw [List.map_map]
      rfl
    rw [e] at h3
    exact h3
/-! ### spaced, held -/
def spStep (h : Int) (found : List Nat) (t : Nat) : List Nat := match found.getLast? with
  | none => found ++ [t]
  | some l => if h < (t : Int) - (l : Int) then found ++ [t] else found
def spacedM (h : Int) (ts : List Nat) : List Nat := ts.foldl (spStep h) []
theorem spStep_len (h : Int) (f : List Nat) (t : Nat) : (spStep h f t).length ≤ f.length + 1 := by
  unfold spStep
  split
  · rw [List.length_append]; exact Nat.le_refl _
  · split
    · rw [List.length_append]; exact Nat.le_refl _
    · omega
def Sp_spaced : DSp := fun ds Q _ => ∃ ts h, ds = [eTs ts, .int h] ∧ ts.length ≤ 100000 ∧ Q (eTs (spacedM h ts))
def w_spaced : DS := (wSq (wSetO 2 (wLstF wNil))
  (wSq (wFor (wSeq (wVar 0)) (gdN 3) (wIfS (wtOr (wtNot (wTru (wPk 2))) (wTst (wBin GtD (wBin SubD (wVar 3) (wBin IxD (wPk 2) (wUn NegD (wC (.int 1))))) (wVar 1)))) (wApp 2 (wVar 3)) wNx))
  (wRel 2 (wRet (wVar 2)))))
theorem m_spaced (ds : List PyData) (Q : PyData → Prop) (E : Str → Prop) (h : Sp_spaced ds Q E) : w_spaced (startG ["ticks", "hold", "found", "tick"] ds) (endO Q E) := by
  obtain ⟨ts, h, rfl, hl, q⟩ := h
  show w_spaced [.dat (eTs ts), .dat (.int h), .no, .no] _
  refine ⟨by (first | exact Nat.zero_le _ | (refine small_size ?_; simp only [List.length_map, List.length_range, List.length_append, List.length_cons, List.length_nil, List.length_replicate, List.length_take, List.length_drop]; omega)), _, rfl, _, rfl, ?_⟩
  refine for_inv eN ts (fun pre Γ => ∃ x3, (pre.foldl (spStep h) []).length ≤ pre.length ∧ Γ = [.dat (eTs ts), .dat (.int h), .own ((pre.foldl (spStep h) []).map eN), x3]) ?_ ?_ ⟨_, Nat.le_refl _, rfl⟩
  · rintro pre t post Γ e ⟨x3, hf, rfl⟩ next hk
    have hpre := prefix_lt e
    have fin : ∀ f', f' = spStep h (pre.foldl (spStep h) []) t → next [.dat (eTs ts), .dat (.int h), .own (f'.map eN), .dat (eN t)] (onNx (wRel 2 (wRet (wVar 2))) (endO Q E)) := fun f' e => by
      subst e
      exact hk _ ⟨.dat (eN t), by
        rw [List.foldl_append, List.length_append]
        exact Nat.le_trans (spStep_len _ _ _) (Nat.succ_le_succ hf), by rw [List.foldl_append]; rfl⟩
    revert fin hf
    generalize pre.foldl (spStep h) [] = f
    intro hf fin
    rcases List.eq_nil_or_concat f with rfl | ⟨x, l, rfl⟩
    · exact ⟨_, rfl, _, rfl, ⟨_, rfl⟩, _, rfl, _, rfl, by show 0 < sizeLine; rw [sizeLine_eq]; decide, fin [t] rfl⟩
    · rw [List.concat_eq_append] at hf fin ⊢
      have hs : spStep h (x ++ [l]) t = if h < (t : Int) - (l : Int) then (x ++ [l]) ++ [t] else x ++ [l] := by
        unfold spStep
        rw [List.getLast?_concat]
      refine ⟨_, rfl, true, ?_, ?_⟩
      · show true = !((x ++ [l]).map eN).isEmpty
        rw [List.map_append]
        cases x.map eN <;> rfl
      refine Eq.mpr (if_neg Bool.false_ne_true) ?_
      refine ⟨_, rfl, _, rfl, _, rfl, _, atI_lastM eN x l, _, rfl, _, rfl, _, rfl, _, rfl, ?_⟩
      refine iteB (fun c => ?_) (fun c => ?_)
      · have c : h < (t : Int) - (l : Int) := of_decide_eq_true c
        refine ⟨⟨_, rfl⟩, _, rfl, _, rfl, by rw [List.length_map, sizeLine_eq]; omega, ?_⟩
        rw [if_pos c] at hs
        have := fin _ hs.symm
        rw [List.map_append] at this
        exact this
      · have c : ¬ h < (t : Int) - (l : Int) := of_decide_eq_false c
        rw [if_neg c] at hs
        exact fin _ hs.symm
  · rintro Γ ⟨x3, hf, rfl⟩
    exact ⟨_, rfl, _, rfl, q⟩
def Sp_held : DSp := fun ds Q E => ∃ d x y, ds = [d, x, y] ∧ onRows d E fun rows m => onSign x m E fun s => onNum y 0 200 E fun g => Q (eTs (spacedM g (ticksM rows s)))
def w_held : DS := (wSq (wEx (wFn Sp_look_rows (wCons (wVar 0) wNil)))
  (wSq (wEx (wFn Sp_look_sign (wCons (wVar 1) (wCons (wCall LenC (wCons (wBin IxD (wVar 0) (wC (.int 0))) wNil)) wNil))))
  (wSq (wIfS (wtNot (wTru (wFn Sp_is_whole (wCons (wVar 2) (wCons (wC (.int 0)) (wCons (wC (.int 200)) wNil)))))) (wRaise "BadNumber") wNx)
  (wRet (wFn Sp_spaced (wCons (wFn Sp_ticks_of (wCons (wVar 0) (wCons (wVar 1) wNil))) (wCons (wVar 2) wNil)))))))
theorem m_held (ds : List PyData) (Q : PyData → Prop) (E : Str → Prop) (h : Sp_held ds Q E) : w_held (startG ["rows", "sign", "hold"] ds) (endO Q E) := by
  obtain ⟨d, x, y, rfl, h⟩ := h
  show w_held [.dat d, .dat x, .dat y] _
  refine ⟨_, rfl, d, rfl, h.1, ite_rows h (fun z => z) fun rows m e v h2 => ?_⟩
  subst e
  refine ⟨_, rfl, _, rfl, _, row0 v, _, len0 v, x, _, rfl, h2.1, ite_sign h2 (fun z => z) fun s e hs h3 => ?_⟩
  subst e
  refine ⟨_, rfl, _, _, _, rfl, _, rfl, ite_num h3 (fun z => z) fun g e g1 g2 h4 => ?_⟩
  subst e
  have hn2 := v.n2
  have hlt := ticks_len rows s
  exact ⟨_, rfl, _, rfl, _, rows, s, m, rfl, .inl rfl, v.ok, by omega, by omega, by have := v.m2; omega, _, rfl, _, _, rfl, by omega, h4⟩
/-! ### steps -/
def behind (w : Int) (fs : List Nat) (t : Nat) : Bool := fs.any fun f => decide (0 < (t : Int) - (f : Int)) && decide ((t : Int) - (f : Int) ≤ w)
def stepsM (fs ss : List Nat) (w : Int) : List Nat := ss.filter (behind w fs)
def Sp_both_steps : DSp := fun ds Q _ => ∃ fs ss w, ds = [eTs fs, eTs ss, .int w] ∧ fs.length ≤ 100000 ∧ ss.length ≤ 100000 ∧ Q (eTs (stepsM fs ss w))
def w_both_steps : DS := (wRet (wLc (wSeq (wVar 1)) (stIf (gdN 3) (wTru (wCall AnyC (wCons (wLc (wSeq (wVar 0)) (stAll (gdN 4) (wChain LtD LeD (wC (.int 0)) (wBin SubD (wVar 3) (wVar 4)) (wVar 2)) [4]) [4]) wNil))) (wVar 3) [3]) [3]))
theorem m_both_steps (ds : List PyData) (Q : PyData → Prop) (E : Str → Prop) (h : Sp_both_steps ds Q E) : w_both_steps (startG ["firsts", "seconds", "within", "tick", "one"] ds) (endO Q E) := by
  obtain ⟨fs, ss, w, rfl, h1, h2, q⟩ := h
  show w_both_steps [.dat (eTs fs), .dat (eTs ss), .dat (.int w), .no, .no] _
  refine ⟨_, rfl, _, rfl, by (first | exact Nat.zero_le _ | (refine small_size ?_; simp only [List.length_map, List.length_range, List.length_append, List.length_cons, List.length_nil, List.length_replicate, List.length_take, List.length_drop]; omega)), rfl, ?_⟩
  refine lc_if eN (behind w fs) eN ss [] (fun t ht k hk => ?_) ?_
  · refine ⟨_, rfl, _, rfl, by (first | exact Nat.zero_le _ | (refine small_size ?_; simp only [List.length_map, List.length_range, List.length_append, List.length_cons, List.length_nil, List.length_replicate, List.length_take, List.length_drop]; omega)), rfl, ?_⟩
    refine lc_all eN (fun f => .bool (decide (0 < (t : Int) - (f : Int)) && decide ((t : Int) - (f : Int) ≤ w))) fs [] (fun f hf k' hk' => ?_) ?_
    · refine ⟨_, rfl, _, rfl, _, rfl, _, rfl, ?_⟩
      refine iteB (fun c => ?_) (fun c => ?_)
      · refine ⟨_, rfl, _, rfl, ?_⟩
        rw [show decide (0 < (t : Int) - (f : Int)) = true from c, Bool.true_and] at hk'
        exact hk'
      · rw [show decide (0 < (t : Int) - (f : Int)) = false from c, Bool.false_and] at hk'
        exact hk'
    · refine ⟨_, ⟨fs.map fun (f : Nat) => (decide (0 < (t : Int) - (f : Int)) && decide ((t : Int) - (f : Int) ≤ w)), ?_, rfl⟩, _, rfl, ?_⟩
      · rw [List.nil_append, allB]
      · rw [any_id]
        refine iteB (fun c => ?_) (fun c => ?_)
        · rw [if_pos (show behind w fs t = true from c)] at hk
          exact ⟨_, rfl, hk⟩
        · rw [if_neg (by rw [show behind w fs t = false from c]; exact Bool.false_ne_true)] at hk
          exact hk
  · exact q
def Sp_look_within : DSp := fun ds Q E => ∃ x, ds = [x] ∧ onNum x 1 200 E fun _ => Q .none
def w_look_within : DS := (wIfS (wtNot (wTru (wFn Sp_is_whole (wCons (wVar 0) (wCons (wC (.int 1)) (wCons (wC (.int 200)) wNil)))))) (wRaise "BadNumber") wNx)
theorem m_look_within (ds : List PyData) (Q : PyData → Prop) (E : Str → Prop) (h : Sp_look_within ds Q E) : w_look_within (startG ["within"] ds) (endO Q E) := by
  obtain ⟨x, rfl, h⟩ := h
  show w_look_within [.dat x] _
  refine ⟨_, rfl, _, _, _, rfl, _, rfl, ite_num h (fun z => z) fun g e g1 g2 h4 => h4⟩
theorem onNum_bind {x : PyData} {lo hi : Int} {E : Str → Prop} {k : Int → Prop} {A : Prop} (h : onNum x lo hi E k) (hA : ∀ i, x = .int i → lo ≤ i → i ≤ hi → k i → A) : onNum x lo hi E fun _ => A := by
  unfold onNum at h ⊢
  by_cases v : isWhole x lo hi = true
  · rw [if_pos v] at h ⊢
    obtain ⟨i, e, e2, h1, h2⟩ := whole_e v
    exact hA i e h1 h2 (e2 ▸ h)
  · rw [if_neg v] at h ⊢
    exact h
def Sp_steps : DSp := fun ds Q E => ∃ d x y z, ds = [d, x, y, z] ∧ onRows d E fun rows m => onSign x m E fun s => onNum y 1 200 E fun g => onSign z m E fun s2 => Q (eTs (stepsM (ticksM rows s) (ticksM rows s2) g))
def w_steps : DS := (wSq (wEx (wFn Sp_look_rows (wCons (wVar 0) wNil)))
  (wSq (wEx (wFn Sp_look_sign (wCons (wVar 1) (wCons (wCall LenC (wCons (wBin IxD (wVar 0) (wC (.int 0))) wNil)) wNil))))
  (wSq (wEx (wFn Sp_look_within (wCons (wVar 2) wNil)))
  (wSq (wEx (wFn Sp_look_sign (wCons (wVar 3) (wCons (wCall LenC (wCons (wBin IxD (wVar 0) (wC (.int 0))) wNil)) wNil))))
  (wRet (wFn Sp_both_steps (wCons (wFn Sp_ticks_of (wCons (wVar 0) (wCons (wVar 1) wNil))) (wCons (wFn Sp_ticks_of (wCons (wVar 0) (wCons (wVar 3) wNil))) (wCons (wVar 2) wNil)))))))))
theorem m_steps (ds : List PyData) (Q : PyData → Prop) (E : Str → Prop) (h : Sp_steps ds Q E) : w_steps (startG ["rows", "first", "within", "second"] ds) (endO Q E) := by
  obtain ⟨d, x, y, z, rfl, h⟩ := h
  show w_steps [.dat d, .dat x, .dat y, .dat z] _
  refine ⟨_, rfl, d, rfl, h.1, ite_rows h (fun z => z) fun rows m e v h2 => ?_⟩
  subst e
  refine ⟨_, rfl, _, rfl, _, row0 v, _, len0 v, x, _, rfl, h2.1, ite_sign h2 (fun z => z) fun s e hs h3 => ?_⟩
  subst e
  refine ⟨_, rfl, _, rfl, onNum_bind h3 fun g e g1 g2 h4 => ?_⟩
  subst e
  refine ⟨_, rfl, _, rfl, _, row0 v, _, len0 v, z, _, rfl, h4.1, ite_sign h4 (fun z => z) fun s2 e hs2 h5 => ?_⟩
  subst e
  have hn2 := v.n2
  have hm2 := v.m2
  have l1 := ticks_len rows s
  have l2 := ticks_len rows s2
  exact ⟨_, rfl, _, rfl, _, rows, s, m, rfl, .inl rfl, v.ok, by omega, by omega, by omega, _, rfl, _, rfl, _, rows, s2, m, rfl, .inl rfl, v.ok, by omega, by omega, by omega, _, rfl, _, _, _, rfl, by omega, by omega, h5⟩
end Sg

/-! Sem4: all rows of menus; two signs, one beside the other. -/
namespace Sg
open PySem L2 Dt
theorem snoc_ind {α : Type} {P : List α → Prop} (h0 : P []) (hs : ∀ l x, P l → P (l ++ [x])) (l : List α) : P l := by
  have : ∀ r : List α, P r.reverse := fun r => by
    induction r with
    | nil => exact h0
    | cons x r ih => rw [List.reverse_cons]; exact hs _ _ ih
  have z := this l.reverse
  rw [List.reverse_reverse] at z
  exact z
theorem no_own {Γ : Gm} {i : Nat} {x : Sl} (h : Γ[i]? = some x) (hx : nO x = true) : noOwn Γ [i] = true := by
  unfold noOwn
  rw [List.all_cons, List.all_nil, Bool.and_true, h]
  cases x <;> first | rfl | cases hx
/-! ### all_signs -/
def growM {α : Type} (found : List (List α)) (menu : List α) : List (List α) := found.flatMap fun row => menu.map fun one => row ++ [one]
def prodM {α : Type} (menus : List (List α)) : List (List α) := menus.foldl growM [[]]
def eT {α : Type} (e : α → PyData) (r : List α) : PyData := .tuple (r.map e)
def eL {α : Type} (e : α → PyData) (r : List α) : PyData := .list (r.map e)
theorem prod_snoc {α : Type} (menus : List (List α)) (m : List α) : prodM (menus ++ [m]) = growM (prodM menus) m := by
  unfold prodM
  rw [List.foldl_append]
  rfl
theorem grow_len {α : Type} {c n : Nat} {f : List (List α)} {m : List α} (hm : m.length ≤ c) (hf : f.length ≤ n) : (growM f m).length ≤ n * c := by
  unfold growM
  rw [List.length_flatMap]
  have : ∀ (f : List (List α)), (f.map fun a => (m.map fun one => a ++ [one]).length).sum ≤ f.length * c := fun f => by
    induction f with
    | nil => exact Nat.zero_le _
    | cons x r ih =>
      rw [List.map_cons, List.sum_cons, List.length_map, List.length_cons, Nat.succ_mul]
      omega
  exact Nat.le_trans (this f) (Nat.mul_le_mul_right c hf)
theorem prod_size {α : Type} {menus : List (List α)} (h1 : menus.length ≤ 5) (h2 : ∀ m ∈ menus, m.length ≤ 5) : (prodM menus).length ≤ 5 ^ menus.length := by
  have key : ∀ (r : List (List α)), (∀ m ∈ r, m.length ≤ 5) → (prodM r).length ≤ 5 ^ r.length := snoc_ind (fun _ => Nat.le_refl _) fun r m ih h => by
    rw [prod_snoc, List.length_append]
    exact grow_len (h m (List.mem_append.mpr (.inr List.mem_cons_self))) (ih fun x hx => h x (List.mem_append.mpr (.inl hx)))
  exact key menus h2
theorem pow5 {n : Nat} (h : n ≤ 5) : 5 ^ n ≤ 3125 := Nat.pow_le_pow_right (by decide) h
theorem prod_row {α : Type} : ∀ (menus : List (List α)), ∀ r ∈ prodM menus, r.length = menus.length := snoc_ind (fun r hr => by
    rw [List.mem_singleton.mp (show r ∈ [[]] from hr)]
    rfl) fun ms m ih r hr => by
    rw [prod_snoc] at hr
    obtain ⟨row, h1, h2⟩ := List.mem_flatMap.mp hr
    obtain ⟨one, _, rfl⟩ := List.mem_map.mp h2
    rw [List.length_append, List.length_append, ih row h1]
    rfl
def Sp_all_signs : DSp := fun ds Q _ => ∃ (α : Type) (e : α → PyData) (menus : List (List α)), ds = [.list (menus.map (eL e))] ∧ menus.length ≤ 5 ∧ (∀ m ∈ menus, m.length ≤ 5) ∧ Q (.list ((prodM menus).map (eT e)))
def w_all_signs : DS := (wSq (wSet 1 (wLst (wCons (wTup wNil) wNil)))
  (wSq (wFor (wSeq (wVar 0)) (gdN 2) (wSq (wSetO 3 (wLstF wNil))
  (wSq (wFor (wSeq (wVar 1)) (gdN 4) (wExt 3 (wLc (wSeq (wVar 2)) (stAll (gdN 5) (wBin AddD (wVar 4) (wTup (wCons (wVar 5) wNil))) [5]) [5])))
  (wRel 3 (wSet 1 (wVar 3))))))
  (wRet (wVar 1))))
theorem m_all_signs (ds : List PyData) (Q : PyData → Prop) (E : Str → Prop) (h : Sp_all_signs ds Q E) : w_all_signs (startG ["menus", "found", "menu", "longer", "row", "one"] ds) (endO Q E) := by
  obtain ⟨α, e, menus, rfl, h1, h2, q⟩ := h
  show w_all_signs [.dat (.list (menus.map (eL e))), .no, .no, .no, .no, .no] _
  refine ⟨lit_size rfl, lit_size rfl, _, rfl, _, rfl, ?_⟩
  refine for_inv (eL e) menus (fun pre Γ => ∃ x2 x3 x4 x5, nO x5 = true ∧ Γ = [.dat (.list (menus.map (eL e))), .dat (.list ((prodM pre).map (eT e))), x2, x3, x4, x5]) ?_ ?_ ⟨_, _, _, _, rfl, rfl⟩
  · rintro pre menu post Γ em ⟨x2, x3, x4, x5, hx5, rfl⟩ next hk
    have hpre := prefix_lt em
    have hpm : ∀ m ∈ pre, m.length ≤ 5 := fun m hm => h2 m (by rw [em]; exact List.mem_append.mpr (.inl hm))
    have hmm : menu.length ≤ 5 := h2 menu (by rw [em]; exact List.mem_append.mpr (.inr List.mem_cons_self))
    have hsz := prod_size (by omega) hpm
    have hp5 : 5 ^ pre.length ≤ 625 := Nat.le_trans (Nat.pow_le_pow_right (by decide) (show pre.length ≤ 4 by omega)) (by decide)
    refine ⟨Nat.zero_le _, _, rfl, _, rfl, ?_⟩
    refine for_inv (eT e) (prodM pre) (fun pre2 Γ => ∃ x4 x5, nO x5 = true ∧ Γ = [.dat (.list (menus.map (eL e))), .dat (.list ((prodM pre).map (eT e))), .dat (eL e menu), .own ((growM pre2 menu).map (eT e)), x4, x5]) ?_ ?_ ⟨_, _, hx5, rfl⟩
    · rintro pre2 row post2 Γ er ⟨x4, x5, hx5, rfl⟩ next2 hk2
      have hrow : row.length = pre.length := prod_row pre row (by rw [er]; exact List.mem_append.mpr (.inr List.mem_cons_self))
      have hp2 := prefix_lt er
      have hg2 := grow_len hmm (Nat.le_refl pre2.length)
      refine ⟨⟨_, rfl⟩, _, rfl, _, rfl, by rw [List.length_map]; exact small_size (by omega), no_own rfl hx5, ?_⟩
      refine lc_all e (fun one => eT e (row ++ [one])) menu [] (fun one _ k hk' => ?_) ?_
      · refine ⟨_, rfl, _, rfl, lit_size rfl, _, add_tup e row [one] (by show _ + 1 ≤ _; omega), hk'⟩
      · refine ⟨_, _, rfl, rfl, ?_, ?_⟩
        · rw [List.length_map, List.nil_append, List.length_map, sizeLine_eq]
          omega
        · refine hk2 _ ⟨.dat (eT e row), .no, rfl, ?_⟩
          have eg : growM (pre2 ++ [row]) menu = growM pre2 menu ++ menu.map fun one => row ++ [one] := by
            unfold growM
            rw [List.flatMap_append, List.flatMap_singleton]
          rw [eg, List.map_append, List.map_map]
          rfl
    · rintro Γ ⟨x4, x5, hx5, rfl⟩
      refine ⟨_, rfl, _, rfl, ?_⟩
      rw [show growM (prodM pre) menu = prodM (pre ++ [menu]) from (prod_snoc pre menu).symm]
      exact hk _ ⟨_, _, _, _, hx5, rfl⟩
  · rintro Γ ⟨x2, x3, x4, x5, hx5, rfl⟩
    exact ⟨_, rfl, q⟩
/-! ### look_any, look_both -/
def isAny (x : PyData) : Bool := match x with
  | .tuple l => decide (1 ≤ (l.length : Int)) && decide ((l.length : Int) ≤ 5) && l.all isWord
  | _ => false
def onAny (x : PyData) (E : Str → Prop) (k : Sign → Prop) : Prop := SzT x ∧ (if isAny x = true then k (signOf x) else E "BadSign")
theorem any_e {x : PyData} (h : isAny x = true) : x = eSign (signOf x) ∧ 1 ≤ (signOf x).length ∧ (signOf x).length ≤ 5 := by
  cases x with
  | tuple l =>
    unfold isAny at h
    simp only [Bool.and_eq_true, decide_eq_true_eq] at h
    obtain ⟨⟨h1, h2⟩, h3⟩ := h
    have hs : isSign (.tuple l) (l.length : Int) = true := by
      show (((l.length : Int) == (l.length : Int)) && l.all isWord) = true
      rw [h3, beq_self_eq_true]; rfl
    obtain ⟨a, b⟩ := sign_e hs
    exact ⟨a, by omega, by omega⟩
  | _ => cases h
theorem e_any {s : Sign} (h1 : 1 ≤ s.length) (h2 : s.length ≤ 5) : isAny (eSign s) = true := by
  have hs := e_sign (s := s) (n := (s.length : Int)) rfl
  have h3 : (s.map eW).all isWord = true := by
    have : (((s.map eW).length : Int) == (s.length : Int) && (s.map eW).all isWord) = true := hs
    rw [Bool.and_eq_true] at this
    exact this.2
  show (decide (1 ≤ ((s.map eW).length : Int)) && decide (((s.map eW).length : Int) ≤ 5) && (s.map eW).all isWord) = true
  rw [h3, List.length_map, decide_eq_true (by omega), decide_eq_true (by omega)]
  rfl
theorem onAny_v {s : Sign} {E : Str → Prop} {k : Sign → Prop} (h1 : 1 ≤ s.length) (h2 : s.length ≤ 5) (hk : k s) : onAny (eSign s) E k := ⟨sz_sign (by omega), by rw [if_pos (e_any h1 h2), signOf_e]; exact hk⟩
def Sp_look_any : DSp := fun ds Q E => ∃ x, ds = [x] ∧ onAny x E fun s => Q (eN s.length)
def w_look_any : DS := (wSq (wIfS (wtOr (wtNot (wTru (wIsi isTup (wVar 0)))) (wtOr (wtNot (wTst (wChain LeD LeD (wC (.int 1)) (wCall LenC (wCons (wVar 0) wNil)) (wC (.int 5))))) (wtNot (wTru (wFn Sp_is_sign (wCons (wVar 0) (wCons (wCall LenC (wCons (wVar 0) wNil)) wNil))))))) (wRaise "BadSign") wNx)
  (wRet (wCall LenC (wCons (wVar 0) wNil))))
theorem m_look_any (ds : List PyData) (Q : PyData → Prop) (E : Str → Prop) (h : Sp_look_any ds Q E) : w_look_any (startG ["sign"] ds) (endO Q E) := by
  obtain ⟨x, rfl, hz, q⟩ := h
  show w_look_any [.dat x] _
  refine ⟨_, rfl, _, rfl, ?_⟩
  cases x with
  | tuple l =>
    have stop : isAny (.tuple l) = false → E "BadSign" := fun e => by rw [if_neg (by rw [e]; exact Bool.false_ne_true)] at q; exact q
    refine ⟨_, rfl, _, ⟨_, _, rfl, rfl, rfl⟩, _, rfl, ?_⟩
    refine iteB (fun h1 => ?_) (fun h1 => ?_)
    · refine ⟨_, rfl, _, rfl, ?_⟩
      refine iteB (fun h2 => ?_) (fun h2 => ?_)
      · rw [Bool.not_eq_true'] at h2
        exact stop (by unfold isAny; simp only [h1, h2, Bool.true_and, Bool.false_and])
      rw [Bool.not_eq_false'] at h2
      refine ⟨_, rfl, _, rfl, _, ⟨_, _, rfl, rfl, rfl⟩, _, _, rfl, hz, _, rfl, ?_⟩
      have es : isSign (.tuple l) (l.length : Int) = l.all isWord := by
        show (((l.length : Int) == (l.length : Int)) && l.all isWord) = _
        rw [beq_self_eq_true, Bool.true_and]
      rw [es]
      refine iteB (fun h3 => ?_) (fun h3 => ?_)
      · rw [Bool.not_eq_true'] at h3
        exact stop (by unfold isAny; simp only [h1, h2, h3, Bool.true_and])
      · rw [Bool.not_eq_false'] at h3
        rw [if_pos (by unfold isAny; simp only [h1, h2, h3, Bool.true_and])] at q
        refine ⟨_, rfl, _, ⟨_, _, rfl, rfl, rfl⟩, ?_⟩
        have hl : (signOf (.tuple l)).length = l.length := List.length_map _
        rw [hl] at q
        exact q
    · exact ⟨_, rfl, stop (by unfold isAny; simp only [h1, Bool.false_and])⟩
  | _ => exact q
def onBoth (x y : PyData) (E : Str → Prop) (k : Sign → Sign → Prop) : Prop := onAny x E fun s1 => onAny y E fun s2 => if s1.length = s2.length then k s1 s2 else E "BadSign"
theorem onBoth_v {s1 s2 : Sign} {E : Str → Prop} {k : Sign → Sign → Prop} (h1 : 1 ≤ s1.length) (h2 : s1.length ≤ 5) (h3 : s2.length = s1.length) (hk : k s1 s2) : onBoth (eSign s1) (eSign s2) E k := onAny_v h1 h2 (onAny_v (by omega) (by omega) (by rw [if_pos h3.symm]; exact hk))
theorem onAny_bind {x : PyData} {E : Str → Prop} {k k2 : Sign → Prop} (h : onAny x E k) (hA : ∀ s, x = eSign s → 1 ≤ s.length → s.length ≤ 5 → k s → k2 s) : onAny x E k2 := by
  refine ⟨h.1, ?_⟩
  have h2 := h.2
  by_cases v : isAny x = true
  · rw [if_pos v] at h2 ⊢
    obtain ⟨a, b, c⟩ := any_e v
    exact hA _ a b c h2
  · rw [if_neg v] at h2 ⊢
    exact h2
theorem onBoth_bind {x y : PyData} {E : Str → Prop} {k k2 : Sign → Sign → Prop} (h : onBoth x y E k) (hA : ∀ s1 s2, x = eSign s1 → y = eSign s2 → 1 ≤ s1.length → s1.length ≤ 5 → s1.length = s2.length → k s1 s2 → k2 s1 s2) : onBoth x y E k2 :=
  onAny_bind h fun s1 e1 a1 b1 h1 => onAny_bind h1 fun s2 e2 a2 b2 h2 => by
    by_cases c : s1.length = s2.length
    · rw [if_pos c] at h2 ⊢
      exact hA s1 s2 e1 e2 a1 b1 c h2
    · rw [if_neg c] at h2 ⊢
      exact h2
def Sp_look_both : DSp := fun ds Q E => ∃ x y, ds = [x, y] ∧ onBoth x y E fun _ _ => Q .none
def w_look_both : DS := (wIfS (wTst (wBin NeD (wFn Sp_look_any (wCons (wVar 0) wNil)) (wFn Sp_look_any (wCons (wVar 1) wNil)))) (wRaise "BadSign") wNx)
theorem m_look_both (ds : List PyData) (Q : PyData → Prop) (E : Str → Prop) (h : Sp_look_both ds Q E) : w_look_both (startG ["one", "other"] ds) (endO Q E) := by
  obtain ⟨x, y, rfl, h⟩ := h
  show w_look_both [.dat x, .dat y] _
  refine ⟨_, rfl, _, rfl, onAny_bind h fun s1 e1 a1 b1 h1 => ⟨_, rfl, _, rfl, onAny_bind h1 fun s2 e2 a2 b2 h2 => ?_⟩⟩
  refine ⟨_, ⟨rfl, (sh_n _).ok, (sh_n _).ok⟩, _, rfl, ?_⟩
  rw [eqv_n]
  by_cases c : s1.length = s2.length
  · rw [if_pos c] at h2
    rw [decide_eq_true c]
    exact h2
  · rw [if_neg c] at h2
    rw [decide_eq_false c]
    exact h2
end Sg

/-! SemX6: what was caught, told by its kind. -/
namespace Sg
open PySem L2 Dt
def xcl : List Str := ["BadRows", "BadSign", "BadTold", "BadNumber", "NoSign", "BadText"]
def kindOf (c : Str) : Str := if c = "BadRows" then "rows" else if c = "BadSign" then "sign" else if c = "BadTold" then "told" else if c = "BadNumber" then "number" else if c = "NoSign" then "none" else "text"
def refD (c : Str) : PyData := .tuple [.str "refused", .str (kindOf c)]
def Sp__law_refusal : DSp := fun ds Q _ => (∃ c, ds = [excD c] ∧ c ∈ xcl ∧ Q (refD c)) ∨ (ds = [.none] ∧ Q (.tuple [.str "ok"]))
def w__law_refusal : DS := (wSq (wIfS (wTst (wBin IsND (wVar 0) (wC .none))) (wRet (wTup (wCons (wC (.str "ok")) wNil))) wNx)
  (wSq (wSet 1 (wLst (wCons (wIsx ["BadRows", "BadSign", "BadTold", "BadNumber", "NoSign", "BadText"] (fun c => decide (c = "BadRows")) (wVar 0)) (wCons (wIsx ["BadRows", "BadSign", "BadTold", "BadNumber", "NoSign", "BadText"] (fun c => decide (c = "BadSign")) (wVar 0)) (wCons (wIsx ["BadRows", "BadSign", "BadTold", "BadNumber", "NoSign", "BadText"] (fun c => decide (c = "BadTold")) (wVar 0)) wNil)))))
  (wSq (wSet 1 (wBin AddD (wVar 1) (wLst (wCons (wIsx ["BadRows", "BadSign", "BadTold", "BadNumber", "NoSign", "BadText"] (fun c => decide (c = "BadNumber")) (wVar 0)) (wCons (wIsx ["BadRows", "BadSign", "BadTold", "BadNumber", "NoSign", "BadText"] (fun c => decide (c = "NoSign")) (wVar 0)) (wCons (wIsx ["BadRows", "BadSign", "BadTold", "BadNumber", "NoSign", "BadText"] (fun c => decide (c = "BadText")) (wVar 0)) wNil))))))
  (wSq (wIfS (wtOr (wTst (wBin NeD (wLm CntL (wVar 1) (wC (.bool true))) (wC (.int 1)))) (wtNot (wTru (wIsx ["BadRows", "BadSign", "BadTold", "BadNumber", "NoSign", "BadText"] (fun _ => true) (wVar 0))))) (wRet (wTup (wCons (wC (.str "wrong")) wNil))) wNx)
  (wRet (wTup (wCons (wC (.str "refused")) (wCons (wBin IxD (wLst (wCons (wC (.str "rows")) (wCons (wC (.str "sign")) (wCons (wC (.str "told")) (wCons (wC (.str "number")) (wCons (wC (.str "none")) (wCons (wC (.str "text")) wNil))))))) (wLm IdxL (wVar 1) (wC (.bool true)))) wNil))))))))

theorem xd_BadRows_BadRows : decide (("BadRows" : Str) = "BadRows") = true := by decide +kernel
theorem xd_BadRows_BadSign : decide (("BadRows" : Str) = "BadSign") = false := by decide +kernel
theorem xd_BadRows_BadTold : decide (("BadRows" : Str) = "BadTold") = false := by decide +kernel
theorem xd_BadRows_BadNumber : decide (("BadRows" : Str) = "BadNumber") = false := by decide +kernel
theorem xd_BadRows_NoSign : decide (("BadRows" : Str) = "NoSign") = false := by decide +kernel
theorem xd_BadRows_BadText : decide (("BadRows" : Str) = "BadText") = false := by decide +kernel
theorem xd_BadSign_BadRows : decide (("BadSign" : Str) = "BadRows") = false := by decide +kernel
theorem xd_BadSign_BadSign : decide (("BadSign" : Str) = "BadSign") = true := by decide +kernel
theorem xd_BadSign_BadTold : decide (("BadSign" : Str) = "BadTold") = false := by decide +kernel
theorem xd_BadSign_BadNumber : decide (("BadSign" : Str) = "BadNumber") = false := by decide +kernel
theorem xd_BadSign_NoSign : decide (("BadSign" : Str) = "NoSign") = false := by decide +kernel
theorem xd_BadSign_BadText : decide (("BadSign" : Str) = "BadText") = false := by decide +kernel
theorem xd_BadTold_BadRows : decide (("BadTold" : Str) = "BadRows") = false := by decide +kernel
theorem xd_BadTold_BadSign : decide (("BadTold" : Str) = "BadSign") = false := by decide +kernel
theorem xd_BadTold_BadTold : decide (("BadTold" : Str) = "BadTold") = true := by decide +kernel
theorem xd_BadTold_BadNumber : decide (("BadTold" : Str) = "BadNumber") = false := by decide +kernel
theorem xd_BadTold_NoSign : decide (("BadTold" : Str) = "NoSign") = false := by decide +kernel
theorem xd_BadTold_BadText : decide (("BadTold" : Str) = "BadText") = false := by decide +kernel
theorem xd_BadNumber_BadRows : decide (("BadNumber" : Str) = "BadRows") = false := by decide +kernel
theorem xd_BadNumber_BadSign : decide (("BadNumber" : Str) = "BadSign") = false := by decide +kernel
theorem xd_BadNumber_BadTold : decide (("BadNumber" : Str) = "BadTold") = false := by decide +kernel
theorem xd_BadNumber_BadNumber : decide (("BadNumber" : Str) = "BadNumber") = true := by decide +kernel
theorem xd_BadNumber_NoSign : decide (("BadNumber" : Str) = "NoSign") = false := by decide +kernel
theorem xd_BadNumber_BadText : decide (("BadNumber" : Str) = "BadText") = false := by decide +kernel
theorem xd_NoSign_BadRows : decide (("NoSign" : Str) = "BadRows") = false := by decide +kernel
theorem xd_NoSign_BadSign : decide (("NoSign" : Str) = "BadSign") = false := by decide +kernel
theorem xd_NoSign_BadTold : decide (("NoSign" : Str) = "BadTold") = false := by decide +kernel
theorem xd_NoSign_BadNumber : decide (("NoSign" : Str) = "BadNumber") = false := by decide +kernel
theorem xd_NoSign_NoSign : decide (("NoSign" : Str) = "NoSign") = true := by decide +kernel
theorem xd_NoSign_BadText : decide (("NoSign" : Str) = "BadText") = false := by decide +kernel
theorem xd_BadText_BadRows : decide (("BadText" : Str) = "BadRows") = false := by decide +kernel
theorem xd_BadText_BadSign : decide (("BadText" : Str) = "BadSign") = false := by decide +kernel
theorem xd_BadText_BadTold : decide (("BadText" : Str) = "BadTold") = false := by decide +kernel
theorem xd_BadText_BadNumber : decide (("BadText" : Str) = "BadNumber") = false := by decide +kernel
theorem xd_BadText_NoSign : decide (("BadText" : Str) = "NoSign") = false := by decide +kernel
theorem xd_BadText_BadText : decide (("BadText" : Str) = "BadText") = true := by decide +kernel
theorem kd_BadRows : kindOf "BadRows" = "rows" := by decide +kernel
theorem kd_BadSign : kindOf "BadSign" = "sign" := by decide +kernel
theorem kd_BadTold : kindOf "BadTold" = "told" := by decide +kernel
theorem kd_BadNumber : kindOf "BadNumber" = "number" := by decide +kernel
theorem kd_NoSign : kindOf "NoSign" = "none" := by decide +kernel
theorem kd_BadText : kindOf "BadText" = "text" := by decide +kernel
theorem sh_bools (l : List Bool) : Sh 1 (.list (l.map .bool)) := .list (sh_map .bool l)
theorem m__law_refusal (ds : List PyData) (Q : PyData → Prop) (E : Str → Prop) (h : Sp__law_refusal ds Q E) : w__law_refusal (startG ["caught", "kinds"] ds) (endO Q E) := by
  rcases h with ⟨c, rfl, hc, q⟩ | ⟨rfl, q⟩
  · show w__law_refusal [.dat (excD c), .no] _
    refine ⟨_, rfl, _, ⟨rfl, rfl⟩, _, rfl, ?_⟩
    refine Eq.mpr (if_neg Bool.false_ne_true) ?_
    refine ⟨_, rfl, c, rfl, hc, _, rfl, c, rfl, hc, _, rfl, c, rfl, hc, lit_size rfl, ?_⟩
    refine ⟨_, rfl, _, rfl, c, rfl, hc, _, rfl, c, rfl, hc, _, rfl, c, rfl, hc, lit_size rfl, _, ⟨rfl, lit_size rfl⟩, ?_⟩
    refine ⟨_, rfl, _, rfl, _, ⟨rfl, (sh_bools [decide (c = "BadRows"), decide (c = "BadSign"), decide (c = "BadTold"), decide (c = "BadNumber"), decide (c = "NoSign"), decide (c = "BadText")]).ok, (Sh.bool _).ok⟩, _, ⟨rfl, (Sh.int _).ok, (Sh.int _).ok⟩, _, rfl, ?_⟩
    have hs := (sh_bools [decide (c = "BadRows"), decide (c = "BadSign"), decide (c = "BadTold"), decide (c = "BadNumber"), decide (c = "NoSign"), decide (c = "BadText")]).ok
    simp only [xcl, List.mem_cons, List.not_mem_nil, or_false] at hc
    rcases hc with rfl | rfl | rfl | rfl | rfl | rfl
    · simp only [xd_BadRows_BadRows, xd_BadRows_BadSign, xd_BadRows_BadTold, xd_BadRows_BadNumber, xd_BadRows_NoSign, xd_BadRows_BadText] at hs ⊢
      refine Eq.mpr (if_neg Bool.false_ne_true) ⟨_, rfl, "BadRows", rfl, by decide +kernel, _, rfl, ?_⟩
      refine Eq.mpr (if_neg Bool.false_ne_true) ⟨lit_size rfl, _, rfl, _, rfl, _, ⟨0, .bool true, rfl, hs, (Sh.bool _).ok, rfl, rfl, fun m z hm hz => ?_⟩, _, atI_nat (j := 0) rfl, lit_size rfl, ?_⟩
      · exact absurd hm (Nat.not_lt_zero _)
      · unfold refD at q
        rw [kd_BadRows] at q
        exact q
    · simp only [xd_BadSign_BadRows, xd_BadSign_BadSign, xd_BadSign_BadTold, xd_BadSign_BadNumber, xd_BadSign_NoSign, xd_BadSign_BadText] at hs ⊢
      refine Eq.mpr (if_neg Bool.false_ne_true) ⟨_, rfl, "BadSign", rfl, by decide +kernel, _, rfl, ?_⟩
      refine Eq.mpr (if_neg Bool.false_ne_true) ⟨lit_size rfl, _, rfl, _, rfl, _, ⟨1, .bool true, rfl, hs, (Sh.bool _).ok, rfl, rfl, fun m z hm hz => ?_⟩, _, atI_nat (j := 1) rfl, lit_size rfl, ?_⟩
      · match m, hm with
        | 0, _ => cases hz; rfl
      · unfold refD at q
        rw [kd_BadSign] at q
        exact q
    · simp only [xd_BadTold_BadRows, xd_BadTold_BadSign, xd_BadTold_BadTold, xd_BadTold_BadNumber, xd_BadTold_NoSign, xd_BadTold_BadText] at hs ⊢
      refine Eq.mpr (if_neg Bool.false_ne_true) ⟨_, rfl, "BadTold", rfl, by decide +kernel, _, rfl, ?_⟩
      refine Eq.mpr (if_neg Bool.false_ne_true) ⟨lit_size rfl, _, rfl, _, rfl, _, ⟨2, .bool true, rfl, hs, (Sh.bool _).ok, rfl, rfl, fun m z hm hz => ?_⟩, _, atI_nat (j := 2) rfl, lit_size rfl, ?_⟩
      · match m, hm with
        | 0, _ => cases hz; rfl
        | 1, _ => cases hz; rfl
      · unfold refD at q
        rw [kd_BadTold] at q
        exact q
    · simp only [xd_BadNumber_BadRows, xd_BadNumber_BadSign, xd_BadNumber_BadTold, xd_BadNumber_BadNumber, xd_BadNumber_NoSign, xd_BadNumber_BadText] at hs ⊢
      refine Eq.mpr (if_neg Bool.false_ne_true) ⟨_, rfl, "BadNumber", rfl, by decide +kernel, _, rfl, ?_⟩
      refine Eq.mpr (if_neg Bool.false_ne_true) ⟨lit_size rfl, _, rfl, _, rfl, _, ⟨3, .bool true, rfl, hs, (Sh.bool _).ok, rfl, rfl, fun m z hm hz => ?_⟩, _, atI_nat (j := 3) rfl, lit_size rfl, ?_⟩
      · match m, hm with
        | 0, _ => cases hz; rfl
        | 1, _ => cases hz; rfl
        | 2, _ => cases hz; rfl
      · unfold refD at q
        rw [kd_BadNumber] at q
        exact q
    · simp only [xd_NoSign_BadRows, xd_NoSign_BadSign, xd_NoSign_BadTold, xd_NoSign_BadNumber, xd_NoSign_NoSign, xd_NoSign_BadText] at hs ⊢
      refine Eq.mpr (if_neg Bool.false_ne_true) ⟨_, rfl, "NoSign", rfl, by decide +kernel, _, rfl, ?_⟩
      refine Eq.mpr (if_neg Bool.false_ne_true) ⟨lit_size rfl, _, rfl, _, rfl, _, ⟨4, .bool true, rfl, hs, (Sh.bool _).ok, rfl, rfl, fun m z hm hz => ?_⟩, _, atI_nat (j := 4) rfl, lit_size rfl, ?_⟩
      · match m, hm with
        | 0, _ => cases hz; rfl
        | 1, _ => cases hz; rfl
        | 2, _ => cases hz; rfl
        | 3, _ => cases hz; rfl
      · unfold refD at q
        rw [kd_NoSign] at q
        exact q
    · simp only [xd_BadText_BadRows, xd_BadText_BadSign, xd_BadText_BadTold, xd_BadText_BadNumber, xd_BadText_NoSign, xd_BadText_BadText] at hs ⊢
      refine Eq.mpr (if_neg Bool.false_ne_true) ⟨_, rfl, "BadText", rfl, by decide +kernel, _, rfl, ?_⟩
      refine Eq.mpr (if_neg Bool.false_ne_true) ⟨lit_size rfl, _, rfl, _, rfl, _, ⟨5, .bool true, rfl, hs, (Sh.bool _).ok, rfl, rfl, fun m z hm hz => ?_⟩, _, atI_nat (j := 5) rfl, lit_size rfl, ?_⟩
      · match m, hm with
        | 0, _ => cases hz; rfl
        | 1, _ => cases hz; rfl
        | 2, _ => cases hz; rfl
        | 3, _ => cases hz; rfl
        | 4, _ => cases hz; rfl
      · unfold refD at q
        rw [kd_BadText] at q
        exact q
  · show w__law_refusal [.dat .none, .no] _
    exact ⟨_, rfl, _, ⟨rfl, rfl⟩, _, rfl, lit_size rfl, q⟩
theorem sh_str {x : Str} (h : PyData.canLay0 (.str x) = true) : Sh 0 (.str x) := ⟨h, Nat.le_refl _⟩
theorem sh_ref {c : Str} (hc : c ∈ xcl) : Sh 1 (refD c) := .tup fun x hx => by
  rcases List.mem_cons.mp hx with rfl | hx
  · exact sh_str (by decide +kernel)
  · rw [List.mem_singleton.mp hx]
    refine sh_str ?_
    simp only [xcl, List.mem_cons, List.not_mem_nil, or_false] at hc
    rcases hc with rfl | rfl | rfl | rfl | rfl | rfl <;> decide +kernel
end Sg

/-! SemH: small tools for laws with refusals. -/
namespace Sg
open PySem L2 Dt
def Mono (sp : DSp) : Prop := ∀ ds Q Q' E E', (∀ d, Q d → Q' d) → (∀ c, E c → E' c) → sp ds Q E → sp ds Q' E'
theorem ite_mono {c : Prop} [Decidable c] {A A' B B' : Prop} (h1 : A → A') (h2 : B → B') (h : if c then A else B) : if c then A' else B' := by
  by_cases q : c
  · rw [if_pos q] at h ⊢; exact h1 h
  · rw [if_neg q] at h ⊢; exact h2 h
/-! ### alike -/
mutual
theorem eqv_self0 : ∀ d : PyData, PyData.canLay0 d = true → PyData.eqv d d = true
  | .none, _ => rfl
  | .bool b, _ => by rw [eqv_bool]; cases b <;> rfl
  | .int i, _ => by rw [eqv_int]; exact decide_eq_true rfl
  | .str x, _ => by rw [eqv_str]; exact decide_eq_true rfl
  | .list l, h => by
    unfold PyData.canLay0 at h
    unfold PyData.eqv
    exact eqvAll_self0 l h
  | .tuple l, h => by
    unfold PyData.canLay0 at h
    unfold PyData.eqv
    exact eqvAll_self0 l h
  | .dict _, h => by
    unfold PyData.canLay0 at h
    cases h
theorem eqvAll_self0 : ∀ l : List PyData, PyData.canLayAll0 l = true → PyData.eqvAll l l = true
  | [], _ => rfl
  | x :: r, h => by
    have h2 : (PyData.canLay0 x && PyData.canLayAll0 r) = true := h
    rw [Bool.and_eq_true] at h2
    show (PyData.eqv x x && PyData.eqvAll r r) = true
    rw [eqv_self0 x h2.1, eqvAll_self0 r h2.2]
    rfl
end
theorem Sh.self {k : Nat} {d : PyData} (h : Sh k d) : PyData.eqv d d = true := eqv_self0 d h.1
theorem ne_self {x y : PyData} {k : Nat} (h : Sh k x) (e : y = x) : (!PyData.eqv x y) = false := by rw [e, h.self]; rfl
theorem rep_flat {α : Type} (x : α) (m : Nat) : (List.replicate m [x]).flatten = List.replicate m x := by
  induction m with
  | zero => rfl
  | succ m ih => rw [List.replicate_succ, List.flatten_cons, ih, List.replicate_succ]; rfl
theorem mul_l (x : PyData) (m : Nat) (hm : m ≤ 1000000) : MulD (.list [x]) (.int (m : Int)) (.list (List.replicate m x)) := ⟨by rw [Int.toNat_natCast, rep_flat], by omega, by omega, by rw [Int.toNat_natCast]; exact small_size (by show 1 * m ≤ _; omega)⟩
theorem mul_t (x : PyData) (m : Nat) (hm : m ≤ 1000) : MulD (.tuple [x]) (.int (m : Int)) (.tuple (List.replicate m x)) := ⟨by rw [Int.toNat_natCast, rep_flat], (by intro z; cases z), by omega, by omega, by show 1 ≤ 1000; decide⟩
theorem rng_rep {α : Type} (x : α) (n : Nat) : ((List.range n).map fun _ => x) = List.replicate n x := by rw [List.map_const', List.length_range]
theorem sh_rep {k : Nat} {x : PyData} (h : Sh k x) (n : Nat) : Sh (k + 1) (.list (List.replicate n x)) := .list fun y hy => by rw [(List.mem_replicate.mp hy).2]; exact h
theorem s_eq {i k : Nat} (j : Nat) {a b : DS} {Γ : Gm} {K : Out → Gm → Prop} (hg : Γ[i]? = some (.dat (eN k))) (h1 : k = j → a Γ K) (h2 : k ≠ j → b Γ K) : wIfS (wTst (wBin EqD (wVar i) (wC (.int (j : Int))))) a b Γ K := by
  refine ⟨_, hg, _, ⟨rfl, (sh_n _).ok, (Sh.int _).ok⟩, _, rfl, ?_⟩
  rw [show PyData.eqv (eN k) (.int (j : Int)) = decide (k = j) from eqv_n k j]
  by_cases c : k = j
  · rw [decide_eq_true c]; exact h1 c
  · rw [decide_eq_false c]; exact h2 c
theorem s_lt {i k : Nat} (j : Nat) {a b : DS} {Γ : Gm} {K : Out → Gm → Prop} (hg : Γ[i]? = some (.dat (eN k))) (h1 : k < j → a Γ K) (h2 : ¬ k < j → b Γ K) : wIfS (wTst (wBin LtD (wVar i) (wC (.int (j : Int))))) a b Γ K := by
  refine ⟨_, hg, _, rfl, _, rfl, ?_⟩
  by_cases c : k < j
  · rw [decide_eq_true (by omega : (k : Int) < (j : Int))]; exact h1 c
  · rw [decide_eq_false (by omega : ¬ (k : Int) < (j : Int))]; exact h2 c
theorem ref_eq {c k : Str} (h : kindOf c = k) : refD c = .tuple [.str "refused", .str k] := by unfold refD; rw [h]
theorem sh_rf {c : Str} (hc : c ∈ xcl) {k : Str} (h : kindOf c = k) : Sh 1 (.tuple [.str "refused", .str k]) := by rw [← ref_eq h]; exact sh_ref hc
theorem sign_no_len {l : List PyData} {m : Nat} (h : l.length ≠ m) : isSign (.tuple l) (m : Int) = false := by
  show (((l.length : Int) == (m : Int)) && l.all isWord) = false
  rw [show ((l.length : Int) == (m : Int)) = false by rw [beq_eq_false_iff_ne]; omega, Bool.false_and]
theorem sign_no_mem {l : List PyData} {m : Nat} {x : PyData} (hx : x ∈ l) (h : isWord x = false) : isSign (.tuple l) (m : Int) = false := by
  show (((l.length : Int) == (m : Int)) && l.all isWord) = false
  rw [show l.all isWord = false from List.all_eq_false.mpr ⟨x, hx, by rw [h]; exact Bool.false_ne_true⟩, Bool.and_false]
theorem szt_tup {l : List PyData} (h : l.length ≤ 1000) : SzT (.tuple l) := fun l' e => by
  rw [← PyData.tuple.inj e]; exact small_size (by omega)
theorem szt_no {x : PyData} (h : isTup x = false) : SzT x := fun l e => by rw [e] at h; cases h
theorem kR : ("BadRows" : Str) ∈ xcl := by decide +kernel
theorem kS : ("BadSign" : Str) ∈ xcl := by decide +kernel
theorem kT : ("BadTold" : Str) ∈ xcl := by decide +kernel
theorem kN : ("BadNumber" : Str) ∈ xcl := by decide +kernel
theorem map_rep {α : Type} (f : α → PyData) (x : PyData) (l : List α) (n : Nat) (hn : l.length = n) (h : ∀ a, f a = x) : l.map f = List.replicate n x := by
  rw [← hn, ← List.map_const']
  exact List.map_congr_left fun a _ => h a
def foundD (f : PyData) : PyData := .tuple [.str "found", f]
theorem sh_found {k : Nat} {f : PyData} (h : Sh k f) : Sh (k + 1) (foundD f) := .tup fun x hx => by
  rcases List.mem_cons.mp hx with rfl | hx
  · exact (sh_str (by decide +kernel)).up (Nat.zero_le _)
  · rw [List.mem_singleton.mp hx]; exact h
theorem ne_if {x y : PyData} {k : Nat} (h : Sh k x) (e : y = x) {A B : Prop} (hB : B) : if (!PyData.eqv x y) = true then A else B := by rw [ne_self h e]; exact hB
theorem cut_m1 {α : Type} (e : α → PyData) (l : List α) (h : 1 ≤ l.length) : cutD (l.map e) none (some (-1)) = (l.take (l.length - 1)).map e := by
  unfold cutD
  rw [List.length_map]
  show ((l.map e).drop 0).take ((if (-1 : Int) < 0 then ((-1 : Int) + (l.length : Int)).toNat else min (-1 : Int).toNat l.length) - 0) = _
  rw [if_pos (by decide), List.drop_zero, Nat.sub_zero, ← List.map_take, show ((-1 : Int) + (l.length : Int)).toNat = l.length - 1 by omega]
end Sg

/-! Sem50: signs as texts. -/
namespace Sg
open PySem L2 Dt
def g_LETTERS : List (Str × PyData) := ([("high", "1"), ("low", "0"), ("rise", "r"), ("fall", "f")] : List (Str × Str)).map fun q => (q.1, PyData.str q.2)
/-- the letter of a line -/
def ltr : Option Hold → Nat
  | none => 45
  | some .high => 49
  | some .low => 48
  | some .rise => 114
  | some .fall => 102
/-- the line of a letter -/
def unl (c : Nat) : Option (Option Hold) :=
  if c = 45 then some none else if c = 49 then some (some .high) else if c = 48 then some (some .low) else if c = 114 then some (some .rise) else if c = 102 then some (some .fall) else none
theorem unl_ltr (w : Option Hold) : unl (ltr w) = some w := by
  cases w with
  | none => rfl
  | some h => cases h <;> rfl
theorem ltr_unl {c : Nat} {w : Option Hold} (h : unl c = some w) : ltr w = c := by
  unfold unl at h
  by_cases h1 : c = 45
  · rw [if_pos h1] at h; cases h; exact h1.symm
  rw [if_neg h1] at h
  by_cases h2 : c = 49
  · rw [if_pos h2] at h; cases h; exact h2.symm
  rw [if_neg h2] at h
  by_cases h3 : c = 48
  · rw [if_pos h3] at h; cases h; exact h3.symm
  rw [if_neg h3] at h
  by_cases h4 : c = 114
  · rw [if_pos h4] at h; cases h; exact h4.symm
  rw [if_neg h4] at h
  by_cases h5 : c = 102
  · rw [if_pos h5] at h; cases h; exact h5.symm
  rw [if_neg h5] at h
  cases h
def oneS (c : Nat) : Str := ⟨#[c]⟩
def eTx (l : List Nat) : PyData := .str ⟨l.toArray⟩
theorem join_ones : ∀ l : List Nat, Str.join (⟨#[]⟩ : Str) (l.map oneS) = ⟨l.toArray⟩
  | [] => rfl
  | [c] => rfl
  | c :: d :: l => by
    have ih := join_ones (d :: l)
    show oneS c ++ (⟨#[]⟩ : Str) ++ Str.join ⟨#[]⟩ ((d :: l).map oneS) = _
    rw [ih]
    show (⟨#[c] ++ #[] ++ (d :: l).toArray⟩ : Str) = _
    congr 1
    simp
theorem sum_ones : ∀ l : List Nat, ((l.map oneS).map (·.length)).sum = l.length
  | [] => rfl
  | c :: l => by
    show 1 + ((l.map oneS).map (·.length)).sum = l.length + 1
    rw [sum_ones l]; omega
theorem lit1 : ("1" : Str) = oneS 49 := by decide +kernel
theorem lit0 : ("0" : Str) = oneS 48 := by decide +kernel
theorem litr : ("r" : Str) = oneS 114 := by decide +kernel
theorem litf : ("f" : Str) = oneS 102 := by decide +kernel
theorem litd : ("-" : Str) = oneS 45 := by decide +kernel
theorem in_LETTERS (h : Hold) : (h.s, PyData.str (oneS (ltr (some h)))) ∈ g_LETTERS := by
  unfold g_LETTERS
  rw [show ([("high", "1"), ("low", "0"), ("rise", "r"), ("fall", "f")] : List (Str × Str)).map (fun q => (q.1, PyData.str q.2)) = ([("high", .str (oneS 49)), ("low", .str (oneS 48)), ("rise", .str (oneS 114)), ("fall", .str (oneS 102))] : List (Str × PyData)) by rw [← lit1, ← lit0, ← litr, ← litf]; rfl]
  cases h
  · exact .head _
  · exact .tail _ (.head _)
  · exact .tail _ (.tail _ (.head _))
  · exact .tail _ (.tail _ (.tail _ (.head _)))
def Sp_written : DSp := fun ds Q E => ∃ x, ds = [x] ∧ onAny x E fun s => Q (eTx (s.map ltr))
def w_written : DS := (wSq (wEx (wFn Sp_look_any (wCons (wVar 0) wNil)))
  (wRet (wJoin (wC (.str "")) (wLc (wSeq (wVar 0)) (stAll (gdN 1) (wIf (wTst (wBin IsND (wVar 1) (wC .none))) (wC (.str "-")) (wTab g_LETTERS (wVar 1))) [1]) [1]))))
theorem m_written (ds : List PyData) (Q : PyData → Prop) (E : Str → Prop) (h : Sp_written ds Q E) : w_written (startG ["sign", "one"] ds) (endO Q E) := by
  obtain ⟨x, rfl, h⟩ := h
  show w_written [.dat x, .no] _
  refine ⟨x, rfl, x, rfl, onAny_bind h fun s e h1 h2 h3 => ?_⟩
  subst e
  refine ⟨"", rfl, _, rfl, _, rfl, by rw [List.length_map]; exact small_size (by omega), rfl, ?_⟩
  refine lc_all eW (fun w => .str (oneS (ltr w))) s [] (fun w _ k hk => ?_) ?_
  · refine ⟨_, rfl, _, ⟨rfl, rfl⟩, _, rfl, ?_⟩
    cases w with
    | none => exact hk
    | some h => exact ⟨_, rfl, _, _, rfl, in_LETTERS h, hk⟩
  rw [List.nil_append]
  refine ⟨(s.map ltr).map oneS, by rw [List.map_map, List.map_map]; rfl, ?_, ?_⟩
  · rw [sum_ones, List.length_map]
    show s.length + _ * 0 ≤ _
    omega
  · have e : Txt.join "" ((s.map ltr).map oneS) = ⟨(s.map ltr).toArray⟩ := (StrLaws.glued_eq_join _ _).trans (join_ones _)
    rw [e]
    exact h3
/-! ### read -/
def okT (l : List Nat) : Bool := decide (1 ≤ l.length) && (decide (l.length ≤ 5) && l.all fun c => (unl c).isSome)
def rdT (l : List Nat) : Sign := l.map fun c => (unl c).getD none
def kpsW : Kps := [(.inr "1", .str "high"), (.inr "0", .str "low"), (.inr "r", .str "rise"), (.inr "f", .str "fall")]
def Sp_read : DSp := fun ds Q E => ∃ l, ds = [eTx l] ∧ l.length ≤ 1000 ∧ (∀ c ∈ l, c < 1114112) ∧ if okT l = true then Q (eSign (rdT l)) else E "BadText"
theorem one_eq (c d : Nat) : (oneS c = oneS d) ↔ c = d := by
  constructor
  · intro h
    unfold oneS at h
    simpa using h
  · intro h; rw [h]
theorem one_dash (c : Nat) : PyData.eqv (.str (oneS c)) (.str "-") = decide (c = 45) := by
  rw [eqv_str]
  exact decide_eq_decide.mpr (one_eq c 45)
theorem lk_one (c : Nat) : lk kpsW (.inr (oneS c)) = if c = 49 then some (.str "high") else if c = 48 then some (.str "low") else if c = 114 then some (.str "rise") else if c = 102 then some (.str "fall") else none := by
  have key : ∀ d : Nat, ((Sum.inr (oneS d) : Key) = .inr (oneS c)) ↔ c = d := fun d => by
    constructor
    · intro h; exact ((one_eq d c).mp (Sum.inr.inj h)).symm
    · intro h; rw [h]
  show (if (Sum.inr "1" : Key) = .inr (oneS c) then some (PyData.str "high") else if (Sum.inr "0" : Key) = .inr (oneS c) then some (PyData.str "low") else if (Sum.inr "r" : Key) = .inr (oneS c) then some (PyData.str "rise") else if (Sum.inr "f" : Key) = .inr (oneS c) then some (PyData.str "fall") else none) = _
  rw [lit1, lit0, litr, litf]
  simp only [key]
theorem unl_some (c : Nat) : (unl c).isSome = (decide (c = 45) || (lk kpsW (.inr (oneS c))).isSome) := by
  rw [lk_one]
  unfold unl
  by_cases h1 : c = 45
  · rw [if_pos h1, decide_eq_true h1]; rfl
  rw [if_neg h1, decide_eq_false h1, Bool.false_or]
  by_cases h2 : c = 49
  · rw [if_pos h2, if_pos h2]; rfl
  rw [if_neg h2, if_neg h2]
  by_cases h3 : c = 48
  · rw [if_pos h3, if_pos h3]; rfl
  rw [if_neg h3, if_neg h3]
  by_cases h4 : c = 114
  · rw [if_pos h4, if_pos h4]; rfl
  rw [if_neg h4, if_neg h4]
  by_cases h5 : c = 102
  · rw [if_pos h5, if_pos h5]; rfl
  rw [if_neg h5, if_neg h5]
  rfl
theorem unl_lk {c : Nat} (h : (unl c).isSome = true) (hn : c ≠ 45) : lk kpsW (.inr (oneS c)) = some (eW ((unl c).getD none)) := by
  rw [lk_one]
  unfold unl at h ⊢
  rw [if_neg hn] at h ⊢
  by_cases h2 : c = 49
  · rw [if_pos h2, if_pos h2]; rfl
  rw [if_neg h2] at h ⊢
  rw [if_neg h2]
  by_cases h3 : c = 48
  · rw [if_pos h3, if_pos h3]; rfl
  rw [if_neg h3] at h ⊢
  rw [if_neg h3]
  by_cases h4 : c = 114
  · rw [if_pos h4, if_pos h4]; rfl
  rw [if_neg h4] at h ⊢
  rw [if_neg h4]
  by_cases h5 : c = 102
  · rw [if_pos h5, if_pos h5]; rfl
  rw [if_neg h5] at h
  cases h
theorem dget_lk (k : Key) : ∀ kps : Kps, dget (kps.map encK) k = lk kps k
  | [] => rfl
  | p :: r => by
    show (if keyEq (kd p.1) k = true then some p.2 else dget (r.map encK) k) = if p.1 = k then some p.2 else lk r k
    rw [keyEq_kd, dget_lk k r]
    by_cases c : p.1 = k
    · rw [if_pos c, if_pos (decide_eq_true c)]
    · rw [if_neg c, if_neg (by rw [decide_eq_false c]; exact Bool.false_ne_true)]
theorem sh_T {l : List Nat} (h : ∀ c ∈ l, c < 1114112) : Sh 0 (eTx l) := sh_str (by
  show (l.toArray.all fun c => decide (c < 0x110000)) = true
  rw [List.all_toArray, List.all_eq_true]
  exact fun c hc => decide_eq_true (h c hc))
theorem sh_one {c : Nat} (h : c < 1114112) : Sh 0 (.str (oneS c)) := sh_T (l := [c]) fun x hx => by rw [List.mem_singleton.mp hx]; exact h
theorem shaped_dash : SeqAt.shaped (.str "-") = true := by decide +kernel
theorem chD_e (l : List Nat) : chD ⟨l.toArray⟩ = l.map fun c => .str (oneS c) := rfl
theorem len_T (l : List Nat) (h : l.length ≤ 1000000) : LenC [eTx l] (.int (l.length : Int)) := ⟨_, _, rfl, ⟨by show l.toArray.size ≤ sizeLine; rw [List.size_toArray]; exact small_size (by omega), rfl⟩, by show PyData.int _ = .int ((l.toArray.size : Nat) : Int); rw [List.size_toArray]⟩
def w_read : DS := (wSq (wSet 1 (wCall PairC (wCons (wLc (wKs ["high", "low", "rise", "fall"]) (stAll (gdN 2) (wTup (wCons (wTab g_LETTERS (wVar 2)) (wCons (wVar 2) wNil))) [2]) [2]) wNil)))
  (wSq (wIfS (wtOr (wtNot (wTst (wChain LeD LeD (wC (.int 1)) (wCall LenC (wCons (wVar 0) wNil)) (wC (.int 5))))) (wtNot (wTru (wCall AllC (wCons (wLc (wStr (wVar 0)) (stAll (gdN 3) (wOr (wBin EqD (wVar 3) (wC (.str "-"))) (wDIn false (wVar 3) (wVar 1))) [3]) [3]) wNil))))) (wRaise "BadText") wNx)
  (wRet (wCall TupC (wCons (wLc (wStr (wVar 0)) (stAll (gdN 3) (wIf (wTst (wBin EqD (wVar 3) (wC (.str "-")))) (wC .none) (wDGet (wVar 1) (wVar 3))) [3]) [3]) wNil)))))
theorem m_read (ds : List PyData) (Q : PyData → Prop) (E : Str → Prop) (h : Sp_read ds Q E) : w_read (startG ["text", "words", "one", "sign"] ds) (endO Q E) := by
  obtain ⟨l, rfl, hl, hc0, q⟩ := h
  show w_read [.dat (eTx l), .no, .no, .no] _
  refine ⟨lit_size rfl, rfl, ?_⟩
  refine lc_all eH (fun h => .tuple [.str (oneS (ltr (some h))), eH h]) [.high, .low, .rise, .fall] [] (fun h _ k hk => ?_) ?_
  · exact ⟨_, rfl, _, _, rfl, in_LETTERS h, _, rfl, lit_size rfl, hk⟩
  refine ⟨eD kpsW, ⟨kpsW, ?_, by decide +kernel, rfl⟩, ?_⟩
  · unfold kpsW
    rw [lit1, lit0, litr, litf]
    rfl
  have bad : okT l = false → E "BadText" := fun z => by rw [if_neg (by rw [z]; exact Bool.false_ne_true)] at q; exact q
  refine ⟨_, rfl, _, len_T l (by omega), _, rfl, ?_⟩
  refine iteB (fun h1 => ?_) (fun h1 => ?_)
  rotate_left
  · exact ⟨_, rfl, bad (by unfold okT; rw [show decide (1 ≤ l.length) = false by have := of_decide_eq_false h1; exact decide_eq_false (by omega), Bool.false_and])⟩
  have h1 := of_decide_eq_true h1
  refine ⟨_, rfl, _, rfl, ?_⟩
  refine iteB (fun h2 => ?_) (fun h2 => ?_)
  · rw [Bool.not_eq_true'] at h2
    have h2 := of_decide_eq_false h2
    exact bad (by unfold okT; rw [show decide (l.length ≤ 5) = false from decide_eq_false (by omega), Bool.false_and, Bool.and_false])
  rw [Bool.not_eq_false'] at h2
  have h2 := of_decide_eq_true h2
  refine ⟨_, rfl, _, rfl, ?_⟩
  rw [chD_e]
  refine ⟨by rw [List.length_map]; exact small_size (by omega), rfl, ?_⟩
  refine lc_all (fun c => .str (oneS c)) (fun c => .bool (unl c).isSome) l [] (fun c hc k hk => ?_) ?_
  · refine ⟨_, rfl, _, ⟨rfl, (sh_one (hc0 c hc)).ok, shaped_dash⟩, _, rfl, ?_⟩
    rw [one_dash]
    rw [unl_some] at hk
    refine iteB (fun z => ?_) (fun z => ?_)
    · rw [z] at hk ⊢; rw [Bool.true_or] at hk; exact hk
    · rw [z, Bool.false_or] at hk
      refine ⟨_, rfl, _, rfl, kpsW, .inr (oneS c), rfl, rfl, ?_⟩
      rw [Bool.false_xor]
      exact hk
  refine ⟨_, ⟨l.map fun c => (unl c).isSome, by rw [List.nil_append, allB], rfl⟩, _, rfl, ?_⟩
  rw [all_id]
  have eo : okT l = l.all fun c => (unl c).isSome := by unfold okT; rw [show decide (1 ≤ l.length) = true from decide_eq_true (by omega), show decide (l.length ≤ 5) = true from decide_eq_true (by omega), Bool.true_and, Bool.true_and]
  refine iteB (fun h3 => ?_) (fun h3 => ?_)
  · rw [Bool.not_eq_true'] at h3
    exact bad (by rw [eo]; exact h3)
  rw [Bool.not_eq_false'] at h3
  rw [if_pos (by rw [eo]; exact h3)] at q
  refine ⟨_, rfl, _, rfl, ?_⟩
  rw [chD_e]
  refine ⟨by rw [List.length_map]; exact small_size (by omega), rfl, ?_⟩
  refine lc_all (fun c => .str (oneS c)) (fun c => eW ((unl c).getD none)) l [] (fun c hc k hk => ?_) ?_
  · refine ⟨_, rfl, _, ⟨rfl, (sh_one (hc0 c hc)).ok, shaped_dash⟩, _, rfl, ?_⟩
    rw [one_dash]
    refine iteB (fun z => ?_) (fun z => ?_)
    · rw [of_decide_eq_true z] at hk; exact hk
    · refine ⟨_, rfl, _, rfl, _, .inr (oneS c), _, rfl, rfl, ?_, hk⟩
      rw [dget_lk]
      exact unl_lk (List.all_eq_true.mp h3 c hc) (of_decide_eq_false z)
  rw [List.nil_append]
  have e : PyData.tuple (l.map fun c => eW ((unl c).getD none)) = eSign (rdT l) := by unfold eSign rdT; rw [List.map_map]; rfl
  refine ⟨_, ⟨_, .inl rfl, rfl⟩, ?_⟩
  rw [e]
  exact q
end Sg

/-! Law50: the law of texts. -/
namespace Sg
open PySem L2 Dt
theorem mono_read : Mono Sp_read := fun ds Q Q' E E' hQ hE ⟨l, e, h1, h2, h⟩ => ⟨l, e, h1, h2, ite_mono (hQ _) (hE _) h⟩
theorem mono_written : Mono Sp_written := fun ds Q Q' E E' hQ hE ⟨x, e, h⟩ => ⟨x, e, h.1, ite_mono (fun z => hQ _ z) (hE _) h.2⟩
def Sp__law_told : DSp := fun ds Q _ => ∃ kind x, ds = [eN kind, x] ∧ (kind = 0 → Sp_read [x] (fun f => Q (foundD f)) fun c => c ∈ xcl ∧ Q (refD c)) ∧ (kind ≠ 0 → Sp_written [x] (fun f => Q (foundD f)) fun c => c ∈ xcl ∧ Q (refD c))
def w__law_told : DS := (wSq (wSet 2 (wC .none))
  (wSq (wSet 3 (wC .none))
  (wSq (wTry ["BadRows", "BadSign", "BadTold", "BadNumber", "NoSign", "BadText"] 4 2 (wSet 3 (wIf (wTst (wBin EqD (wVar 0) (wC (.int 0)))) (wFn Sp_read (wCons (wVar 1) wNil)) (wFn Sp_written (wCons (wVar 1) wNil)))))
  (wRet (wIf (wTst (wBin IsND (wVar 2) (wC .none))) (wTup (wCons (wC (.str "found")) (wCons (wVar 3) wNil))) (wFn Sp__law_refusal (wCons (wVar 2) wNil)))))))
theorem m__law_told (ds : List PyData) (Q : PyData → Prop) (E : Str → Prop) (h : Sp__law_told ds Q E) : w__law_told (startG ["kind", "thing", "caught", "found", "e"] ds) (endO Q E) := by
  obtain ⟨kind, x, rfl, h0, h1⟩ := h
  show w__law_told [.dat (eN kind), .dat x, .no, .no, .no] _
  refine ⟨_, rfl, _, ⟨rfl, (sh_n _).ok, (Sh.int _).ok⟩, _, rfl, ?_⟩
  rw [show PyData.eqv (eN kind) (.int 0) = decide (kind = 0) from eqv_n kind 0]
  refine iteB (fun c => ?_) (fun c => ?_)
  · refine ⟨x, rfl, ?_⟩
    unfold wNil
    refine mono_read _ _ _ _ _ (fun f hf => ?_) (fun c hc => ?_) (h0 (of_decide_eq_true c))
    · exact ⟨_, rfl, _, ⟨rfl, rfl⟩, _, rfl, _, rfl, lit_size rfl, hf⟩
    · exact ⟨hc.1, by show 4 < 5; decide, _, rfl, _, ⟨rfl, rfl⟩, _, rfl, _, rfl, .inl ⟨c, rfl, hc.1, hc.2⟩⟩
  · refine ⟨x, rfl, ?_⟩
    unfold wNil
    refine mono_written _ _ _ _ _ (fun f hf => ?_) (fun c hc => ?_) (h1 (of_decide_eq_false c))
    · exact ⟨_, rfl, _, ⟨rfl, rfl⟩, _, rfl, _, rfl, lit_size rfl, hf⟩
    · exact ⟨hc.1, by show 4 < 5; decide, _, rfl, _, ⟨rfl, rfl⟩, _, rfl, _, rfl, .inl ⟨c, rfl, hc.1, hc.2⟩⟩
/-! ### small things -/
theorem kX : ("BadText" : Str) ∈ xcl := by decide +kernel
theorem okT_ltr {s : Sign} (h1 : 1 ≤ s.length) (h2 : s.length ≤ 5) : okT (s.map ltr) = true := by
  unfold okT
  rw [List.length_map, decide_eq_true h1, decide_eq_true h2, Bool.true_and, Bool.true_and, List.all_eq_true]
  intro c hc
  obtain ⟨w, _, rfl⟩ := List.mem_map.mp hc
  rw [unl_ltr]
  rfl
theorem rd_ltr (s : Sign) : rdT (s.map ltr) = s := by
  unfold rdT
  rw [List.map_map]
  refine (List.map_congr_left fun w _ => ?_).trans (List.map_id s)
  show (unl (ltr w)).getD none = id w
  rw [unl_ltr]
  rfl
theorem ltr_lt (w : Option Hold) : ltr w < 1114112 := by
  cases w with
  | none => decide
  | some h => cases h <;> decide
theorem lts_lt (s : Sign) : ∀ c ∈ s.map ltr, c < 1114112 := fun c hc => by
  obtain ⟨w, _, rfl⟩ := List.mem_map.mp hc
  exact ltr_lt w
def wordsL : List (Option Hold) := [some .high, some .low, some .rise, some .fall, none]
def wIx : Option Hold → Nat
  | some .high => 0
  | some .low => 1
  | some .rise => 2
  | some .fall => 3
  | none => 4
theorem idx_word (w : Option Hold) : IdxL (wordsL.map eW) (eW w) (eN (wIx w)) := by
  refine ⟨wIx w, eW w, rfl, (Sh.list (sh_map sh_w wordsL)).ok, (sh_w w).ok, ?_, ?_, ?_⟩
  · cases w with
    | none => rfl
    | some h => cases h <;> rfl
  · exact (sh_w w).self
  · intro m z' hm hz
    rw [List.getElem?_map] at hz
    cases q : wordsL[m]? with
    | none => rw [q] at hz; cases hz
    | some v =>
      rw [q] at hz
      cases hz
      rw [eqv_w]
      refine decide_eq_false fun e => ?_
      subst e
      have : ∀ m < wIx v, wordsL[m]? ≠ some v := by
        cases v with
        | none => decide
        | some h => cases h <;> decide
      exact this m hm q
theorem ix_letter (w : Option Hold) : IxD (.str "10rf-") (eN (wIx w)) (.str (oneS (ltr w))) := by
  refine ⟨by decide +kernel, ltr w, ?_, rfl⟩
  cases w with
  | none => decide +kernel
  | some h => cases h <;> decide +kernel
theorem occ_letter {c : Nat} (h : (unl c).isSome = true) : ∃ rest, Builtin.Str.occurrences "10rf-" (oneS c) 0 (Str.length "10rf-") 1 = wIx ((unl c).getD none) :: rest ∧ IxD (.list (wordsL.map eW)) (eN (wIx ((unl c).getD none))) (eW ((unl c).getD none)) := by
  obtain ⟨w, hw⟩ := Option.isSome_iff_exists.mp h
  have hc := ltr_unl hw
  rw [hw]
  subst hc
  show ∃ rest, Builtin.Str.occurrences "10rf-" (oneS (ltr w)) 0 (Str.length "10rf-") 1 = wIx w :: rest ∧ IxD (.list (wordsL.map eW)) (eN (wIx w)) (eW w)
  cases w with
  | none => exact ⟨[], by decide +kernel, rfl⟩
  | some g => cases g <;> exact ⟨[], by decide +kernel, rfl⟩
theorem mem_letter (c : Nat) : decide (c ∈ ("10rf-" : Str).cps.toList) = (unl c).isSome := by
  have e : ("10rf-" : Str).cps.toList = [49, 48, 114, 102, 45] := by decide +kernel
  rw [e, Bool.eq_iff_iff, decide_eq_true_eq]
  simp only [List.mem_cons, List.not_mem_nil, or_false]
  constructor
  · intro z
    rcases z with rfl | rfl | rfl | rfl | rfl <;> rfl
  · intro z
    obtain ⟨w, hw⟩ := Option.isSome_iff_exists.mp z
    have hc := ltr_unl hw
    subst hc
    cases w with
    | none => simp [ltr]
    | some h => cases h <;> simp [ltr]
end Sg

/-! Law50b: the law. -/
namespace Sg
open PySem L2 Dt
theorem bad_any {x : PyData} {E : Str → Prop} {k : Sign → Prop} (hz : SzT x) (h : isAny x = false) (hE : E "BadSign") : onAny x E k := ⟨hz, by rw [if_neg (by rw [h]; exact Bool.false_ne_true)]; exact hE⟩
theorem any_no_mem {l : List PyData} {x : PyData} (hx : x ∈ l) (h : isWord x = false) : isAny (.tuple l) = false := by
  show (decide (1 ≤ (l.length : Int)) && decide ((l.length : Int) ≤ 5) && l.all isWord) = false
  rw [show l.all isWord = false from List.all_eq_false.mpr ⟨x, hx, by rw [h]; exact Bool.false_ne_true⟩, Bool.and_false]
def cutL (l : List Nat) (lo hi : Option Int) : List Nat := (l.drop (HT.sIx l.length 0 lo)).take (HT.sIx l.length l.length hi - HT.sIx l.length 0 lo)
theorem cut_T (l : List Nat) (lo hi : Option Int) : cutS ⟨l.toArray⟩ lo hi = ⟨(cutL l lo hi).toArray⟩ := by
  have e : Str.length ⟨l.toArray⟩ = l.length := List.size_toArray
  unfold cutS cutL
  rw [e]
theorem cut_len (l : List Nat) (lo hi : Option Int) : (cutL l lo hi).length ≤ l.length := by
  unfold cutL
  rw [List.length_take, List.length_drop]
  omega
theorem cut_mem {l : List Nat} {lo hi : Option Int} {c : Nat} (h : c ∈ cutL l lo hi) : c ∈ l := List.mem_of_mem_drop (List.mem_of_mem_take h)
theorem sl_T (l : List Nat) (lo hi : Option Int) (h : l.length ≤ 1000) : SlD (eTx l) lo hi (eTx (cutL l lo hi)) := by
  refine ⟨by show l.toArray.size ≤ _; rw [List.size_toArray]; exact small_size (by omega), ?_⟩
  unfold eTx
  rw [cut_T]
theorem add_T (a b : List Nat) (h1 : a.length ≤ 1000) (h2 : b.length ≤ 1000) : AddD (eTx a) (eTx b) (eTx (a ++ b)) := by
  refine ⟨?_, ?_⟩
  · unfold eTx
    congr 1
    show (⟨(a ++ b).toArray⟩ : Str) = ⟨a.toArray ++ b.toArray⟩
    congr 1
    simp
  · show a.toArray.size + b.toArray.size ≤ _
    rw [List.size_toArray, List.size_toArray]
    exact small_size (by omega)
theorem eq_T (l : List Nat) : PyData.eqv (eTx l) (eTx l) = true := by
  unfold eTx
  rw [eqv_str]
  exact decide_eq_true rfl
theorem eqv_nilM2 {α : Type} (f : α → PyData) (l : List α) [Decidable (l = [])] : PyData.eqv (.list (l.map f)) (.list []) = decide (l = []) := by
  have e : PyData.eqv (.list (l.map f)) (.list []) = decide (l.map f = []) := by cases l <;> rfl
  rw [e]
  exact decide_eq_decide.mpr List.map_eq_nil_iff
def w_law_7 : DS := (wSq (wSet 11 (wLst (wCons (wTup wNil) (wCons (wBin MulD (wTup (wCons (wC .none) wNil)) (wC (.int 6))) (wCons (wCall LstC (wCons (wVar 4) wNil)) (wCons (wC .none) (wCons (wTup (wCons (wC (.str "r")) wNil)) (wCons (wTup (wCons (wC (.int 1)) wNil)) (wCons (wBin AddD (wTup (wCons (wC (.bool true)) wNil)) (wSl (wVar 4) (wPart (wC (.int 1))) wNone)) wNil)))))))))
  (wRet (wBin EqD (wLc (wSeq (wVar 11)) (stAll (gdN 12) (wFn Sp__law_told (wCons (wC (.int 1)) (wCons (wVar 12) wNil))) [12]) [12]) (wBin MulD (wLst (wCons (wTup (wCons (wC (.str "refused")) (wCons (wC (.str "sign")) wNil))) wNil)) (wC (.int 7))))))
theorem m_7 {s : Sign} {N : Nat} {x2 x3 x5 x6 x7 x8 x9 x10 : Sl} (h1 : 1 ≤ s.length) (h5 : s.length ≤ 5) :
    w_law_7 [.scr, .twn N, x2, x3, .dat (eSign s), x5, x6, x7, x8, x9, x10, .no, .no] endL := by
  have shS := sh_rf kS kd_BadSign
  refine ⟨Nat.zero_le _, lit_size rfl, _, mul_t .none 6 (by decide), _, rfl, _, ⟨_, .inr rfl, rfl⟩, lit_size rfl, lit_size rfl, lit_size rfl, _, rfl, 1, rfl, _, rfl, _, ⟨rfl, ?_⟩, lit_size rfl, ?_⟩
  · refine small_size ?_
    unfold cutD
    rw [List.length_take, List.length_drop, List.length_map]
    show 1 + _ ≤ _
    omega
  refine ⟨_, rfl, _, rfl, lit_size rfl, rfl, ?_⟩
  refine lc_all (fun d => d) (fun _ => refD "BadSign") [.tuple [], .tuple (List.replicate 6 .none), .list (s.map eW), .none, .tuple [.str "r"], .tuple [.int 1], .tuple ([.bool true] ++ cutD (s.map eW) (some 1) none)] [] (fun x hx k hk => ?_) ?_
  · have hx2 : SzT x ∧ isAny x = false := by
      have dl : (cutD (s.map eW) (some 1) none).length ≤ 5 := by
        unfold cutD
        rw [List.length_take, List.length_drop, List.length_map]
        omega
      rcases List.mem_cons.mp hx with rfl | hx
      · exact ⟨szt_tup (Nat.zero_le _), rfl⟩
      rcases List.mem_cons.mp hx with rfl | hx
      · exact ⟨szt_tup (by decide), rfl⟩
      rcases List.mem_cons.mp hx with rfl | hx
      · exact ⟨szt_no rfl, rfl⟩
      rcases List.mem_cons.mp hx with rfl | hx
      · exact ⟨szt_no rfl, rfl⟩
      rcases List.mem_cons.mp hx with rfl | hx
      · exact ⟨szt_tup (by decide), any_no_mem (x := .str "r") List.mem_cons_self (by decide +kernel)⟩
      rcases List.mem_cons.mp hx with rfl | hx
      · exact ⟨szt_tup (by decide), any_no_mem (x := .int 1) List.mem_cons_self rfl⟩
      rcases List.mem_cons.mp hx with rfl | hx
      · exact ⟨szt_tup (by rw [List.length_append]; show 1 + _ ≤ _; omega), any_no_mem (x := .bool true) List.mem_cons_self rfl⟩
      · cases hx
    exact ⟨_, rfl, 1, x, rfl, fun z => absurd z (by decide), fun _ => ⟨x, rfl, bad_any hx2.1 hx2.2 ⟨kS, hk⟩⟩⟩
  rw [List.nil_append, map_rep _ _ _ 7 rfl (fun _ => rfl), ref_eq kd_BadSign]
  refine ⟨lit_size rfl, lit_size rfl, _, mul_l _ 7 (by decide), _, ⟨rfl, (sh_rep shS 7).ok, (sh_rep shS 7).ok⟩, ?_⟩
  exact congrArg PyData.bool (sh_rep shS 7).self
def dueT (l : List Nat) : PyData := if okT l = true then foundD (eSign (rdT l)) else .tuple [.str "refused", .str "text"]
def altS : List Str := ["", "", "r", "-"]
theorem put_ok (c : Nat) (hc : c < 1114112) (j : Nat) (hj : j < 5) : ∃ p : List Nat, IxD (.list [.str "", .str "", .str "r", .str "-", .str ⟨#[c]⟩]) (eN j) (eTx p) ∧ p.length ≤ 1 ∧ ∀ x ∈ p, x < 1114112 := by
  match j, hj with
  | 0, _ => exact ⟨[], rfl, by decide, fun x hx => by cases hx⟩
  | 1, _ => exact ⟨[], rfl, by decide, fun x hx => by cases hx⟩
  | 2, _ => exact ⟨[114], by show atI _ _ = _; rw [show eTx [114] = .str "r" from congrArg PyData.str litr.symm]; rfl, by decide, fun x hx => by rw [List.mem_singleton.mp hx]; decide⟩
  | 3, _ => exact ⟨[45], by show atI _ _ = _; rw [show eTx [45] = .str "-" from congrArg PyData.str litd.symm]; rfl, by decide, fun x hx => by rw [List.mem_singleton.mp hx]; decide⟩
  | 4, _ => exact ⟨[c], rfl, by show 1 ≤ 1; decide, fun x hx => by rw [List.mem_singleton.mp hx]; exact hc⟩
def someS : Str := "0123456789-rf abcdeghijklmnopqstuvwxyzABXYZRF._,\n\t"
theorem some_len : someS.length = 50 := by decide +kernel
theorem some_lt : ∀ c ∈ someS.cps.toList, c < 1114112 := by decide +kernel
theorem some_ix {d : Int} (h0 : 0 ≤ d) (h1 : d < 50) : ∃ c, c < 1114112 ∧ IxD (.str someS) (.int d) (.str ⟨#[c]⟩) := by
  obtain ⟨j, rfl⟩ : ∃ j : Nat, d = (j : Int) := ⟨d.toNat, by omega⟩
  have hl : someS.cps.toList.length = 50 := some_len
  have hj : j < someS.cps.toList.length := by omega
  refine ⟨someS.cps.toList[j], some_lt _ (List.getElem_mem hj), ?_⟩
  exact ⟨by rw [some_len]; exact lit_size rfl, _, atI_nat (List.getElem?_eq_getElem hj), rfl⟩
theorem sh_due {l : List Nat} : Sh 2 (dueT l) := by
  unfold dueT
  by_cases c : okT l = true
  · rw [if_pos c]; exact sh_found (sh_sign _)
  · rw [if_neg c]; exact (sh_rf kX kd_BadText).up (by decide)
/-- one bent text -/
theorem step50 {l : List Nat} {N : Nat} {x2 x4 x6 x7 x8 x9 x10 : Sl} {K2 : Out → Gm → Prop} (hl : l.length ≤ 1000) (hc : ∀ c ∈ l, c < 1114112)
    (hk : ∀ x10 : Sl, K2 .nx [.scr, .twn N, x2, .dat (.list (wordsL.map eW)), x4, .dat (eTx l), x6, x7, x8, x9, x10, .no, .no]) :
    (wSq (wSet 10 (wTup (wCons (wC (.str "refused")) (wCons (wC (.str "text")) wNil))))
  (wSq (wIfS (wtAnd (wTst (wChain LtD LtD (wC (.int 0)) (wCall LenC (wCons (wVar 5) wNil)) (wC (.int 6)))) (wTst (wBin EqD (wLc (wStr (wVar 5)) (stIf (gdN 12) (wTst (wBin (InS true) (wVar 12) (wC (.str "10rf-")))) (wVar 12) [12]) [12]) (wLst wNil)))) (wSet 10 (wTup (wCons (wC (.str "found")) (wCons (wCall TupC (wCons (wLc (wStr (wVar 5)) (stAll (gdN 12) (wBin IxD (wVar 3) (wSIdx (wC (.str "10rf-")) (wVar 12))) [12]) [12]) wNil)) wNil)))) wNx)
  (wIfS (wTst (wBin NeD (wFn Sp__law_told (wCons (wC (.int 0)) (wCons (wVar 5) wNil))) (wVar 10))) (wRet (wC (.bool false))) wNx))) [.scr, .twn N, x2, .dat (.list (wordsL.map eW)), x4, .dat (eTx l), x6, x7, x8, x9, x10, .no, .no] K2 := by
  have fin : wIfS (wTst (wBin NeD (wFn Sp__law_told (wCons (wC (.int 0)) (wCons (wVar 5) wNil))) (wVar 10))) (wRet (wC (.bool false))) wNx [.scr, .twn N, x2, .dat (.list (wordsL.map eW)), x4, .dat (eTx l), x6, x7, x8, x9, .dat (dueT l), .no, .no] K2 := by
    refine ⟨_, rfl, 0, _, rfl, fun _ => ⟨l, rfl, hl, hc, ?_⟩, fun z => absurd rfl z⟩
    have key : _root_.id (∃ d, NeD (dueT l) (dueT l) d ∧ ∃ b, d = .bool b ∧ if b = true then wRet (wC (.bool false)) [.scr, .twn N, x2, .dat (.list (wordsL.map eW)), x4, .dat (eTx l), x6, x7, x8, x9, .dat (dueT l), .no, .no] K2 else wNx [.scr, .twn N, x2, .dat (.list (wordsL.map eW)), x4, .dat (eTx l), x6, x7, x8, x9, .dat (dueT l), .no, .no] K2) := ⟨_, ⟨rfl, sh_due.ok, sh_due.ok⟩, _, rfl, ne_if sh_due rfl (hk _)⟩
    unfold dueT at key ⊢
    by_cases c : okT l = true
    · rw [if_pos c] at key ⊢
      exact ⟨_, rfl, by rw [if_pos c]; exact key⟩
    · rw [if_neg c] at key ⊢
      refine ⟨kX, ?_⟩
      rw [ref_eq kd_BadText]
      exact ⟨_, rfl, by rw [if_neg c]; exact key⟩
  have no : okT l = false → wIfS (wTst (wBin NeD (wFn Sp__law_told (wCons (wC (.int 0)) (wCons (wVar 5) wNil))) (wVar 10))) (wRet (wC (.bool false))) wNx [.scr, .twn N, x2, .dat (.list (wordsL.map eW)), x4, .dat (eTx l), x6, x7, x8, x9, .dat (.tuple [.str "refused", .str "text"]), .no, .no] K2 := fun z => by
    have e : dueT l = .tuple [.str "refused", .str "text"] := by unfold dueT; rw [if_neg (by rw [z]; exact Bool.false_ne_true)]
    rw [← e]
    exact fin
  refine ⟨lit_size rfl, ?_⟩
  refine ⟨_, rfl, _, len_T l (by omega), _, rfl, ?_⟩
  refine iteB (fun h1 => ?_) (fun h1 => ?_)
  rotate_left
  · have h1 := of_decide_eq_false h1
    exact ⟨_, rfl, no (by unfold okT; rw [show decide (1 ≤ l.length) = false from decide_eq_false (by omega), Bool.false_and])⟩
  have h1 := of_decide_eq_true h1
  refine ⟨_, rfl, _, rfl, ?_⟩
  refine iteB (fun h2 => ?_) (fun h2 => ?_)
  rotate_left
  · have h2 := of_decide_eq_false h2
    exact no (by unfold okT; rw [show decide (l.length ≤ 5) = false from decide_eq_false (by omega), Bool.false_and, Bool.and_false])
  have h2 := of_decide_eq_true h2
  have eo : okT l = l.all fun c => (unl c).isSome := by unfold okT; rw [show decide (1 ≤ l.length) = true from decide_eq_true (by omega), show decide (l.length ≤ 5) = true from decide_eq_true (by omega), Bool.true_and, Bool.true_and]
  refine ⟨_, rfl, _, rfl, ?_⟩
  rw [chD_e]
  refine ⟨by rw [List.length_map]; exact small_size (by omega), rfl, ?_⟩
  refine lc_if (fun c => .str (oneS c)) (fun c => !(unl c).isSome) (fun c => .str (oneS c)) l [] (fun c hc k hk => ?_) ?_
  · refine ⟨_, rfl, _, ⟨c, _, rfl, rfl, rfl⟩, _, rfl, ?_⟩
    rw [Bool.true_xor, mem_letter]
    refine iteB (fun z => ?_) (fun z => ?_)
    · rw [if_pos z] at hk; exact ⟨_, rfl, hk⟩
    · rw [if_neg (by rw [z]; exact Bool.false_ne_true)] at hk; exact hk
  rw [List.nil_append]
  refine ⟨Nat.zero_le _, _, ⟨rfl, (Sh.list (k := 0) fun x hx => ?_).ok, sh_nil.ok⟩, _, rfl, ?_⟩
  · obtain ⟨c, hc2, rfl⟩ := List.mem_map.mp hx
    exact sh_one (hc c (List.mem_filter.mp hc2).1)
  rw [eqv_nilM2]
  refine iteB (fun h3 => ?_) (fun h3 => ?_)
  rotate_left
  · refine no ?_
    rw [eo]
    have h3 := of_decide_eq_false h3
    cases z : l.all fun c => (unl c).isSome with
    | false => rfl
    | true =>
      exfalso
      refine h3 (List.filter_eq_nil_iff.mpr fun c hc q => ?_)
      rw [List.all_eq_true.mp z c hc] at q
      exact Bool.false_ne_true q
  have h3 : ∀ c ∈ l, (unl c).isSome = true := fun c hc => by
    have := List.filter_eq_nil_iff.mp (of_decide_eq_true h3) c hc
    rw [Bool.not_eq_true', Bool.not_eq_false] at this
    exact this
  have hok : okT l = true := by rw [eo]; exact List.all_eq_true.mpr h3
  refine ⟨_, rfl, _, rfl, ?_⟩
  rw [chD_e]
  refine ⟨by rw [List.length_map]; exact small_size (by omega), rfl, ?_⟩
  refine lc_all (fun c => .str (oneS c)) (fun c => eW ((unl c).getD none)) l [] (fun c hc k hk => ?_) ?_
  · obtain ⟨rest, o1, o2⟩ := occ_letter (h3 c hc)
    exact ⟨_, rfl, _, rfl, _, rfl, _, _, rest, rfl, o1, _, o2, hk⟩
  rw [List.nil_append]
  have e : PyData.tuple (l.map fun c => eW ((unl c).getD none)) = eSign (rdT l) := by unfold eSign rdT; rw [List.map_map]; rfl
  refine ⟨_, ⟨_, .inl rfl, rfl⟩, lit_size rfl, ?_⟩
  rw [e]
  have e2 : dueT l = .tuple [.str "found", eSign (rdT l)] := by unfold dueT; rw [if_pos hok]; rfl
  rw [e2] at fin
  exact fin
end Sg

/-! Law50c: the law from its start. -/
namespace Sg
open PySem L2 Dt
theorem ixI {ns : List Int} {j : Nat} (h : j < ns.length) : ∃ x, x ∈ ns ∧ IxD (.list (ns.map .int)) (eN j) (.int x) := by
  refine ⟨ns[j], List.getElem_mem h, atI_nat ?_⟩
  rw [List.getElem?_map, List.getElem?_eq_getElem h]
  rfl
def w_law_5 : DS := (wSq (wSet 6 (wC (.str "0123456789-rf abcdeghijklmnopqstuvwxyzABXYZRF._,\n\t")))
  (wSq (wFor (wRng Rng1 (wCons (wC (.int 2)) wNil)) (gdN 7) (wSq (wSet 8 (wFnT 0 1 Sp__law_draw (wCons (wBin AddD (wCall LenC (wCons (wVar 5) wNil)) (wC (.int 1))) wNil)))
  (wSq (wSet 9 (wBin IxD (wLst (wCons (wC (.str "")) (wCons (wC (.str "")) (wCons (wC (.str "r")) (wCons (wC (.str "-")) (wCons (wBin IxD (wVar 6) (wFnT 0 1 Sp__law_draw (wCons (wCall LenC (wCons (wVar 6) wNil)) wNil))) wNil)))))) (wBin IxD (wVar 2) (wVar 7))))
  (wSq (wSet 5 (wBin AddD (wBin AddD (wSl (wVar 5) wNone (wPart (wVar 8))) (wVar 9)) (wSl (wVar 5) (wPart (wBin AddD (wVar 8) (wBin ModD (wBin IxD (wVar 2) (wBin AddD (wVar 7) (wC (.int 2)))) (wC (.int 2))))) wNone)))
  (wSq (wSet 10 (wTup (wCons (wC (.str "refused")) (wCons (wC (.str "text")) wNil))))
  (wSq (wIfS (wtAnd (wTst (wChain LtD LtD (wC (.int 0)) (wCall LenC (wCons (wVar 5) wNil)) (wC (.int 6)))) (wTst (wBin EqD (wLc (wStr (wVar 5)) (stIf (gdN 12) (wTst (wBin (InS true) (wVar 12) (wC (.str "10rf-")))) (wVar 12) [12]) [12]) (wLst wNil)))) (wSet 10 (wTup (wCons (wC (.str "found")) (wCons (wCall TupC (wCons (wLc (wStr (wVar 5)) (stAll (gdN 12) (wBin IxD (wVar 3) (wSIdx (wC (.str "10rf-")) (wVar 12))) [12]) [12]) wNil)) wNil)))) wNx)
  (wIfS (wTst (wBin NeD (wFn Sp__law_told (wCons (wC (.int 0)) (wCons (wVar 5) wNil))) (wVar 10))) (wRet (wC (.bool false))) wNx)))))))
  (wSq (wSet 11 (wLst (wCons (wTup wNil) (wCons (wBin MulD (wTup (wCons (wC .none) wNil)) (wC (.int 6))) (wCons (wCall LstC (wCons (wVar 4) wNil)) (wCons (wC .none) (wCons (wTup (wCons (wC (.str "r")) wNil)) (wCons (wTup (wCons (wC (.int 1)) wNil)) (wCons (wBin AddD (wTup (wCons (wC (.bool true)) wNil)) (wSl (wVar 4) (wPart (wC (.int 1))) wNone)) wNil)))))))))
  (wRet (wBin EqD (wLc (wSeq (wVar 11)) (stAll (gdN 12) (wFn Sp__law_told (wCons (wC (.int 1)) (wCons (wVar 12) wNil))) [12]) [12]) (wBin MulD (wLst (wCons (wTup (wCons (wC (.str "refused")) (wCons (wC (.str "sign")) wNil))) wNil)) (wC (.int 7))))))))
theorem m_5 {s : Sign} {N : Nat} {ns : List Int} (hn : ns.length = 4) (hw : ∀ x ∈ ns, 0 ≤ x ∧ x < 5) (h1 : 1 ≤ s.length) (h5 : s.length ≤ 5) (hN : N ≤ 1000) :
    w_law_5 [.scr, .twn N, .dat (.list (ns.map .int)), .dat (.list (wordsL.map eW)), .dat (eSign s), .dat (eTx (s.map ltr)), .no, .no, .no, .no, .no, .no, .no] endL := by
  refine ⟨_, ⟨2, rfl, by decide, by decide, rfl⟩, ?_⟩
  rw [show rngL 0 2 = (List.range 2).map (fun (i : Nat) => PyData.int (i : Int)) from rngL_nat 2]
  refine for_inv _ (List.range 2) (fun pre Γ => ∃ l n x7 x8 x9 x10, l.length + 1 ≤ 6 * 2 ^ pre.length ∧ (∀ c ∈ l, c < 1114112) ∧ n ≤ N + 10 * pre.length ∧ Γ = [.scr, .twn n, .dat (.list (ns.map .int)), .dat (.list (wordsL.map eW)), .dat (eSign s), .dat (eTx l), .dat (.str someS), x7, x8, x9, x10, .no, .no]) ?_ ?_ ⟨s.map ltr, N, _, _, _, _, by rw [List.length_map]; show _ ≤ 6 * 1; omega, lts_lt s, Nat.le_refl _, rfl⟩
  · rintro pre k post Γ e ⟨l, n, x7, x8, x9, x10, hl, hc, hn2, rfl⟩ next hk
    obtain ⟨hk1, hk2⟩ := prefix_rng e
    have hp2 : pre.length = 0 ∨ pre.length = 1 := by omega
    have hl17 : l.length ≤ 17 := by
      rcases hp2 with z | z <;> rw [z] at hl <;> omega
    refine ⟨rfl, ⟨_, rfl⟩, _, rfl, _, len_T l (by omega), _, rfl, _, rfl, rfl, (l.length : Int) + 1, rfl, by omega, by omega, fun spot s0 s1 => ?_⟩
    refine ⟨_, rfl, rfl, ⟨_, rfl⟩, _, rfl, _, ⟨_, _, rfl, ⟨by show someS.length ≤ _; rw [some_len]; exact lit_size rfl, rfl⟩, rfl⟩, _, rfl, rfl, _, rfl, by show (0 : Int) < ((someS.length : Nat) : Int); rw [some_len]; decide, by omega, fun dd d0 d1 => ?_⟩
    have d1 : dd < 50 := by rw [show ((Str.length someS : Nat) : Int) = 50 by rw [some_len]; rfl] at d1; exact d1
    obtain ⟨c, hc1, hc2⟩ := some_ix d0 d1
    obtain ⟨y, hy, hyx⟩ := ixI (ns := ns) (j := k) (by omega)
    obtain ⟨y0, y1⟩ := hw y hy
    obtain ⟨j, rfl⟩ : ∃ j : Nat, y = (j : Int) := ⟨y.toNat, by omega⟩
    obtain ⟨p, hp, hpl, hpc⟩ := put_ok c hc1 j (by omega)
    refine ⟨_, hc2, lit_size rfl, _, rfl, _, rfl, _, hyx, _, hp, ?_⟩
    obtain ⟨u, hu, hux⟩ := ixI (ns := ns) (j := k + 2) (by omega)
    have l1 := cut_len l none (some spot)
    have l2 := cut_len l (some (spot + u % 2)) none
    refine ⟨_, rfl, _, rfl, spot, rfl, _, sl_T l none (some spot) (by omega), _, rfl, _, add_T (cutL l none (some spot)) p (by omega) (by omega), _, rfl, _, rfl, _, rfl, _, rfl, eN (k + 2), rfl, _, hux, .int (u % 2), ⟨(by show (0 : Int) < 2; decide), rfl⟩, .int (spot + u % 2), rfl, _, rfl, _, sl_T l (some (spot + u % 2)) none (by omega), _, add_T (cutL l none (some spot) ++ p) (cutL l (some (spot + u % 2)) none) (by rw [List.length_append]; omega) (by omega), ?_⟩
    refine step50 (by rw [List.length_append, List.length_append]; omega) (fun x hx => ?_) fun x10 => hk _ ⟨_, n + 2, _, _, _, x10, ?_, ?_, ?_, rfl⟩
    · rcases List.mem_append.mp hx with hx | hx
      · rcases List.mem_append.mp hx with hx | hx
        · exact hc x (cut_mem hx)
        · exact hpc x hx
      · exact hc x (cut_mem hx)
    · rw [List.length_append, List.length_append, List.length_append, show pre.length + [k].length = pre.length + 1 from rfl, Nat.pow_succ]
      omega
    · intro x hx
      rcases List.mem_append.mp hx with hx | hx
      · rcases List.mem_append.mp hx with hx | hx
        · exact hc x (cut_mem hx)
        · exact hpc x hx
      · exact hc x (cut_mem hx)
    · rw [List.length_append, show [k].length = 1 from rfl]
      omega
  · rintro Γ ⟨l, n, x7, x8, x9, x10, _, _, _, rfl⟩
    exact m_7 h1 h5
theorem eqv_t {k : Nat} {x : PyData} (h : Sh k x) : (!PyData.eqv x x) = false := ne_self h rfl
def w_law : DS := (wSq (wSet 2 (wLc (wRng Rng1 (wCons (wC (.int 4)) wNil)) (stAll (gdN 7) (wFnT 0 1 Sp__law_draw (wCons (wC (.int 5)) wNil)) [7]) [7]))
  (wSq (wSet 3 (wLst (wCons (wC (.str "high")) (wCons (wC (.str "low")) (wCons (wC (.str "rise")) (wCons (wC (.str "fall")) (wCons (wC .none) wNil)))))))
  (wSq (wSet 4 (wFnT 0 1 Sp__law_sign (wCons (wBin AddD (wC (.int 1)) (wFnT 0 1 Sp__law_draw (wCons (wC (.int 5)) wNil))) wNil)))
  (wSq (wSet 5 (wJoin (wC (.str "")) (wLc (wSeq (wVar 4)) (stAll (gdN 12) (wBin IxD (wC (.str "10rf-")) (wLm IdxL (wVar 3) (wVar 12))) [12]) [12])))
  (wSq (wIfS (wtOr (wTst (wBin NeD (wFn Sp__law_told (wCons (wC (.int 1)) (wCons (wVar 4) wNil))) (wTup (wCons (wC (.str "found")) (wCons (wVar 5) wNil))))) (wTst (wBin NeD (wFn Sp__law_told (wCons (wC (.int 0)) (wCons (wVar 5) wNil))) (wTup (wCons (wC (.str "found")) (wCons (wVar 4) wNil)))))) (wRet (wC (.bool false))) wNx)
  (wSq (wSet 6 (wC (.str "0123456789-rf abcdeghijklmnopqstuvwxyzABXYZRF._,\n\t")))
  (wSq (wFor (wRng Rng1 (wCons (wC (.int 2)) wNil)) (gdN 7) (wSq (wSet 8 (wFnT 0 1 Sp__law_draw (wCons (wBin AddD (wCall LenC (wCons (wVar 5) wNil)) (wC (.int 1))) wNil)))
  (wSq (wSet 9 (wBin IxD (wLst (wCons (wC (.str "")) (wCons (wC (.str "")) (wCons (wC (.str "r")) (wCons (wC (.str "-")) (wCons (wBin IxD (wVar 6) (wFnT 0 1 Sp__law_draw (wCons (wCall LenC (wCons (wVar 6) wNil)) wNil))) wNil)))))) (wBin IxD (wVar 2) (wVar 7))))
  (wSq (wSet 5 (wBin AddD (wBin AddD (wSl (wVar 5) wNone (wPart (wVar 8))) (wVar 9)) (wSl (wVar 5) (wPart (wBin AddD (wVar 8) (wBin ModD (wBin IxD (wVar 2) (wBin AddD (wVar 7) (wC (.int 2)))) (wC (.int 2))))) wNone)))
  (wSq (wSet 10 (wTup (wCons (wC (.str "refused")) (wCons (wC (.str "text")) wNil))))
  (wSq (wIfS (wtAnd (wTst (wChain LtD LtD (wC (.int 0)) (wCall LenC (wCons (wVar 5) wNil)) (wC (.int 6)))) (wTst (wBin EqD (wLc (wStr (wVar 5)) (stIf (gdN 12) (wTst (wBin (InS true) (wVar 12) (wC (.str "10rf-")))) (wVar 12) [12]) [12]) (wLst wNil)))) (wSet 10 (wTup (wCons (wC (.str "found")) (wCons (wCall TupC (wCons (wLc (wStr (wVar 5)) (stAll (gdN 12) (wBin IxD (wVar 3) (wSIdx (wC (.str "10rf-")) (wVar 12))) [12]) [12]) wNil)) wNil)))) wNx)
  (wIfS (wTst (wBin NeD (wFn Sp__law_told (wCons (wC (.int 0)) (wCons (wVar 5) wNil))) (wVar 10))) (wRet (wC (.bool false))) wNx)))))))
  (wSq (wSet 11 (wLst (wCons (wTup wNil) (wCons (wBin MulD (wTup (wCons (wC .none) wNil)) (wC (.int 6))) (wCons (wCall LstC (wCons (wVar 4) wNil)) (wCons (wC .none) (wCons (wTup (wCons (wC (.str "r")) wNil)) (wCons (wTup (wCons (wC (.int 1)) wNil)) (wCons (wBin AddD (wTup (wCons (wC (.bool true)) wNil)) (wSl (wVar 4) (wPart (wC (.int 1))) wNone)) wNil)))))))))
  (wRet (wBin EqD (wLc (wSeq (wVar 11)) (stAll (gdN 12) (wFn Sp__law_told (wCons (wC (.int 1)) (wCons (wVar 12) wNil))) [12]) [12]) (wBin MulD (wLst (wCons (wTup (wCons (wC (.str "refused")) (wCons (wC (.str "sign")) wNil))) wNil)) (wC (.int 7)))))))))))))
theorem m_law : w_law (startT ["script", "town", "way", "words", "sign", "text", "some", "k", "spot", "put", "due", "bad", "one"] 0 []) endL := by
  show w_law [.scr, .twn 0, .no, .no, .no, .no, .no, .no, .no, .no, .no, .no, .no] endL
  refine ⟨_, ⟨4, rfl, by decide, by decide, rfl⟩, ?_⟩
  rw [show rngL 0 4 = (List.range 4).map (fun (i : Nat) => PyData.int (i : Int)) from rngL_nat 4]
  refine ⟨lit_size rfl, rfl, ?_⟩
  refine lc_inv _ _ (fun pre acc Γ => ∃ ns : List Int, acc = ns.map .int ∧ ns.length = pre.length ∧ (∀ x ∈ ns, 0 ≤ x ∧ x < 5) ∧ Γ = [.scr, .twn pre.length, .no, .no, .no, .no, .no, .no, .no, .no, .no, .no, .no]) ?_ ?_ ⟨[], rfl, rfl, fun _ h => absurd h List.not_mem_nil, rfl⟩
  · rintro pre x post acc Γ e ⟨ns, rfl, hb, hx, rfl⟩ k' hk
    have hl := prefix_lt e
    rw [List.length_range] at hl
    refine ⟨rfl, ⟨_, rfl⟩, _, rfl, rfl, 5, rfl, by decide, by omega, fun z z0 z1 => ?_⟩
    refine hk _ _ ⟨ns ++ [z], ?_, ?_, ?_, ?_⟩
    · rw [List.map_append]; rfl
    · rw [List.length_append, List.length_append, hb]; rfl
    · intro y hy
      rcases List.mem_append.mp hy with w | w
      · exact hx y w
      · rw [List.mem_singleton.mp w]; exact ⟨z0, z1⟩
    · rw [List.length_append]; rfl
  rintro acc Γ ⟨ns, rfl, hb, hx, rfl⟩
  rw [List.length_range] at hb
  rw [List.length_range]
  refine ⟨lit_size rfl, rfl, ⟨_, rfl⟩, rfl, ⟨_, rfl⟩, _, rfl, rfl, 5, rfl, by decide, by decide, fun d h0 h1 => ⟨_, rfl, ?_⟩⟩
  obtain ⟨m, hm⟩ : ∃ m : Nat, (1 : Int) + d = (m : Int) := ⟨(1 + d).toNat, by omega⟩
  rw [hm]
  refine ⟨_, rfl, rfl, m, rfl, by omega, by omega, fun s hs => ?_⟩
  refine ⟨"", rfl, _, rfl, _, rfl, by rw [List.length_map]; exact small_size (by omega), rfl, ?_⟩
  refine lc_all eW (fun w => .str (oneS (ltr w))) s [] (fun w _ k hk => ?_) ?_
  · exact ⟨_, rfl, _, rfl, _, rfl, _, idx_word w, _, ix_letter w, hk⟩
  rw [List.nil_append]
  refine ⟨(s.map ltr).map oneS, by rw [List.map_map, List.map_map]; rfl, ?_, ?_⟩
  · rw [sum_ones, List.length_map]
    show s.length + _ * 0 ≤ _
    omega
  have e : Txt.join "" ((s.map ltr).map oneS) = ⟨(s.map ltr).toArray⟩ := (StrLaws.glued_eq_join _ _).trans (join_ones _)
  rw [e]
  have shT := sh_found (sh_T (lts_lt s))
  have shS := sh_found (sh_sign s)
  refine ⟨_, rfl, 1, _, rfl, fun z => absurd z (by decide), fun _ => ⟨_, rfl, onAny_v (by omega) (by omega) ?_⟩⟩
  refine ⟨_, rfl, lit_size rfl, _, ⟨rfl, shT.ok, shT.ok⟩, _, rfl, ne_if shT rfl ?_⟩
  refine ⟨_, rfl, 0, _, rfl, fun _ => ⟨s.map ltr, rfl, by rw [List.length_map]; omega, lts_lt s, ?_⟩, fun z => absurd rfl z⟩
  rw [if_pos (okT_ltr (by omega) (by omega)), rd_ltr]
  refine ⟨_, rfl, lit_size rfl, _, ⟨rfl, shS.ok, shS.ok⟩, _, rfl, ne_if shS rfl ?_⟩
  exact m_5 hb hx (by omega) (by omega) (by omega)
end Sg

/-! The walk: each def of the text, by its place, keeps what is said of it over data; the head. -/
namespace Lw
open PySem L2 Dt Sg
def topS (i : Nat) : Stmt := PySem.Challenge.pw_signlearn_k50_whole_texts.main.body.getD i (.Pass ⟨0, 0, 0, 0⟩)
abbrev s_is_sign : Stmt := topS 11
abbrev s_look_any : Stmt := topS 12
abbrev s_written : Stmt := topS 15
abbrev s_read : Stmt := topS 16
abbrev s__law_cell : Stmt := topS 18
abbrev s__law_mix : Stmt := topS 19
abbrev s__law_draw : Stmt := topS 20
abbrev s__law_pick : Stmt := topS 21
abbrev s__law_refusal : Stmt := topS 22
abbrev s__law_sign : Stmt := topS 23
abbrev s__law_told : Stmt := topS 24
abbrev s_law : Stmt := topS 25
structure Txt (w : World) (K : PySem.W.Frag) (mg : Str → Option Value) : Prop where
  c_HOLDS : mg "HOLDS" = some (.ref (He.ga K "HOLDS")) ∧ ∀ H, Da K H (.ref (He.ga K "HOLDS")) g_HOLDS
  c_MOST_LINES : ∃ t, mg "MOST_LINES" = some (.int 5 t)
  g_SignError : mg "SignError" = some (.ref (He.ga K "SignError"))
  k_LETTERS : GKeys K w mg "LETTERS" ["high", "low", "rise", "fall"]
  n_ValueError : mg "ValueError" = none
  n_all : mg "all" = none
  n_dict : mg "dict" = none
  n_isinstance : mg "isinstance" = none
  n_len : mg "len" = none
  n_list : mg "list" = none
  n_range : mg "range" = none
  n_str : mg "str" = none
  n_tuple : mg "tuple" = none
  t_LETTERS : GTab K w mg "LETTERS" g_LETTERS
  x_BadNumber : (PySem.W.excIn K (He.ga K "BadNumber") He.veBase "ValueError.__new__" = true ∧ PySem.W.keepIn K (.ref (He.ga K "BadNumber")) = true ∧ PySem.W.subIn K (.ref (He.ga K "BadNumber")) (.type "BaseException") = some true ∧ PySem.W.typeIn K (.ref (He.ga K "BadNumber")) = some (.type "type")) ∧ mg "BadNumber" = some (.ref (He.ga K "BadNumber"))
  x_BadRows : (PySem.W.excIn K (He.ga K "BadRows") He.veBase "ValueError.__new__" = true ∧ PySem.W.keepIn K (.ref (He.ga K "BadRows")) = true ∧ PySem.W.subIn K (.ref (He.ga K "BadRows")) (.type "BaseException") = some true ∧ PySem.W.typeIn K (.ref (He.ga K "BadRows")) = some (.type "type")) ∧ mg "BadRows" = some (.ref (He.ga K "BadRows"))
  x_BadSign : (PySem.W.excIn K (He.ga K "BadSign") He.veBase "ValueError.__new__" = true ∧ PySem.W.keepIn K (.ref (He.ga K "BadSign")) = true ∧ PySem.W.subIn K (.ref (He.ga K "BadSign")) (.type "BaseException") = some true ∧ PySem.W.typeIn K (.ref (He.ga K "BadSign")) = some (.type "type")) ∧ mg "BadSign" = some (.ref (He.ga K "BadSign"))
  x_BadText : (PySem.W.excIn K (He.ga K "BadText") He.veBase "ValueError.__new__" = true ∧ PySem.W.keepIn K (.ref (He.ga K "BadText")) = true ∧ PySem.W.subIn K (.ref (He.ga K "BadText")) (.type "BaseException") = some true ∧ PySem.W.typeIn K (.ref (He.ga K "BadText")) = some (.type "type")) ∧ mg "BadText" = some (.ref (He.ga K "BadText"))
  x_BadTold : (PySem.W.excIn K (He.ga K "BadTold") He.veBase "ValueError.__new__" = true ∧ PySem.W.keepIn K (.ref (He.ga K "BadTold")) = true ∧ PySem.W.subIn K (.ref (He.ga K "BadTold")) (.type "BaseException") = some true ∧ PySem.W.typeIn K (.ref (He.ga K "BadTold")) = some (.type "type")) ∧ mg "BadTold" = some (.ref (He.ga K "BadTold"))
  x_NoSign : (PySem.W.excIn K (He.ga K "NoSign") He.veBase "ValueError.__new__" = true ∧ PySem.W.keepIn K (.ref (He.ga K "NoSign")) = true ∧ PySem.W.subIn K (.ref (He.ga K "NoSign")) (.type "BaseException") = some true ∧ PySem.W.typeIn K (.ref (He.ga K "NoSign")) = some (.type "type")) ∧ mg "NoSign" = some (.ref (He.ga K "NoSign"))
  xf : XF K ["BadRows", "BadSign", "BadTold", "BadNumber", "NoSign", "BadText"]
  d_is_sign : DefAt K "is_sign" s_is_sign
  g_is_sign : mg "is_sign" = some (.ref (He.ga K "is_sign"))
  d_look_any : DefAt K "look_any" s_look_any
  g_look_any : mg "look_any" = some (.ref (He.ga K "look_any"))
  d_written : DefAt K "written" s_written
  g_written : mg "written" = some (.ref (He.ga K "written"))
  d_read : DefAt K "read" s_read
  g_read : mg "read" = some (.ref (He.ga K "read"))
  d__law_cell : DefAt K "_law_cell" s__law_cell
  g__law_cell : mg "_law_cell" = some (.ref (He.ga K "_law_cell"))
  d__law_mix : DefAt K "_law_mix" s__law_mix
  g__law_mix : mg "_law_mix" = some (.ref (He.ga K "_law_mix"))
  d__law_draw : DefAt K "_law_draw" s__law_draw
  g__law_draw : mg "_law_draw" = some (.ref (He.ga K "_law_draw"))
  d__law_pick : DefAt K "_law_pick" s__law_pick
  g__law_pick : mg "_law_pick" = some (.ref (He.ga K "_law_pick"))
  d__law_refusal : DefAt K "_law_refusal" s__law_refusal
  g__law_refusal : mg "_law_refusal" = some (.ref (He.ga K "_law_refusal"))
  d__law_sign : DefAt K "_law_sign" s__law_sign
  g__law_sign : mg "_law_sign" = some (.ref (He.ga K "_law_sign"))
  d__law_told : DefAt K "_law_told" s__law_told
  g__law_told : mg "_law_told" = some (.ref (He.ga K "_law_told"))
section
variable {P : Program} {w : World} {K : PySem.W.Frag} {mg : Str → Option Value} {base : Heap}
theorem sc_is_sign : FnScope ["thing", "many", "one"] ["thing", "many"] (defScope s_is_sign) := ⟨rfl, rfl, rfl, by decide +kernel, rfl, by decide +kernel, by decide +kernel⟩
theorem f_is_sign (Tx : Txt w K mg)  : Fok P w K mg base "is_sign" 1 ["thing", "many"] (spD K Sp_is_sign) :=
  fok_of (N := ["thing", "many", "one"]) Tx.d_is_sign Tx.g_is_sign (fun _ _ _ _ _ _ us hl => match us, hl with | [_, _], _ => rfl) sc_is_sign (by intro ds Q E h; first | (obtain ⟨_, rfl, _⟩ := h; rfl) | (obtain ⟨_, _, rfl, _⟩ := h; rfl) | (obtain ⟨_, _, _, rfl, _⟩ := h; rfl) | (obtain ⟨_, _, _, _, rfl, _⟩ := h; rfl) | (obtain ⟨_, _, _, _, _, rfl, _⟩ := h; rfl) | (obtain ⟨_, _, _, _, _, _, rfl, _⟩ := h; rfl) | (obtain ⟨_, _, _, _, _, _, _, rfl, _⟩ := h; rfl) | (obtain ⟨_, _, _, _, _, _, _, _, rfl, _⟩ := h; rfl)) w_is_sign (fun cdv A outer s H E hr =>
    (dss_cons (ds_if (PW.pt (dt_or (dt_not (dt_tru (toR (de_isi kit_tup (fun _ => rfl) (by decide) rfl Tx.n_isinstance (toR (de_var 0 (pv 0))) (pe_bltn (v := .ty "tuple") rfl Tx.n_tuple bt_tuple rfl))) (by intro _; rfl))) (dt_or1 (dt_cmp (op_neD hr.units) ok_ne (toR (de_cb call_len ok_len rfl Tx.n_len bt_len (dr_cons (toR (de_var 0 (pv 0))) dr_nil))) (toR (de_var 1 (pv 1))) (nomark _))))) (dss_one (ds_ret de_bl)) dss_nil)
      (dss_one (ds_ret (de_cb (cr_all rfl) ok_all rfl Tx.n_all bt_all (dr_cons (toR (de_lc0 (own := [("one", 2)]) rfl sc_is_sign.nd (di_seq (de_var 0 (pv 0))) (blkOk_by (own := [("one", 2)]) (by first | rfl | decide +kernel)) (okg_name 2) (fun _ _ _ _ _ => (pg_name (i := 2) sc_is_sign.nd rfl (by first | exact Or.inl rfl | exact Or.inr rfl))) (fun _ _ _ _ _ => (de_or (de_cmp op_isN ok_isN (toR (de_var 2 (pv 2))) (toR de_non) (nomark _)) (de_one (de_and (de_isi kit_str (fun _ => rfl) (by decide) rfl Tx.n_isinstance (toR (de_var 2 (pv 2))) (pe_bltn (v := .ty "str") rfl Tx.n_str bt_str rfl)) (de_one (de_cmp (op_in2 (hu65 hr)) ok_in (toR (de_var 2 (pv 2))) (toR (de_gr Tx.c_HOLDS)) rfl)))))))) dr_nil)))))) m_is_sign
theorem sc_look_any : FnScope ["sign"] ["sign"] (defScope s_look_any) := ⟨rfl, rfl, rfl, by decide +kernel, rfl, by decide +kernel, by decide +kernel⟩
theorem f_look_any (Tx : Txt w K mg) (h_is_sign : Fok P w K mg base "is_sign" 1 ["thing", "many"] (spD K Sp_is_sign)) : Fok P w K mg base "look_any" 2 ["sign"] (spD K Sp_look_any) :=
  fok_of (N := ["sign"]) Tx.d_look_any Tx.g_look_any (fun _ _ _ _ _ _ us hl => match us, hl with | [_], _ => rfl) sc_look_any (by intro ds Q E h; first | (obtain ⟨_, rfl, _⟩ := h; rfl) | (obtain ⟨_, _, rfl, _⟩ := h; rfl) | (obtain ⟨_, _, _, rfl, _⟩ := h; rfl) | (obtain ⟨_, _, _, _, rfl, _⟩ := h; rfl) | (obtain ⟨_, _, _, _, _, rfl, _⟩ := h; rfl) | (obtain ⟨_, _, _, _, _, _, rfl, _⟩ := h; rfl) | (obtain ⟨_, _, _, _, _, _, _, rfl, _⟩ := h; rfl) | (obtain ⟨_, _, _, _, _, _, _, _, rfl, _⟩ := h; rfl)) w_look_any (fun cdv A outer s H E hr =>
    (dss_cons (ds_if (PW.pt (dt_or (dt_not (dt_tru (toR (de_isi kit_tup (fun _ => rfl) (by decide) rfl Tx.n_isinstance (toR (de_var 0 (pv 0))) (pe_bltn (v := .ty "tuple") rfl Tx.n_tuple bt_tuple rfl))) (by intro _; rfl))) (dt_or (dt_not (dt_chain op_le op_le ok_le ok_le (toR de_int) (toR (de_cb call_len ok_len rfl Tx.n_len bt_len (dr_cons (toR (de_var 0 (pv 0))) dr_nil))) (toR (de_gi Tx.c_MOST_LINES)))) (dt_or1 (dt_not (dt_tru (toR (de_fok h_is_sign hr (by decide) rfl bTakes (da_cons (de_var 0 (pv 0)) (da_cons (de_cb call_len ok_len rfl Tx.n_len bt_len (dr_cons (toR (de_var 0 (pv 0))) dr_nil)) da_nil)))) (by intro _; rfl))))))) (dss_one (ds_raiseX rfl bTakes Tx.x_BadSign.1 Tx.x_BadSign.2 rfl)) dss_nil)
      (dss_one (ds_ret (de_cb call_len ok_len rfl Tx.n_len bt_len (dr_cons (toR (de_var 0 (pv 0))) dr_nil)))))) m_look_any
theorem sc_written : FnScope ["sign", "one"] ["sign"] (defScope s_written) := ⟨rfl, rfl, rfl, by decide +kernel, rfl, by decide +kernel, by decide +kernel⟩
theorem f_written (Tx : Txt w K mg) (h_look_any : Fok P w K mg base "look_any" 2 ["sign"] (spD K Sp_look_any)) : Fok P w K mg base "written" 3 ["sign"] (spD K Sp_written) :=
  fok_of (N := ["sign", "one"]) Tx.d_written Tx.g_written (fun _ _ _ _ _ _ us hl => match us, hl with | [_], _ => rfl) sc_written (by intro ds Q E h; first | (obtain ⟨_, rfl, _⟩ := h; rfl) | (obtain ⟨_, _, rfl, _⟩ := h; rfl) | (obtain ⟨_, _, _, rfl, _⟩ := h; rfl) | (obtain ⟨_, _, _, _, rfl, _⟩ := h; rfl) | (obtain ⟨_, _, _, _, _, rfl, _⟩ := h; rfl) | (obtain ⟨_, _, _, _, _, _, rfl, _⟩ := h; rfl) | (obtain ⟨_, _, _, _, _, _, _, rfl, _⟩ := h; rfl) | (obtain ⟨_, _, _, _, _, _, _, _, rfl, _⟩ := h; rfl)) w_written (fun cdv A outer s H E hr =>
    (dss_cons (ds_expr (de_fok h_look_any hr (by decide) rfl bTakes (da_cons (de_var 0 (pv 0)) da_nil)))
      (dss_one (ds_ret (de_join de_str (toR (de_lc0 (own := [("one", 1)]) rfl sc_written.nd (di_seq (de_var 0 (pv 0))) (blkOk_by (own := [("one", 1)]) (by first | rfl | decide +kernel)) (okg_name 1) (fun _ _ _ _ _ => (pg_name (i := 1) sc_written.nd rfl (by first | exact Or.inl rfl | exact Or.inr rfl))) (fun _ _ _ _ _ => (de_if (dt_cmp op_isN ok_isN (toR (de_var 1 (pv 1))) (toR de_non) (nomark _)) de_str (de_tab Tx.t_LETTERS (toR (de_var 1 (pv 1))) (fun _ _ => rfl))))))))))) m_written
theorem sc_read : FnScope ["text", "words", "one", "sign"] ["text"] (defScope s_read) := ⟨rfl, rfl, rfl, by decide +kernel, rfl, by decide +kernel, by decide +kernel⟩
theorem f_read (Tx : Txt w K mg)  : Fok P w K mg base "read" 1 ["text"] (spD K Sp_read) :=
  fok_of (N := ["text", "words", "one", "sign"]) Tx.d_read Tx.g_read (fun _ _ _ _ _ _ us hl => match us, hl with | [_], _ => rfl) sc_read (by intro ds Q E h; first | (obtain ⟨_, rfl, _⟩ := h; rfl) | (obtain ⟨_, _, rfl, _⟩ := h; rfl) | (obtain ⟨_, _, _, rfl, _⟩ := h; rfl) | (obtain ⟨_, _, _, _, rfl, _⟩ := h; rfl) | (obtain ⟨_, _, _, _, _, rfl, _⟩ := h; rfl) | (obtain ⟨_, _, _, _, _, _, rfl, _⟩ := h; rfl) | (obtain ⟨_, _, _, _, _, _, _, rfl, _⟩ := h; rfl) | (obtain ⟨_, _, _, _, _, _, _, _, rfl, _⟩ := h; rfl)) w_read (fun cdv A outer s H E hr =>
    (dss_cons (ds_set (i := 1) sc_read.nd rfl (by first | exact Or.inl rfl | exact Or.inr rfl) (de_ct (call_dictP rfl) ok_dictP rfl Tx.n_dict bt_dict (dr_cons (toR (de_lc0 (own := [("one", 2)]) rfl sc_read.nd (di_gkeys Tx.k_LETTERS) (blkOk_by (own := [("one", 2)]) (by first | rfl | decide +kernel)) (okg_name 2) (fun _ _ _ _ _ => (pg_name (i := 2) sc_read.nd rfl (by first | exact Or.inl rfl | exact Or.inr rfl))) (fun _ _ _ _ _ => (de_tup (da_cons (de_tab Tx.t_LETTERS (toR (de_var 2 (pv 2))) (fun _ _ => rfl)) (da_cons (de_var 2 (pv 2)) da_nil)))))) dr_nil)))
      (dss_cons (ds_if (PW.pt (dt_or (dt_not (dt_chain op_le op_le ok_le ok_le (toR de_int) (toR (de_cb call_len ok_len rfl Tx.n_len bt_len (dr_cons (toR (de_var 0 (pv 0))) dr_nil))) (toR (de_gi Tx.c_MOST_LINES)))) (dt_or1 (dt_not (dt_tru (toR (de_cb (cr_all rfl) ok_all rfl Tx.n_all bt_all (dr_cons (toR (de_lc0 (own := [("sign", 3)]) rfl sc_read.nd (di_str (de_var 0 (pv 0))) (blkOk_by (own := [("sign", 3)]) (by first | rfl | decide +kernel)) (okg_name 3) (fun _ _ _ _ _ => (pg_name (i := 3) sc_read.nd rfl (by first | exact Or.inl rfl | exact Or.inr rfl))) (fun _ _ _ _ _ => (de_or (de_cmp (op_eqD hr.units) ok_eq (toR (de_var 3 (pv 3))) (toR de_str) (nomark _)) (de_one (de_din hr (toR (de_var 3 (pv 3))) (toR (de_var 1 (pv 1))))))))) dr_nil))) (by intro _; rfl)))))) (dss_one (ds_raiseX rfl bTakes Tx.x_BadText.1 Tx.x_BadText.2 rfl)) dss_nil)
      (dss_one (ds_ret (de_ct call_tuple_of ok_tuple rfl Tx.n_tuple bt_tuple (dr_cons (toR (de_lc0 (own := [("sign", 3)]) rfl sc_read.nd (di_str (de_var 0 (pv 0))) (blkOk_by (own := [("sign", 3)]) (by first | rfl | decide +kernel)) (okg_name 3) (fun _ _ _ _ _ => (pg_name (i := 3) sc_read.nd rfl (by first | exact Or.inl rfl | exact Or.inr rfl))) (fun _ _ _ _ _ => (de_if (dt_cmp (op_eqD hr.units) ok_eq (toR (de_var 3 (pv 3))) (toR de_str) (nomark _)) de_non (de_dget hr (toR (de_var 1 (pv 1))) (toR (de_var 3 (pv 3))) (fun _ _ => rfl)))))) dr_nil))))))) m_read
theorem sc__law_cell : FnScope ["script", "k"] ["script", "k"] (defScope s__law_cell) := ⟨rfl, rfl, rfl, by decide +kernel, rfl, by decide +kernel, by decide +kernel⟩
theorem f__law_cell (Tx : Txt w K mg) : Fok P w K mg base "_law_cell" 1 ["script", "k"] (spCellS K) := by
  obtain ⟨fd, F⟩ := Tx.d__law_cell
  refine ⟨fd, F.ok sc__law_cell (fun vs H Q E ⟨v, k, e, _⟩ => by rw [e]; rfl) (fun cdv A outer s H vs Q E hr h => ⟨_, pss_cons (ps_if (pt_truth (pv 0) (by intro _; rfl)) (pss_one (ps_ret (pe_ix ix_list (pv 0) (pe_op op_mod (pv 1) (pe_callB call_len_seq (by rfl) Tx.n_len bt_len (pa_cons (pv 0) pa_nil))) (fun _ _ => rfl)))) pss_nil) (pss_one (ps_ret pe_int)), ?_⟩), F.bindsN (fun _ _ _ _ _ _ us hl => match us, hl with | [_, _], _ => rfl), F.kp, Tx.g__law_cell⟩
  obtain ⟨v, k, rfl, ⟨a, ns, rfl, hS⟩, q⟩ := h
  refine ⟨_, rfl, _, .inl ⟨_, hS, rfl⟩, ?_⟩
  cases ns with
  | nil => exact q 0
  | cons x r =>
    have hp : (0 : Int) < (((x :: r).map V.int).length : Nat) := by rw [List.length_map, List.length_cons]; omega
    have h0 := Int.emod_nonneg k (show (((((x :: r).map V.int).length : Nat) : Int)) ≠ 0 by omega)
    have h1 := Int.emod_lt_of_pos k hp
    obtain ⟨j, hj⟩ : ∃ j : Nat, k % (((x :: r).map V.int).length : Nat) = (j : Int) := ⟨(k % (((x :: r).map V.int).length : Nat)).toNat, by omega⟩
    have hjl : j < (x :: r).length := by rw [hj, List.length_map] at h1; omega
    refine ⟨_, rfl, _, rfl, _, rfl, a, _, rfl, .inl hS, _, _, rfl, rfl, hp, a, _, _, _, rfl, rfl, hS, ?_, q ((x :: r)[j])⟩
    show atI ((x :: r).map V.int) (k % (((x :: r).map V.int).length : Nat)) = _
    rw [hj]
    refine atI_nat ?_
    rw [List.getElem?_map, List.getElem?_eq_getElem hjl]
    rfl
theorem sc__law_mix : FnScope ["script", "k", "number"] ["script", "k"] (defScope s__law_mix) := ⟨rfl, rfl, rfl, by decide +kernel, rfl, by decide +kernel, by decide +kernel⟩
theorem f__law_mix (Tx : Txt w K mg) (h__law_cell : Fok P w K mg base "_law_cell" 1 ["script", "k"] (spCellS K)) : Fok P w K mg base "_law_mix" 2 ["script", "k"] (spMixS K) := by
  obtain ⟨fd, F⟩ := Tx.d__law_mix
  obtain ⟨fc, Fc, bc, kc, mc⟩ := h__law_cell
  refine ⟨fd, F.ok sc__law_mix (fun vs H Q E ⟨v, k, e, _⟩ => by rw [e]; rfl) (fun cdv A outer s H vs Q E hr h => ⟨_, pss_cons (ps_set (i := 2) sc__law_mix.nd rfl (Or.inl rfl) (pe_op op_mod (pe_op op_add (pe_callS (E := WE (Wd E)) Fc hr rfl mc kc bc (fun σ => passAt bTakes σ) (pa_cons (pv 0) (pa_cons (pv 1) pa_nil))) (pe_op op_mul pe_int (pe_op op_add (pv 1) pe_int))) pe_int))
    (pss_cons (ps_set (i := 2) sc__law_mix.nd rfl (Or.inl rfl) (pe_op op_mod (pe_op op_pow (pv 2) pe_int) pe_int))
    (pss_one (ps_ret (pe_op op_mod (pe_op op_add (pe_op op_mul (pe_op op_fdiv (pv 2) pe_int) pe_int) (pv 2)) pe_int)))), ?_⟩), F.bindsN (fun _ _ _ _ _ _ us hl => match us, hl with | [_, _], _ => rfl), F.kp, Tx.g__law_mix⟩
  obtain ⟨v, k, rfl, hS, k0, k1, q⟩ := h
  refine ⟨v, rfl, .int k, rfl, v, k, rfl, hS, fun i => ?_⟩
  refine ⟨.int k, rfl, _, _, rfl, rfl, _, _, rfl, rfl, .inl ⟨by decide, by decide⟩, _, _, rfl, rfl, _, _, rfl, rfl, (by show (0 : Int) < 4294967291; decide), ?_⟩
  have a0 := Int.emod_nonneg (i + 104729 * (k + 1)) (show (4294967291 : Int) ≠ 0 by decide)
  have a1 := Int.emod_lt_of_pos (i + 104729 * (k + 1)) (show (0 : Int) < 4294967291 by decide)
  refine ⟨.int ((i + 104729 * (k + 1)) % 4294967291), rfl, _, _, rfl, rfl, ⟨by decide, by decide, by omega⟩, _, _, rfl, rfl, (by show (0 : Int) < 4294967279; decide), ?_⟩
  refine ⟨.int (((i + 104729 * (k + 1)) % 4294967291) ^ (5 : Int).toNat % 4294967279), rfl, _, _, rfl, rfl, ⟨by decide, by decide⟩, _, _, rfl, rfl, .inr ⟨by decide, by decide⟩, .int (((i + 104729 * (k + 1)) % 4294967291) ^ (5 : Int).toNat % 4294967279), rfl, _, _, rfl, rfl, _, _, rfl, rfl, (by show (0 : Int) < 4294967231; decide), ?_⟩
  exact q _ (Int.emod_nonneg _ (by decide))
theorem sc__law_draw : FnScope ["script", "town", "many"] ["script", "town", "many"] (defScope s__law_draw) := ⟨rfl, rfl, rfl, by decide +kernel, rfl, by decide +kernel, by decide +kernel⟩
theorem f__law_draw (Tx : Txt w K mg) (h__law_mix : Fok P w K mg base "_law_mix" 2 ["script", "k"] (spMixS K)) : Fok P w K mg base "_law_draw" 3 ["script", "town", "many"] (spT K Sp__law_draw) := by
  obtain ⟨fd, F⟩ := Tx.d__law_draw
  obtain ⟨fc, Fc, bc, kc, mc⟩ := h__law_mix
  refine ⟨fd, F.ok sc__law_draw (fun vs H Q E ⟨S, t, us, n, v0, vs', ds, Qd, _, _, _, _, e, _, hv, ⟨m, em, _⟩, _⟩ => ?_) (fun cdv A outer s H vs Q E hr h => ⟨_, pss_cons (ps_expr (pe_bm PySem.F.plainAttrs_list PySem.F.slot_list_append PySem.F.type_list_append mt_append (pv 1) (pa_cons pe_int pa_nil)))
    (pss_one (ps_ret (pe_op op_mod (pe_op op_fdiv (pe_callS (E := WE (Wd E)) Fc hr rfl mc kc bc (fun σ => passAt bTakes σ) (pa_cons (pv 0) (pa_cons (pe_callB call_len_seq (by rfl) Tx.n_len bt_len (pa_cons (pv 1) pa_nil)) pa_nil))) pe_int) (pv 2)))), ?_⟩), F.bindsN (fun _ _ _ _ _ _ us hl => match us, hl with | [_, _, _], _ => rfl), F.kp, Tx.g__law_draw⟩
  · subst em
    obtain ⟨u, rfl, _⟩ := hv.one
    rw [e]
    rfl
  obtain ⟨S, t, us, n, v0, vs', ds, Qd, hS, ht, hu, hl, rfl, h0, hv, ⟨m, rfl, hm, hn, hq⟩, kq⟩ := h
  obtain ⟨u, rfl, hu1⟩ := hv.one
  cases hu1
  have keep : ∀ b o, b ≠ t → H b = some o → upd H t (.lst (us ++ [.int 0])) b = some o := fun b o nb hb => by rw [upd_ne nb]; exact hb
  have hsc : Scr K (upd H t (.lst (us ++ [.int 0]))) v0 := by
    refine Scr.mono (fun b o hb => ?_) h0
    obtain ⟨nb, hb⟩ := off_get hb
    exact keep b o (fun z => nb (by rw [z]; exact ht)) hb
  refine ⟨_, rfl, .inl ⟨rfl, _, .of hu⟩, t, us, .int 0, rfl, rfl, hu, by rw [sizeLine_eq]; omega, ?_⟩
  refine ⟨v0, rfl, _, rfl, t, _, rfl, .inl (.of upd_same), v0, _, rfl, hsc, by omega, by rw [List.length_append]; show ((us.length + 1 : Nat) : Int) ≤ _; omega, fun r hr0 => ?_⟩
  refine ⟨_, _, rfl, rfl, ⟨by decide, by decide⟩, .int m, rfl, _, _, rfl, rfl, hm, ?_⟩
  exact kq (.int (r / 8 % m)) (n + 1) _ _ _ (hq _ (Int.emod_nonneg _ (by omega)) (Int.emod_lt_of_pos _ hm)) keep upd_same (by rw [List.length_append]; show us.length + 1 ≤ _; omega) (.int _)
theorem sc__law_pick : FnScope ["script", "town", "some"] ["script", "town", "some"] (defScope s__law_pick) := ⟨rfl, rfl, rfl, by decide +kernel, rfl, by decide +kernel, by decide +kernel⟩
theorem f__law_pick (Tx : Txt w K mg) (h__law_draw : Fok P w K mg base "_law_draw" 3 ["script", "town", "many"] (spT K Sp__law_draw)) : Fok P w K mg base "_law_pick" 4 ["script", "town", "some"] (spT K Sp__law_pick) :=
  fokT_of (N := ["script", "town", "some"]) Tx.d__law_pick Tx.g__law_pick (fun _ _ _ _ _ _ us hl => match us, hl with | [_, _, _], _ => rfl) sc__law_pick (by intro n ds Q h; first | (obtain ⟨_, rfl, _⟩ := h; rfl) | (obtain ⟨_, _, rfl, _⟩ := h; rfl) | (obtain ⟨_, _, _, rfl, _⟩ := h; rfl) | (obtain ⟨_, _, _, _, rfl, _⟩ := h; rfl) | (obtain ⟨_, _, _, _, _, rfl, _⟩ := h; rfl) | (obtain ⟨_, _, _, _, _, _, rfl, _⟩ := h; rfl) | (obtain ⟨_, _, _, _, _, _, _, rfl, _⟩ := h; rfl) | (obtain ⟨_, _, _, _, _, _, _, _, rfl, _⟩ := h; rfl)) w__law_pick (fun cdv A outer s H E hr =>
    (dss_one (ds_ret (de_ix ix_seq ok_ix (toR (de_var 2 (pv 2))) (toR (de_fokT h__law_draw hr (by decide) rfl bTakes (pv 0) (pv 1) (da_cons (de_cb call_len ok_len rfl Tx.n_len bt_len (dr_cons (toR (de_var 2 (pv 2))) dr_nil)) da_nil))) (fun _ _ => rfl))))) m__law_pick
theorem sc__law_refusal : FnScope ["caught", "kinds"] ["caught"] (defScope s__law_refusal) := ⟨rfl, rfl, rfl, by decide +kernel, rfl, by decide +kernel, by decide +kernel⟩
theorem f__law_refusal (Tx : Txt w K mg)  : Fok P w K mg base "_law_refusal" 1 ["caught"] (spD K Sp__law_refusal) :=
  fok_of (N := ["caught", "kinds"]) Tx.d__law_refusal Tx.g__law_refusal (fun _ _ _ _ _ _ us hl => match us, hl with | [_], _ => rfl) sc__law_refusal (by intro ds Q E h; rcases h with ⟨_, rfl, _⟩ | ⟨rfl, _⟩ <;> rfl) w__law_refusal (fun cdv A outer s H E hr =>
    (dss_cons (ds_if (dt_cmp op_isN ok_isN (toR (de_var 0 (pv 0))) (toR de_non) (nomark _)) (dss_one (ds_ret (de_tup (da_cons de_str da_nil)))) dss_nil)
      (dss_cons (ds_set (i := 1) sc__law_refusal.nd rfl (by first | exact Or.inl rfl | exact Or.inr rfl) (de_lst (da_cons (de_isx (C := "BadRows") Tx.xf (by decide +kernel) rfl Tx.n_isinstance (toR (de_var 0 (pv 0))) rfl Tx.x_BadRows.2) (da_cons (de_isx (C := "BadSign") Tx.xf (by decide +kernel) rfl Tx.n_isinstance (toR (de_var 0 (pv 0))) rfl Tx.x_BadSign.2) (da_cons (de_isx (C := "BadTold") Tx.xf (by decide +kernel) rfl Tx.n_isinstance (toR (de_var 0 (pv 0))) rfl Tx.x_BadTold.2) da_nil)))))
      (dss_cons (ds_set (i := 1) sc__law_refusal.nd rfl (by first | exact Or.inl rfl | exact Or.inr rfl) (de_bin op_add4 ok_add (toR (de_var 1 (pv 1))) (toR (de_lst (da_cons (de_isx (C := "BadNumber") Tx.xf (by decide +kernel) rfl Tx.n_isinstance (toR (de_var 0 (pv 0))) rfl Tx.x_BadNumber.2) (da_cons (de_isx (C := "NoSign") Tx.xf (by decide +kernel) rfl Tx.n_isinstance (toR (de_var 0 (pv 0))) rfl Tx.x_NoSign.2) (da_cons (de_isx (C := "BadText") Tx.xf (by decide +kernel) rfl Tx.n_isinstance (toR (de_var 0 (pv 0))) rfl Tx.x_BadText.2) da_nil)))))))
      (dss_cons (ds_if (PW.pt (dt_or (dt_cmp (op_neD hr.units) ok_ne (toR (de_lcnt hr (toR (de_var 1 (pv 1))) (toR de_bl) (pe_bm PySem.F.plainAttrs_list PySem.F.slot_list_count PySem.F.type_list_count (mt_countD (hu65 hr)) (toR (de_var 1 (pv 1))) (pa_cons (toR de_bl) pa_nil)))) (toR de_int) (nomark _)) (dt_or1 (dt_not (dt_tru (toR (de_isv Tx.xf rfl Tx.n_isinstance (toR (de_var 0 (pv 0))) (pe_bltn (v := .ty "ValueError") rfl Tx.n_ValueError bt_ValueError rfl))) (by intro _; rfl)))))) (dss_one (ds_ret (de_tup (da_cons de_str da_nil)))) dss_nil)
      (dss_one (ds_ret (de_tup (da_cons de_str (da_cons (de_ix ix_seq ok_ix (toR (de_lst (da_cons de_str (da_cons de_str (da_cons de_str (da_cons de_str (da_cons de_str (da_cons de_str da_nil)))))))) (toR (de_lidx hr (toR (de_var 1 (pv 1))) (toR de_bl) (pe_bm PySem.F.plainAttrs_list PySem.F.slot_list_index PySem.F.type_list_index (mt_indexD (hu65 hr)) (toR (de_var 1 (pv 1))) (pa_cons (toR de_bl) pa_nil)))) (fun _ _ => rfl)) da_nil)))))))))) m__law_refusal
theorem sc__law_sign : FnScope ["script", "town", "many", "k"] ["script", "town", "many"] (defScope s__law_sign) := ⟨rfl, rfl, rfl, by decide +kernel, rfl, by decide +kernel, by decide +kernel⟩
theorem f__law_sign (Tx : Txt w K mg) (h__law_pick : Fok P w K mg base "_law_pick" 4 ["script", "town", "some"] (spT K Sp__law_pick)) : Fok P w K mg base "_law_sign" 5 ["script", "town", "many"] (spT K Sp__law_sign) :=
  fokT_of (N := ["script", "town", "many", "k"]) Tx.d__law_sign Tx.g__law_sign (fun _ _ _ _ _ _ us hl => match us, hl with | [_, _, _], _ => rfl) sc__law_sign (by intro n ds Q h; first | (obtain ⟨_, rfl, _⟩ := h; rfl) | (obtain ⟨_, _, rfl, _⟩ := h; rfl) | (obtain ⟨_, _, _, rfl, _⟩ := h; rfl) | (obtain ⟨_, _, _, _, rfl, _⟩ := h; rfl) | (obtain ⟨_, _, _, _, _, rfl, _⟩ := h; rfl) | (obtain ⟨_, _, _, _, _, _, rfl, _⟩ := h; rfl) | (obtain ⟨_, _, _, _, _, _, _, rfl, _⟩ := h; rfl) | (obtain ⟨_, _, _, _, _, _, _, _, rfl, _⟩ := h; rfl)) w__law_sign (fun cdv A outer s H E hr =>
    (dss_one (ds_ret (de_ct call_tuple_of ok_tuple rfl Tx.n_tuple bt_tuple (dr_cons (toR (de_lc0 (own := [("k", 3)]) rfl sc__law_sign.nd (di_rng1 rfl Tx.n_range (da_cons (de_var 2 (pv 2)) da_nil)) (blkOk_by (own := [("k", 3)]) (by first | rfl | decide +kernel)) (okg_name 3) (fun _ _ _ _ _ => (pg_name (i := 3) sc__law_sign.nd rfl (by first | exact Or.inl rfl | exact Or.inr rfl))) (fun _ _ _ _ _ => (de_fokT h__law_pick hr (by decide) rfl takes0 (pv 0) (pv 1) (da_cons (de_lst (da_cons de_non (da_cons de_non (da_cons de_str (da_cons de_str (da_cons de_str (da_cons de_str da_nil))))))) da_nil))))) dr_nil))))) m__law_sign
theorem sc__law_told : FnScope ["kind", "thing", "caught", "found", "e"] ["kind", "thing"] (defScope s__law_told) := ⟨rfl, rfl, rfl, by decide +kernel, rfl, by decide +kernel, by decide +kernel⟩
theorem f__law_told (Tx : Txt w K mg) (h__law_refusal : Fok P w K mg base "_law_refusal" 1 ["caught"] (spD K Sp__law_refusal)) (h_read : Fok P w K mg base "read" 1 ["text"] (spD K Sp_read)) (h_written : Fok P w K mg base "written" 3 ["sign"] (spD K Sp_written)) : Fok P w K mg base "_law_told" 4 ["kind", "thing"] (spD K Sp__law_told) :=
  fok_of (N := ["kind", "thing", "caught", "found", "e"]) Tx.d__law_told Tx.g__law_told (fun _ _ _ _ _ _ us hl => match us, hl with | [_, _], _ => rfl) sc__law_told (by intro ds Q E h; first | (obtain ⟨_, rfl, _⟩ := h; rfl) | (obtain ⟨_, _, rfl, _⟩ := h; rfl) | (obtain ⟨_, _, _, rfl, _⟩ := h; rfl) | (obtain ⟨_, _, _, _, rfl, _⟩ := h; rfl) | (obtain ⟨_, _, _, _, _, rfl, _⟩ := h; rfl) | (obtain ⟨_, _, _, _, _, _, rfl, _⟩ := h; rfl) | (obtain ⟨_, _, _, _, _, _, _, rfl, _⟩ := h; rfl) | (obtain ⟨_, _, _, _, _, _, _, _, rfl, _⟩ := h; rfl)) w__law_told (fun cdv A outer s H E hr =>
    (dss_cons (ds_set (i := 2) sc__law_told.nd rfl (by first | exact Or.inl rfl | exact Or.inr rfl) de_non)
      (dss_cons (ds_set (i := 3) sc__law_told.nd rfl (by first | exact Or.inl rfl | exact Or.inr rfl) de_non)
      (dss_cons (ds_try (i := 4) (j := 2) Tx.xf rfl rfl rfl sc__law_told.nd rfl rfl Tx.g_SignError rfl (fun W pn xe tk hp => (dss_one (ds_set (i := 3) sc__law_told.nd rfl (by first | exact Or.inl rfl | exact Or.inr rfl) (de_if (dt_cmp (op_eqD hr.units) ok_eq (toR (de_var 0 (pv 0))) (toR de_int) (nomark _)) (de_fok h_read hr (by decide) rfl tk (da_cons (de_var 1 (pv 1)) da_nil)) (de_fok h_written hr (by decide) rfl tk (da_cons (de_var 1 (pv 1)) da_nil)))))) (fun a pn => ps_set (i := 2) sc__law_told.nd rfl (by first | exact Or.inl rfl | exact Or.inr rfl) (pv 4)))
      (dss_one (ds_ret (de_if (dt_cmp op_isN ok_isN (toR (de_var 2 (pv 2))) (toR de_non) (nomark _)) (de_tup (da_cons de_str (da_cons (de_var 3 (pv 3)) da_nil))) (de_fok h__law_refusal hr (by decide) rfl bTakes (da_cons (de_var 2 (pv 2)) da_nil))))))))) m__law_told
theorem sc_law : FnScope ["script", "town", "way", "words", "sign", "text", "some", "k", "spot", "put", "due", "bad", "one"] ["script"] (defScope s_law) := ⟨rfl, rfl, rfl, by decide +kernel, rfl, by decide +kernel, by decide +kernel⟩
theorem f_law {f : Addr} {fd : FuncData} (Tx : Txt w K mg) (h__law_draw : Fok P w K mg base "_law_draw" 3 ["script", "town", "many"] (spT K Sp__law_draw)) (h__law_sign : Fok P w K mg base "_law_sign" 5 ["script", "town", "many"] (spT K Sp__law_sign)) (h__law_told : Fok P w K mg base "_law_told" 4 ["kind", "thing"] (spD K Sp__law_told)) (F : FunD K "law" "law" (defArgs s_law) (defBody s_law) (defScope s_law) [] [] f fd) : FnOk P w K mg base CX0 6 f fd ["script"] (spLaw K) :=
  fn_law (N := ["script", "town", "way", "words", "sign", "text", "some", "k", "spot", "put", "due", "bad", "one"]) F sc_law w_law rfl (fun _ _ => rfl) (fun cdv A outer s H E => ps_set (i := 1) sc_law.nd rfl (by first | exact Or.inl rfl | exact Or.inr rfl) (pe_lst pa_nil)) (fun cdv A outer s H E hr =>
    (dss_cons (ds_lcAll (i := 2) (own := [("k", 7)]) rfl sc_law.nd rfl rfl (sw_true rfl rfl rfl (by decide +kernel)) (di_rng1 rfl Tx.n_range (da_cons de_int da_nil)) (blkOk_by (own := [("k", 7)]) (by first | rfl | decide +kernel)) (okg_name 7) (fun _ _ _ _ _ => (pg_name (i := 7) sc_law.nd rfl (by first | exact Or.inl rfl | exact Or.inr rfl))) (fun _ _ _ _ _ => (de_fokT h__law_draw hr (by decide) rfl takes0 (pv 0) (pv 1) (da_cons de_int da_nil))))
      (dss_cons (ds_set (i := 3) sc_law.nd rfl (by first | exact Or.inl rfl | exact Or.inr rfl) (de_lst (da_cons de_str (da_cons de_str (da_cons de_str (da_cons de_str (da_cons de_non da_nil)))))))
      (dss_cons (ds_set (i := 4) sc_law.nd rfl (by first | exact Or.inl rfl | exact Or.inr rfl) (de_fokT h__law_sign hr (by decide) rfl takes0 (pv 0) (pv 1) (da_cons (de_bin op_add4 ok_add (toR de_int) (toR (de_fokT h__law_draw hr (by decide) rfl takes0 (pv 0) (pv 1) (da_cons de_int da_nil)))) da_nil)))
      (dss_cons (ds_set (i := 5) sc_law.nd rfl (by first | exact Or.inl rfl | exact Or.inr rfl) (de_join de_str (toR (de_lc0 (own := [("one", 12)]) rfl sc_law.nd (di_seq (de_var 4 (pv 4))) (blkOk_by (own := [("one", 12)]) (by first | rfl | decide +kernel)) (okg_name 12) (fun _ _ _ _ _ => (pg_name (i := 12) sc_law.nd rfl (by first | exact Or.inl rfl | exact Or.inr rfl))) (fun _ _ _ _ _ => (de_ix ix_seq ok_ix (toR de_str) (toR (de_lidx hr (toR (de_var 3 (pv 3))) (toR (de_var 12 (pv 12))) (pe_bm PySem.F.plainAttrs_list PySem.F.slot_list_index PySem.F.type_list_index (mt_indexD (hu65 hr)) (toR (de_var 3 (pv 3))) (pa_cons (toR (de_var 12 (pv 12))) pa_nil)))) (fun _ _ => rfl)))))))
      (dss_cons (ds_if (PW.pt (dt_or (dt_cmp (op_neD hr.units) ok_ne (toR (de_fok h__law_told hr (by decide) rfl takes0 (da_cons de_int (da_cons (de_var 4 (pv 4)) da_nil)))) (toR (de_tup (da_cons de_str (da_cons (de_var 5 (pv 5)) da_nil)))) (nomark _)) (dt_or1 (dt_cmp (op_neD hr.units) ok_ne (toR (de_fok h__law_told hr (by decide) rfl takes0 (da_cons de_int (da_cons (de_var 5 (pv 5)) da_nil)))) (toR (de_tup (da_cons de_str (da_cons (de_var 4 (pv 4)) da_nil)))) (nomark _))))) (dss_one (ds_ret de_bl)) dss_nil)
      (dss_cons (ds_set (i := 6) sc_law.nd rfl (by first | exact Or.inl rfl | exact Or.inr rfl) de_str)
      (dss_cons (ds_for PassesOwn.never rfl (di_rng1 rfl Tx.n_range (da_cons de_int da_nil)) (pg_name (i := 7) sc_law.nd rfl (by first | exact Or.inl rfl | exact Or.inr rfl)) (okg_name 7) (dss_cons (ds_set (i := 8) sc_law.nd rfl (by first | exact Or.inl rfl | exact Or.inr rfl) (de_fokT h__law_draw hr (by decide) rfl takes0 (pv 0) (pv 1) (da_cons (de_bin op_add4 ok_add (toR (de_cb call_len ok_len rfl Tx.n_len bt_len (dr_cons (toR (de_var 5 (pv 5))) dr_nil))) (toR de_int)) da_nil)))
      (dss_cons (ds_set (i := 9) sc_law.nd rfl (by first | exact Or.inl rfl | exact Or.inr rfl) (de_ix ix_seq ok_ix (toR (de_lst (da_cons de_str (da_cons de_str (da_cons de_str (da_cons de_str (da_cons (de_ix ix_seq ok_ix (toR (de_var 6 (pv 6))) (toR (de_fokT h__law_draw hr (by decide) rfl takes0 (pv 0) (pv 1) (da_cons (de_cb call_len ok_len rfl Tx.n_len bt_len (dr_cons (toR (de_var 6 (pv 6))) dr_nil)) da_nil))) (fun _ _ => rfl)) da_nil))))))) (toR (de_ix ix_seq ok_ix (toR (de_var 2 (pv 2))) (toR (de_var 7 (pv 7))) (fun _ _ => rfl))) (fun _ _ => rfl)))
      (dss_cons (ds_set (i := 5) sc_law.nd rfl (by first | exact Or.inl rfl | exact Or.inr rfl) (de_bin op_add4 ok_add (toR (de_bin op_add4 ok_add (toR (de_sl (toR (de_var 5 (pv 5))) do_none (do_some (de_var 8 (pv 8))))) (toR (de_var 9 (pv 9))))) (toR (de_sl (toR (de_var 5 (pv 5))) (do_some (de_bin op_add4 ok_add (toR (de_var 8 (pv 8))) (toR (de_bin op_mod ok_mod (toR (de_ix ix_seq ok_ix (toR (de_var 2 (pv 2))) (toR (de_bin op_add4 ok_add (toR (de_var 7 (pv 7))) (toR de_int))) (fun _ _ => rfl))) (toR de_int))))) do_none))))
      (dss_cons (ds_set (i := 10) sc_law.nd rfl (by first | exact Or.inl rfl | exact Or.inr rfl) (de_tup (da_cons de_str (da_cons de_str da_nil))))
      (dss_cons (ds_if (PW.pt (dt_and (dt_chain op_lt op_lt ok_lt ok_lt (toR de_int) (toR (de_cb call_len ok_len rfl Tx.n_len bt_len (dr_cons (toR (de_var 5 (pv 5))) dr_nil))) (toR de_int)) (dt_and1 (dt_cmp (op_eqD hr.units) ok_eq (toR (de_lc (own := [("one", 12)]) rfl sc_law.nd (di_str (de_var 5 (pv 5))) (blkOk_by (own := [("one", 12)]) (by first | rfl | decide +kernel)) (okg_name 12) (fun _ _ _ _ _ => (pg_name (i := 12) sc_law.nd rfl (by first | exact Or.inl rfl | exact Or.inr rfl))) (fun _ _ _ _ _ => pts_one (dt_cmp op_notInS ok_notInS (toR (de_var 12 (pv 12))) (toR de_str) rfl)) (fun _ _ _ _ _ => (de_var 12 (pv 12))))) (toR (de_lst da_nil)) (nomark _))))) (dss_one (ds_set (i := 10) sc_law.nd rfl (by first | exact Or.inl rfl | exact Or.inr rfl) (de_tup (da_cons de_str (da_cons (de_ct call_tuple_of ok_tuple rfl Tx.n_tuple bt_tuple (dr_cons (toR (de_lc0 (own := [("one", 12)]) rfl sc_law.nd (di_str (de_var 5 (pv 5))) (blkOk_by (own := [("one", 12)]) (by first | rfl | decide +kernel)) (okg_name 12) (fun _ _ _ _ _ => (pg_name (i := 12) sc_law.nd rfl (by first | exact Or.inl rfl | exact Or.inr rfl))) (fun _ _ _ _ _ => (de_ix ix_seq ok_ix (toR (de_var 3 (pv 3))) (toR (de_sidx de_str (toR (de_var 12 (pv 12))))) (fun _ _ => rfl))))) dr_nil)) da_nil))))) dss_nil)
      (dss_one (ds_if (dt_cmp (op_neD hr.units) ok_ne (toR (de_fok h__law_told hr (by decide) rfl takes0 (da_cons de_int (da_cons (de_var 5 (pv 5)) da_nil)))) (toR (de_var 10 (pv 10))) (nomark _)) (dss_one (ds_ret de_bl)) dss_nil))))))))
      (dss_cons (ds_set (i := 11) sc_law.nd rfl (by first | exact Or.inl rfl | exact Or.inr rfl) (de_lst (da_cons (de_tup da_nil) (da_cons (de_bin op_mul3 ok_mul (toR (de_tup (da_cons de_non da_nil))) (toR de_int)) (da_cons (de_ct call_list_of ok_list rfl Tx.n_list bt_list (dr_cons (toR (de_var 4 (pv 4))) dr_nil)) (da_cons de_non (da_cons (de_tup (da_cons de_str da_nil)) (da_cons (de_tup (da_cons de_int da_nil)) (da_cons (de_bin op_add4 ok_add (toR (de_tup (da_cons de_bl da_nil))) (toR (de_sl (toR (de_var 4 (pv 4))) (do_some de_int) do_none))) da_nil)))))))))
      (dss_one (ds_ret (de_cmp (op_eqD hr.units) ok_eq (toR (de_lc0 (own := [("one", 12)]) rfl sc_law.nd (di_seq (de_var 11 (pv 11))) (blkOk_by (own := [("one", 12)]) (by first | rfl | decide +kernel)) (okg_name 12) (fun _ _ _ _ _ => (pg_name (i := 12) sc_law.nd rfl (by first | exact Or.inl rfl | exact Or.inr rfl))) (fun _ _ _ _ _ => (de_fok h__law_told hr (by decide) rfl takes0 (da_cons de_int (da_cons (de_var 12 (pv 12)) da_nil)))))) (toR (de_bin op_mul3 ok_mul (toR (de_lst (da_cons (de_tup (da_cons de_str (da_cons de_str da_nil))) da_nil))) (toR de_int))) (nomark _))))))))))))) m_law
end
def de_is_sign : He.DefD := ⟨("is_sign", none), "is_sign", "is_sign", defArgs s_is_sign, defBody s_is_sign, defScope s_is_sign, [], []⟩
def de_look_any : He.DefD := ⟨("look_any", none), "look_any", "look_any", defArgs s_look_any, defBody s_look_any, defScope s_look_any, [], []⟩
def de_written : He.DefD := ⟨("written", none), "written", "written", defArgs s_written, defBody s_written, defScope s_written, [], []⟩
def de_read : He.DefD := ⟨("read", none), "read", "read", defArgs s_read, defBody s_read, defScope s_read, [], []⟩
def de__law_cell : He.DefD := ⟨("_law_cell", none), "_law_cell", "_law_cell", defArgs s__law_cell, defBody s__law_cell, defScope s__law_cell, [], []⟩
def de__law_mix : He.DefD := ⟨("_law_mix", none), "_law_mix", "_law_mix", defArgs s__law_mix, defBody s__law_mix, defScope s__law_mix, [], []⟩
def de__law_draw : He.DefD := ⟨("_law_draw", none), "_law_draw", "_law_draw", defArgs s__law_draw, defBody s__law_draw, defScope s__law_draw, [], []⟩
def de__law_pick : He.DefD := ⟨("_law_pick", none), "_law_pick", "_law_pick", defArgs s__law_pick, defBody s__law_pick, defScope s__law_pick, [], []⟩
def de__law_refusal : He.DefD := ⟨("_law_refusal", none), "_law_refusal", "_law_refusal", defArgs s__law_refusal, defBody s__law_refusal, defScope s__law_refusal, [], []⟩
def de__law_sign : He.DefD := ⟨("_law_sign", none), "_law_sign", "_law_sign", defArgs s__law_sign, defBody s__law_sign, defScope s__law_sign, [], []⟩
def de__law_told : He.DefD := ⟨("_law_told", none), "_law_told", "_law_told", defArgs s__law_told, defBody s__law_told, defScope s__law_told, [], []⟩
def de_law : He.DefD := ⟨("law", none), "law", "law", defArgs s_law, defBody s_law, defScope s_law, [], []⟩
def fn : List He.DefD := [de_is_sign, de_look_any, de_written, de_read, de__law_cell, de__law_mix, de__law_draw, de__law_pick, de__law_refusal, de__law_sign, de__law_told, de_law]
def fa0 : List He.Fa := [.glo "HOLDS", .int "MOST_LINES" 5, .glo "SignError", .glo "LETTERS", .free "ValueError", .free "all", .free "dict", .free "isinstance", .free "len", .free "list", .free "range", .free "str", .free "tuple", .exc "BadNumber", .glo "BadNumber", .exc "BadRows", .glo "BadRows", .exc "BadSign", .glo "BadSign", .exc "BadText", .glo "BadText", .exc "BadTold", .glo "BadTold", .exc "NoSign", .glo "NoSign", .glo "is_sign", .glo "look_any", .glo "written", .glo "read", .glo "_law_cell"]
def fa1 : List He.Fa := [.glo "_law_mix", .glo "_law_draw", .glo "_law_pick", .glo "_law_refusal", .glo "_law_sign", .glo "_law_told", .glo "law"]
def fa : List He.Fa := fa0 ++ fa1
def ts : List He.Tab := [(fun K => He.ga K "LETTERS", ["high", "low", "rise", "fall"]), (fun K => He.ga K "LETTERS", ["high", "low", "rise", "fall"])]
def exB (K : PySem.W.Frag) : Bool := (He.tupB K "HOLDS" [He.Dv.str "high", He.Dv.str "low", He.Dv.str "rise", He.Dv.str "fall"]) && (keysB K (He.ga K "LETTERS") ["high", "low", "rise", "fall"]) && (tabSB K (He.ga K "LETTERS") [("high", "1"), ("low", "0"), ("rise", "r"), ("fall", "f")]) && (xfB K ["BadRows", "BadSign", "BadTold", "BadNumber", "NoSign", "BadText"])
abbrev R : PySem.W.OpenRow := PySem.W.OpenLaw.row PySem.Challenge.rw_signlearn_k50_whole_texts
abbrev hk : PySem.W.Hook := He.hookX 5 fa fn ts [] exB
def ob (s : PySem.W.SharedT) : He.AlX := He.obsX 5 fa fn ts [] exB (HandSHeadRun.getT s)
theorem ob_eq (s : PySem.W.SharedT) : ob s = hk.obs s.abs := He.obsX_eq (HandSHeadRun.getT_eq s)
def lo0 : List PySem.Str := ["SignError", "BadRows", "BadSign", "BadTold", "BadNumber", "NoSign", "BadText", "MOST_LINES", "HOLDS", "is_sign", "look_any", "LETTERS", "written", "read", "_law_cell", "_law_mix", "_law_draw", "_law_pick", "_law_refusal", "_law_sign", "_law_told"]
abbrev lo : List PySem.Str := lo0
theorem runF (w : World) : HandSHeadRun.RunEq R (PySem.W.view R.prog [25]) hk ob 6000 lo (w.withFollow "special-get-raises" false) := by
  intro os
  kernel_rfl
theorem runT (w : World) : HandSHeadRun.RunEq R (PySem.W.view R.prog [25]) hk ob 6000 lo (w.withFollow "special-get-raises" true) := by
  intro os
  kernel_rfl
theorem run (w : World) : HandSHeadRun.RunEq R (PySem.W.view R.prog [25]) hk ob 6000 lo w := PySem.W.byRow2 "special-get-raises" (P := fun w => HandSHeadRun.RunEq R (PySem.W.view R.prog [25]) hk ob 6000 lo w) runF runT w
theorem txt {w : World} {K : PySem.W.Frag} {h : Heap} {mg : Str → Option Value} (X : K.In h) (G : h.Ns mainGlobals mg) (cx : He.SaysX fa fn ts [] exB w h K) : Txt w K mg := by
  have c := cx.t.d
  have exA := cx.more
  unfold exB at exA
  simp only [Bool.and_eq_true] at exA
  have ex3 := exA.2
  have ex2 := exA.1.2
  have ex1 := exA.1.1.2
  have ex0 := exA.1.1.1
  exact {
    c_HOLDS := ⟨He.glo_ok X G (c.fact 0 (f := .glo "HOLDS") rfl), fun H => .tup (He.tupB_ok (vs := [He.Dv.str "high", He.Dv.str "low", He.Dv.str "rise", He.Dv.str "fall"]) ex0 H) (.cons (.str _) (.cons (.str _) (.cons (.str _) (.cons (.str _) .nil))))⟩
    c_MOST_LINES := He.int_ok X G (c.fact 1 (f := .int "MOST_LINES" 5) rfl)
    g_SignError := He.glo_ok X G (c.fact 2 (f := .glo "SignError") rfl)
    k_LETTERS := ⟨He.glo_ok X G (c.fact 3 (f := .glo "LETTERS") rfl), (match cx.t.tab 0 (t := (fun K => He.ga K "LETTERS", ["high", "low", "rise", "fall"])) rfl with | ⟨es, n, D⟩ => ⟨es, n, D, keysB_ok ex1 D⟩), by decide⟩
    n_ValueError := He.free_ok X G (c.fact 4 (f := .free "ValueError") rfl)
    n_all := He.free_ok X G (c.fact 5 (f := .free "all") rfl)
    n_dict := He.free_ok X G (c.fact 6 (f := .free "dict") rfl)
    n_isinstance := He.free_ok X G (c.fact 7 (f := .free "isinstance") rfl)
    n_len := He.free_ok X G (c.fact 8 (f := .free "len") rfl)
    n_list := He.free_ok X G (c.fact 9 (f := .free "list") rfl)
    n_range := He.free_ok X G (c.fact 10 (f := .free "range") rfl)
    n_str := He.free_ok X G (c.fact 11 (f := .free "str") rfl)
    n_tuple := He.free_ok X G (c.fact 12 (f := .free "tuple") rfl)
    t_LETTERS := ⟨He.glo_ok X G (c.fact 3 (f := .glo "LETTERS") rfl), cx.t.tab 1 (t := (fun K => He.ga K "LETTERS", ["high", "low", "rise", "fall"])) rfl, tabSB_ok (T := [("high", "1"), ("low", "0"), ("rise", "r"), ("fall", "f")]) ex2⟩
    x_BadNumber := ⟨He.exc_ok (c.fact 13 (f := .exc "BadNumber") rfl), He.glo_ok X G (c.fact 14 (f := .glo "BadNumber") rfl)⟩
    x_BadRows := ⟨He.exc_ok (c.fact 15 (f := .exc "BadRows") rfl), He.glo_ok X G (c.fact 16 (f := .glo "BadRows") rfl)⟩
    x_BadSign := ⟨He.exc_ok (c.fact 17 (f := .exc "BadSign") rfl), He.glo_ok X G (c.fact 18 (f := .glo "BadSign") rfl)⟩
    x_BadText := ⟨He.exc_ok (c.fact 19 (f := .exc "BadText") rfl), He.glo_ok X G (c.fact 20 (f := .glo "BadText") rfl)⟩
    x_BadTold := ⟨He.exc_ok (c.fact 21 (f := .exc "BadTold") rfl), He.glo_ok X G (c.fact 22 (f := .glo "BadTold") rfl)⟩
    x_NoSign := ⟨He.exc_ok (c.fact 23 (f := .exc "NoSign") rfl), He.glo_ok X G (c.fact 24 (f := .glo "NoSign") rfl)⟩
    xf := xfB_ok ex3
    d_is_sign := c.def_ 0 (d := de_is_sign) rfl
    g_is_sign := He.glo_ok X G (c.fact 25 (f := .glo "is_sign") rfl)
    d_look_any := c.def_ 1 (d := de_look_any) rfl
    g_look_any := He.glo_ok X G (c.fact 26 (f := .glo "look_any") rfl)
    d_written := c.def_ 2 (d := de_written) rfl
    g_written := He.glo_ok X G (c.fact 27 (f := .glo "written") rfl)
    d_read := c.def_ 3 (d := de_read) rfl
    g_read := He.glo_ok X G (c.fact 28 (f := .glo "read") rfl)
    d__law_cell := c.def_ 4 (d := de__law_cell) rfl
    g__law_cell := He.glo_ok X G (c.fact 29 (f := .glo "_law_cell") rfl)
    d__law_mix := c.def_ 5 (d := de__law_mix) rfl
    g__law_mix := He.glo_ok X G (c.fact 30 (f := .glo "_law_mix") rfl)
    d__law_draw := c.def_ 6 (d := de__law_draw) rfl
    g__law_draw := He.glo_ok X G (c.fact 31 (f := .glo "_law_draw") rfl)
    d__law_pick := c.def_ 7 (d := de__law_pick) rfl
    g__law_pick := He.glo_ok X G (c.fact 32 (f := .glo "_law_pick") rfl)
    d__law_refusal := c.def_ 8 (d := de__law_refusal) rfl
    g__law_refusal := He.glo_ok X G (c.fact 33 (f := .glo "_law_refusal") rfl)
    d__law_sign := c.def_ 9 (d := de__law_sign) rfl
    g__law_sign := He.glo_ok X G (c.fact 34 (f := .glo "_law_sign") rfl)
    d__law_told := c.def_ 10 (d := de__law_told) rfl
    g__law_told := He.glo_ok X G (c.fact 35 (f := .glo "_law_told") rfl) }
theorem facts {P : Program} {w : World} {K : PySem.W.Frag} {h : Heap} {mg : Str → Option Value} {f : Addr} (X : K.In h) (G : h.Ns mainGlobals mg) (hfa : mg ("law" : Str) = some (.ref f)) (cx : He.SaysX fa fn ts [] exB w h K) :
    ∃ fd : FuncData, (∀ (s : Shared) (v : Value), BindsTo s fd ⟨[v], []⟩ [("script", v)]) ∧ ∀ base : Heap, K.In base → base.Ns mainGlobals mg → FnOk P w K mg base CX0 6 f fd ["script"] (spLaw K) := by
  have Tx := txt X G cx
  have c := cx.t.d
  obtain ⟨fd, F⟩ := c.def_ 11 (d := de_law) rfl
  have e := hfa.symm.trans (He.glo_ok X G (c.fact 36 (f := .glo "law") rfl))
  cases e
  have b := FunD.bindsA (ps := ["script"]) F fun _ _ _ _ _ _ us hl => match us, hl with | [_], _ => rfl
  refine ⟨fd, fun s v => b s [v] rfl, fun base _ _ => ?_⟩
  have h__law_cell := f__law_cell (P := P) (w := w) (base := base) Tx 
  have h__law_mix := f__law_mix (P := P) (w := w) (base := base) Tx h__law_cell
  have h__law_draw := f__law_draw (P := P) (w := w) (base := base) Tx h__law_mix
  have h__law_pick := f__law_pick (P := P) (w := w) (base := base) Tx h__law_draw
  have h__law_sign := f__law_sign (P := P) (w := w) (base := base) Tx h__law_pick
  have h__law_refusal := f__law_refusal (P := P) (w := w) (base := base) Tx 
  have h_read := f_read (P := P) (w := w) (base := base) Tx 
  have h_is_sign := f_is_sign (P := P) (w := w) (base := base) Tx 
  have h_look_any := f_look_any (P := P) (w := w) (base := base) Tx h_is_sign
  have h_written := f_written (P := P) (w := w) (base := base) Tx h_look_any
  have h__law_told := f__law_told (P := P) (w := w) (base := base) Tx h__law_refusal h_read h_written
  exact f_law Tx h__law_draw h__law_sign h__law_told F
end Lw
open PySem PySem.W PySem.Calls PyProof.Rows
theorem PySem.Challenge.cw_signlearn_k50_whole_texts_holds : PySem.Challenge.rw_signlearn_k50_whole_texts.Holds := by
  w_on; o_law
  refine HandSHeadRun.head_any (r := OpenLaw.row PySem.Challenge.rw_signlearn_k50_whole_texts) (q := view (OpenLaw.row PySem.Challenge.rw_signlearn_k50_whole_texts).prog [25]) (H := Lw.hk) (ob := Lw.ob) (M := 6000) (loose := Lw.lo) (d := HandSHeadRun.topDef (OpenLaw.row PySem.Challenge.rw_signlearn_k50_whole_texts).prog 25) (kwd := []) Lw.ob_eq
    (by kernel_rfl) (fun s => by kernel_rfl) Lw.run (by kernel_rfl) (by kernel_rfl) (by kernel_rfl) (by rfl) (by first | assumption | decide +kernel) (by decide +kernel) ⟨rfl, rfl, rfl, rfl, rfl, by decide +kernel⟩ ?hw ?hc
  case hw => w_witness2
  case hc =>
    refine L2.walk_ofE (l := PySem.Challenge.rw_signlearn_k50_whole_texts) (n := 63) (k := 6) (x := "script") (CX := L2.CX0) rfl (by decide) (by kernel_rfl) ⟨rfl, by decide, by decide⟩ ?F (fun _ _ _ _ z => z)
    intro w mg fa h Y G hmg0
    obtain ⟨K, KX, c⟩ := Y
    have hmg : mg ("law" : PySem.Str) = some (.ref fa) := by
      have e : (HandSHeadRun.topDef (OpenLaw.row PySem.Challenge.rw_signlearn_k50_whole_texts).prog 25).name = ("law" : PySem.Str) := by kernel_rfl
      rw [← e]
      exact hmg0
    obtain ⟨fd, hb, hF⟩ := Lw.facts (P := (PySem.Challenge.rw_signlearn_k50_whole_texts).prog) (w := w) KX G hmg c
    exact ⟨K, fd, Dt.spLaw K, KX, hb, fun H a ns hl _ hS => ⟨a, ns, rfl, hS, fun _ => rfl⟩, hF⟩
